import PyProof.Rows.All
import Wide.All
import OpenK.AllK
import Wide.FinOn
import HandS.ForMost
import HandS.Lambda
import HandS.ForExc
import HandS.Flow
import HandS.Wide
import HandS.TupAny
import HandS.Style
import HandS.Star
import HandS.TupSets
import HandS.IsInst
import HandS.SortInts
import HandS.Iter
import HandS.Zip
import HandS.Exc
import HandS.ExcOwn
import HandS.Codes
import HandS.Conv
import HandS.SetFor
import KE.KSuper
import KE.KExcSuper
import HandS.HeadWalk
import HandS.ExcInit
import HandS.FStr
import KE.KDflt
import KE.KExcIs
import HandS.ExcField
import HandS.Ends
import KE.RegKSuper
import HandS.ExcIs
import KE.RegKIsAll
import PySem.Challenge.RW_threelanes_k47_plain_words_without_a_rep
set_option Elab.async false
set_option linter.all false
set_option maxRecDepth 100000
set_option maxHeartbeats 400000
namespace Eng
open PySem PySem.Spec L2
open PyProof.Rows hiding St

/-- a value as a tree -/
inductive D where
  | non | bl (b : Bool) | int (i : Int) | str (x : Str)
  | lst (xs : List D) | tup (xs : List D) | dic (ks vs : List D) | obj (c : Nat) (ns : List Str) (vs : List D) | scr (xs : List D) | exo (c : Nat) (ns : List Str) (vs : List D)

/-- the written part, the classes' addresses, the tables of code objects -/
structure Gs where
  K : PySem.W.Frag
  c : Nat → Addr
  T : List (Addr × Str)
/-- no table -/
def NT (o : HO) : Prop := ∀ ps, o ≠ .tbl ps
/-- what may be held apart -/
def Mu : HO → Prop
  | .tbl _ => False
  | .ext _ => False
  | .xd _ => False
  | _ => True
/-- an exception's object, its dict at dx -/
def XO (C dx a : Addr) : HO := .ext fun h => ∃ (oe : Obj) (vs : Array Value), h.get? a = some oe ∧ oe.cls = .ref C ∧ oe.dict = some dx ∧ oe.data = .fields vs
theorem nt_lst {xs : List V} : NT (.lst xs) := fun _ z => nomatch z
theorem nt_tup {xs : List V} : NT (.tup xs) := fun _ z => nomatch z
theorem nt_dK {xs : List (Key × V)} : NT (.dK xs) := fun _ z => nomatch z
theorem nt_dT {xs : List (List Key × V)} : NT (.dT xs) := fun _ z => nomatch z
theorem nt_ins {C dx : Addr} {fs : List (Str × V)} : NT (.ins C dx fs) := fun _ z => nomatch z
theorem nt_frz {o : Obj} {u : HO} : NT (.frz o u) := fun _ z => nomatch z
theorem nt_xd {fs : List (Str × V)} : NT (.xd fs) := fun _ z => nomatch z
theorem nt_ext {φ : Heap → Prop} : NT (.ext φ) := fun _ z => nomatch z
theorem nt_mu {o : HO} (h : Mu o) : NT o := fun ps z => by subst z; exact h
/-- the script: an object that stands -/
def ScrAt (G : Gs) (Av : Addr → Prop) (H : Hp) (a : Addr) (vs : List V) : Prop := (¬ Av a ∧ Rd H a (.lst vs)) ∨
  ∃ (o : Obj) (its : Array Value) (n : Nat), G.K.lookup a = some o ∧ o.cls = .type "list" ∧ o.dict = none ∧ o.data = .seq its n ∧ its.size ≤ sizeLine ∧ Vals vs its.toList
theorem ScrAt.sq {G : Gs} {Av : Addr → Prop} {H : Hp} {a : Addr} {vs : List V} (h : ScrAt G Av H a vs) : SqL G.K H a vs := h.elim (fun z => .inl z.2) .inr

def kD : Key → D
  | .inl i => .int i
  | .inr x => .str x
def tD (l : List Key) : D := .tup (l.map kD)

/-- a dict at a -/
def DicAt (H : Hp) (a : Addr) (ks : List D) (vs : List V) : Prop :=
  (∃ kk : List Key, ks = kk.map kD ∧ kk.length = vs.length ∧ H a = some (.dK (kk.zip vs))) ∨
  (∃ kk : List (List Key), ks = kk.map tD ∧ (kk.length = vs.length ∧ kk ≠ []) ∧ H a = some (.dT (kk.zip vs)))

mutual
/-- v is d in H, its objects apart from Av -/
def Rep (G : Gs) (Av : Addr → Prop) (H : Hp) : D → V → Prop
  | .non, v => v = .non
  | .bl b, v => v = .bl b
  | .int i, v => v = .int i
  | .str x, v => v = .str x
  | .lst ds, v => ∃ a vs, v = .ref a ∧ ¬ Av a ∧ H a = some (.lst vs) ∧ Reps G Av H ds vs
  | .tup ds, v => ∃ a vs, v = .ref a ∧ ¬ Av a ∧ H a = some (.tup vs) ∧ Reps G Av H ds vs
  | .dic ks ds, v => ∃ a vs, v = .ref a ∧ ¬ Av a ∧ DicAt H a ks vs ∧ Reps G Av H ds vs
  | .obj c ns ds, v => ∃ a dx vs, v = .ref a ∧ ¬ Av a ∧ H a = some (.ins (G.c c) dx (ns.zip vs)) ∧ ns.length = vs.length ∧ Reps G Av H ds vs
  | .scr ds, v => ∃ a vs, v = .ref a ∧ ScrAt G Av H a vs ∧ Reps G Av H ds vs
  | .exo c ns ds, v => ∃ a dx vs, v = .ref a ∧ ¬ Av a ∧ ¬ Av dx ∧ H a = some (XO (G.c c) dx a) ∧ H dx = some (.xd (ns.zip vs)) ∧ ns.length = vs.length ∧ Reps G Av H ds vs
def Reps (G : Gs) (Av : Addr → Prop) (H : Hp) : List D → List V → Prop
  | [], vs => vs = []
  | d :: ds, vs => ∃ v r, vs = v :: r ∧ Rep G Av H d v ∧ Reps G Av H ds r
end

/-- .. where the top object may be anything -/
def Vw (G : Gs) (Av : Addr → Prop) (H : Hp) : D → V → Prop
  | .non, v => v = .non
  | .bl b, v => v = .bl b
  | .int i, v => v = .int i
  | .str x, v => v = .str x
  | .lst ds, v => ∃ a vs, v = .ref a ∧ H a = some (.lst vs) ∧ Reps G Av H ds vs
  | .tup ds, v => ∃ a vs, v = .ref a ∧ H a = some (.tup vs) ∧ Reps G Av H ds vs
  | .dic ks ds, v => ∃ a vs, v = .ref a ∧ DicAt H a ks vs ∧ Reps G Av H ds vs
  | .obj c ns ds, v => ∃ a dx vs, v = .ref a ∧ H a = some (.ins (G.c c) dx (ns.zip vs)) ∧ ns.length = vs.length ∧ Reps G Av H ds vs
  | .scr ds, v => ∃ a vs, v = .ref a ∧ ScrAt G Av H a vs ∧ Reps G Av H ds vs
  | .exo c ns ds, v => ∃ a dx vs, v = .ref a ∧ ¬ Av a ∧ ¬ Av dx ∧ H a = some (XO (G.c c) dx a) ∧ H dx = some (.xd (ns.zip vs)) ∧ ns.length = vs.length ∧ Reps G Av H ds vs

def MutD : D → Bool
  | .lst _ => true
  | .dic _ _ => true
  | .obj _ _ _ => true
  | _ => false

abbrev Ext (H H' : Hp) : Prop := ∀ a o, H a = some o → H' a = some o
abbrev Tabs (G : Gs) (H : Hp) : Prop := LamX.Tabs G.T H
/-- tables stay where tables and code objects stay -/
theorem tabs_of {G : Gs} {H H' : Hp} (t : Tabs G H) (e : ∀ a o, H a = some o → ¬ Mu o → H' a = some o) : Tabs G H' := fun p hp => by
  obtain ⟨ps, h1, h2, h3⟩ := t p hp
  refine ⟨ps, e _ _ h1 (fun z => z), h2, fun pos cv hc => ?_⟩
  obtain ⟨c, e1, e2⟩ := h3 pos cv hc
  exact ⟨c, e1, e _ _ e2 (fun z => z)⟩
theorem tabs_ext {G : Gs} {H H' : Hp} (t : Tabs G H) (e : Ext H H') : Tabs G H' := tabs_of t fun a o q _ => e a o q
theorem tabs_upd {G : Gs} {H : Hp} {p : Addr} {o : HO} (t : Tabs G H) (h : ∀ u, H p = some u → Mu u) : Tabs G (upd H p o) := tabs_of t fun a u q n => by
  rw [upd_ne (b := a) (fun z : a = p => n (h u (by rw [← z]; exact q)))]; exact q

section
variable {G : Gs} {Av Av' : Addr → Prop} {H H' : Hp}
theorem ScrAt.mono {a : Addr} {vs : List V} (h : ScrAt G Av H a vs) (e : ∀ a o, H a = some o → ¬ Av a → NT o → H' a = some o) (s : ∀ a, Av' a → Av a ∨ H a = none) : ScrAt G Av' H' a vs := by
  rcases h with ⟨h1, h2⟩ | h
  · refine .inl ⟨fun z => (s a z).elim h1 fun n => ?_, ?_⟩
    · rcases h2 with h2 | ⟨o, h2⟩ <;> (rw [h2] at n; cases n)
    · rcases h2 with h2 | ⟨o, h2⟩
      · exact .inl (e _ _ h2 h1 nt_lst)
      · exact .inr ⟨o, e _ _ h2 h1 nt_frz⟩
  · exact .inr h
theorem DicAt.mono {a : Addr} {ks : List D} {vs : List V} (h : DicAt H a ks vs) (e : ∀ o, H a = some o → NT o → H' a = some o) : DicAt H' a ks vs := by
  rcases h with ⟨kk, h1, h2, h3⟩ | ⟨kk, h1, h2, h3⟩
  · exact .inl ⟨kk, h1, h2, e _ h3 nt_dK⟩
  · exact .inr ⟨kk, h1, h2, e _ h3 nt_dT⟩
theorem DicAt.some {a : Addr} {ks : List D} {vs : List V} (h : DicAt H a ks vs) : ∃ o, H a = some o := by
  rcases h with ⟨kk, _, _, h3⟩ | ⟨kk, _, _, h3⟩ <;> exact ⟨_, h3⟩
mutual
theorem Rep.mono (e : ∀ a o, H a = some o → ¬ Av a → NT o → H' a = some o) (s : ∀ a, Av' a → Av a ∨ H a = none) : ∀ (d : D) {v : V}, Rep G Av H d v → Rep G Av' H' d v
  | .non, v, h => h
  | .bl _, v, h => h
  | .int _, v, h => h
  | .str _, v, h => h
  | .lst ds, v, ⟨a, vs, h1, h2, h3, h4⟩ => ⟨a, vs, h1, fun z => (s a z).elim h2 (fun n => by rw [h3] at n; cases n), e a _ h3 h2 nt_lst, Reps.mono e s ds h4⟩
  | .tup ds, v, ⟨a, vs, h1, h2, h3, h4⟩ => ⟨a, vs, h1, fun z => (s a z).elim h2 (fun n => by rw [h3] at n; cases n), e a _ h3 h2 nt_tup, Reps.mono e s ds h4⟩
  | .dic ks ds, v, ⟨a, vs, h1, h2, h3, h4⟩ => ⟨a, vs, h1, fun z => (s a z).elim h2 (fun n => by obtain ⟨o, q⟩ := h3.some; rw [q] at n; cases n), h3.mono (fun o q t => e a o q h2 t), Reps.mono e s ds h4⟩
  | .obj c ns ds, v, ⟨a, dx, vs, h1, h2, h3, h5, h4⟩ => ⟨a, dx, vs, h1, fun z => (s a z).elim h2 (fun n => by rw [h3] at n; cases n), e a _ h3 h2 nt_ins, h5, Reps.mono e s ds h4⟩
  | .scr ds, v, ⟨a, vs, h1, h3, h4⟩ => ⟨a, vs, h1, h3.mono e s, Reps.mono e s ds h4⟩
  | .exo c ns ds, v, ⟨a, dx, vs, h1, h2, h2', h3, h5, h6, h4⟩ => ⟨a, dx, vs, h1, fun z => (s a z).elim h2 (fun n => by rw [h3] at n; cases n), fun z => (s dx z).elim h2' (fun n => by rw [h5] at n; cases n), e a _ h3 h2 nt_ext, e dx _ h5 h2' nt_xd, h6, Reps.mono e s ds h4⟩
theorem Reps.mono (e : ∀ a o, H a = some o → ¬ Av a → NT o → H' a = some o) (s : ∀ a, Av' a → Av a ∨ H a = none) : ∀ (ds : List D) {vs : List V}, Reps G Av H ds vs → Reps G Av' H' ds vs
  | [], vs, h => h
  | d :: ds, vs, ⟨v, r, h1, h2, h3⟩ => ⟨v, r, h1, Rep.mono e s d h2, Reps.mono e s ds h3⟩
end
theorem Rep.vw : ∀ {d : D} {v : V}, Rep G Av H d v → Vw G Av H d v
  | .non, v, h => h
  | .bl _, v, h => h
  | .int _, v, h => h
  | .str _, v, h => h
  | .lst ds, v, ⟨a, vs, h1, h2, h3, h4⟩ => ⟨a, vs, h1, h3, h4⟩
  | .tup ds, v, ⟨a, vs, h1, h2, h3, h4⟩ => ⟨a, vs, h1, h3, h4⟩
  | .dic ks ds, v, ⟨a, vs, h1, h2, h3, h4⟩ => ⟨a, vs, h1, h3, h4⟩
  | .obj c ns ds, v, ⟨a, dx, vs, h1, h2, h3, h5, h4⟩ => ⟨a, dx, vs, h1, h3, h5, h4⟩
  | .scr ds, v, h => h
  | .exo c ns ds, v, h => h
/-- the top object apart, too -/
theorem Vw.rep : ∀ {d : D} {v : V}, Vw G Av H d v → (∀ a, v = .ref a → ¬ Av a) → Rep G Av H d v
  | .non, v, h, _ => h
  | .bl _, v, h, _ => h
  | .int _, v, h, _ => h
  | .str _, v, h, _ => h
  | .lst ds, v, ⟨a, vs, h1, h3, h4⟩, n => ⟨a, vs, h1, n a h1, h3, h4⟩
  | .tup ds, v, ⟨a, vs, h1, h3, h4⟩, n => ⟨a, vs, h1, n a h1, h3, h4⟩
  | .dic ks ds, v, ⟨a, vs, h1, h3, h4⟩, n => ⟨a, vs, h1, n a h1, h3, h4⟩
  | .obj c ns ds, v, ⟨a, dx, vs, h1, h3, h5, h4⟩, n => ⟨a, dx, vs, h1, n a h1, h3, h5, h4⟩
  | .scr ds, v, h, _ => h
  | .exo c ns ds, v, h, _ => h
/-- all but Av is kept, the top object, too -/
theorem Vw.mono (e : ∀ a o, H a = some o → ¬ Av a → NT o → H' a = some o) (s : ∀ a, Av' a → Av a ∨ H a = none) : ∀ {d : D} {v : V}, Vw G Av H d v → (∀ a o, v = .ref a → H a = some o → NT o → H' a = some o) → Vw G Av' H' d v
  | .non, v, h, _ => h
  | .bl _, v, h, _ => h
  | .int _, v, h, _ => h
  | .str _, v, h, _ => h
  | .lst ds, v, ⟨a, vs, h1, h3, h4⟩, n => ⟨a, vs, h1, n a _ h1 h3 nt_lst, Reps.mono e s ds h4⟩
  | .tup ds, v, ⟨a, vs, h1, h3, h4⟩, n => ⟨a, vs, h1, n a _ h1 h3 nt_tup, Reps.mono e s ds h4⟩
  | .dic ks ds, v, ⟨a, vs, h1, h3, h4⟩, n => ⟨a, vs, h1, h3.mono (fun o q t => n a o h1 q t), Reps.mono e s ds h4⟩
  | .obj c ns ds, v, ⟨a, dx, vs, h1, h3, h5, h4⟩, n => ⟨a, dx, vs, h1, n a _ h1 h3 nt_ins, h5, Reps.mono e s ds h4⟩
  | .scr ds, v, ⟨a, vs, h1, h3, h4⟩, n => ⟨a, vs, h1, h3.mono e s, Reps.mono e s ds h4⟩
  | .exo c ns ds, v, ⟨a, dx, vs, h1, h2, h2', h3, h5, h6, h4⟩, _ => ⟨a, dx, vs, h1, fun z => (s a z).elim h2 (fun n => by rw [h3] at n; cases n), fun z => (s dx z).elim h2' (fun n => by rw [h5] at n; cases n), e a _ h3 h2 nt_ext, e dx _ h5 h2' nt_xd, h6, Reps.mono e s ds h4⟩
/-- what can be changed is an object -/
theorem Vw.addr : ∀ {d : D} {v : V}, Vw G Av H d v → MutD d = true → ∃ a, v = .ref a
  | .lst ds, v, ⟨a, vs, h1, _⟩, _ => ⟨a, h1⟩
  | .dic ks ds, v, ⟨a, vs, h1, _⟩, _ => ⟨a, h1⟩
  | .obj c ns ds, v, ⟨a, dx, vs, h1, _⟩, _ => ⟨a, h1⟩
  | .non, _, _, n => nomatch n
  | .bl _, _, _, n => nomatch n
  | .int _, _, _, n => nomatch n
  | .str _, _, _, n => nomatch n
  | .tup _, _, _, n => nomatch n
  | .scr _, _, _, n => nomatch n
  | .exo _ _ _, _, _, n => nomatch n
theorem Vw.muN : ∀ {d : D} {p : Addr}, Vw G Av H d (.ref p) → MutD d = true → ∃ o, H p = some o ∧ Mu o
  | .lst ds, p, ⟨a, vs, h1, h2, _⟩, _ => by cases h1; exact ⟨_, h2, trivial⟩
  | .dic ks ds, p, ⟨a, vs, h1, h2, _⟩, _ => by
    cases h1
    rcases h2 with ⟨kk, _, _, h3⟩ | ⟨kk, _, _, h3⟩ <;> exact ⟨_, h3, trivial⟩
  | .obj c ns ds, p, ⟨a, dx, vs, h1, h2, _⟩, _ => by cases h1; exact ⟨_, h2, trivial⟩
  | .non, _, _, n => nomatch n
  | .bl _, _, _, n => nomatch n
  | .int _, _, _, n => nomatch n
  | .str _, _, _, n => nomatch n
  | .tup _, _, _, n => nomatch n
  | .scr _, _, _, n => nomatch n
  | .exo _ _ _, _, _, n => nomatch n
theorem Reps.length : ∀ {ds : List D} {vs : List V}, Reps G Av H ds vs → vs.length = ds.length
  | [], vs, h => by cases (show vs = [] from h); rfl
  | d :: ds, vs, ⟨v, r, h1, h2, h3⟩ => by subst h1; simp [h3.length]
theorem Reps.get : ∀ {ds : List D} {vs : List V} {i : Nat} {v : V}, Reps G Av H ds vs → vs[i]? = some v → ∃ d, ds[i]? = some d ∧ Rep G Av H d v
  | [], vs, i, v, h, q => by cases (show vs = [] from h); simp at q
  | d :: ds, vs, 0, v, ⟨w, r, h1, h2, h3⟩, q => by subst h1; simp at q; subst q; exact ⟨d, rfl, h2⟩
  | d :: ds, vs, i + 1, v, ⟨w, r, h1, h2, h3⟩, q => by subst h1; simpa using h3.get (by simpa using q)
theorem Reps.get' : ∀ {ds : List D} {vs : List V} {i : Nat} {d : D}, Reps G Av H ds vs → ds[i]? = some d → ∃ v, vs[i]? = some v ∧ Rep G Av H d v
  | [], vs, i, v, h, q => by simp at q
  | d :: ds, vs, 0, e, ⟨w, r, h1, h2, h3⟩, q => by subst h1; simp at q; subst q; exact ⟨w, rfl, h2⟩
  | d :: ds, vs, i + 1, e, ⟨w, r, h1, h2, h3⟩, q => by subst h1; simpa using h3.get' (by simpa using q)
theorem Reps.append : ∀ {ds es : List D} {vs us : List V}, Reps G Av H ds vs → Reps G Av H es us → Reps G Av H (ds ++ es) (vs ++ us)
  | [], es, vs, us, h, q => by cases (show vs = [] from h); exact q
  | d :: ds, es, vs, us, ⟨w, r, h1, h2, h3⟩, q => by subst h1; exact ⟨w, r ++ us, rfl, h2, h3.append q⟩
theorem Reps.take : ∀ {ds : List D} {vs : List V} (n : Nat), Reps G Av H ds vs → Reps G Av H (ds.take n) (vs.take n)
  | ds, vs, 0, h => by simp [Reps]
  | [], vs, n + 1, h => by cases (show vs = [] from h); exact h
  | d :: ds, vs, n + 1, ⟨w, r, h1, h2, h3⟩ => by subst h1; exact ⟨w, r.take n, rfl, h2, h3.take n⟩
theorem Reps.drop : ∀ {ds : List D} {vs : List V} (n : Nat), Reps G Av H ds vs → Reps G Av H (ds.drop n) (vs.drop n)
  | ds, vs, 0, h => h
  | [], vs, n + 1, h => by cases (show vs = [] from h); exact h
  | d :: ds, vs, n + 1, ⟨w, r, h1, h2, h3⟩ => by subst h1; exact h3.drop n
theorem Reps.reverse : ∀ {ds : List D} {vs : List V}, Reps G Av H ds vs → Reps G Av H ds.reverse vs.reverse
  | [], vs, h => by cases (show vs = [] from h); exact h
  | d :: ds, vs, ⟨w, r, h1, h2, h3⟩ => by
    subst h1; simp only [List.reverse_cons]; exact h3.reverse.append ⟨w, [], rfl, h2, rfl⟩
theorem Reps.set : ∀ {ds : List D} {vs : List V} (n : Nat) {d : D} {v : V}, Reps G Av H ds vs → Rep G Av H d v → Reps G Av H (ds.set n d) (vs.set n v)
  | [], vs, n, d, v, h, q => by cases (show vs = [] from h); exact h
  | e :: ds, vs, 0, d, v, ⟨w, r, h1, h2, h3⟩, q => by subst h1; exact ⟨v, r, rfl, q, h3⟩
  | e :: ds, vs, n + 1, d, v, ⟨w, r, h1, h2, h3⟩, q => by subst h1; exact ⟨w, r.set n v, rfl, h2, h3.set n q⟩
theorem Reps.eraseIdx : ∀ {ds : List D} {vs : List V} (n : Nat), Reps G Av H ds vs → Reps G Av H (ds.eraseIdx n) (vs.eraseIdx n)
  | [], vs, n, h => by cases (show vs = [] from h); exact h
  | e :: ds, vs, 0, ⟨w, r, h1, h2, h3⟩ => by subst h1; exact h3
  | e :: ds, vs, n + 1, ⟨w, r, h1, h2, h3⟩ => by subst h1; exact ⟨w, r.eraseIdx n, rfl, h2, h3.eraseIdx n⟩
theorem Reps.snoc {ds : List D} {vs : List V} {d : D} {v : V} (h : Reps G Av H ds vs) (q : Rep G Av H d v) : Reps G Av H (ds ++ [d]) (vs ++ [v]) := h.append ⟨v, [], rfl, q, rfl⟩
theorem Reps.one {d : D} {v : V} (q : Rep G Av H d v) : Reps G Av H [d] [v] := ⟨v, [], rfl, q, rfl⟩
theorem Reps.nil : Reps G Av H [] [] := rfl
end
end Eng

namespace Eng
open PySem PySem.Spec L2
open PyProof.Rows hiding St

/-- a slot: empty, shared, owned, a parameter that is changed, owned and locked -/
inductive SV where
  | no | sh (d : D) | ow (d : D) | io (d : D) | lk (d : D)
abbrev SS := List SV
def SV.dat : SV → Option D
  | .no => none
  | .sh d => some d
  | .ow d => some d
  | .io d => some d
  | .lk d => some d
/-- it has a root -/
def SV.rt : SV → Option D
  | .no => none
  | .sh _ => none
  | .ow d => some d
  | .io d => some d
  | .lk d => some d
/-- its root may change -/
def SV.mu : SV → Option D
  | .no => none
  | .sh _ => none
  | .ow d => some d
  | .io d => some d
  | .lk _ => none
theorem SV.mu_rt {s : SV} {d : D} (h : s.mu = some d) : s.rt = some d := by cases s <;> first | exact h | cases h
theorem SV.rt_dat {s : SV} {d : D} (h : s.rt = some d) : s.dat = some d := by cases s <;> first | exact h | cases h

/-- what an expression yields: shared, fresh, or the object that a slot holds -/
inductive RV where
  | sh (d : D) | fr (d : D) | br (i : Nat)

/-- an end -/
inductive R (α : Type) where
  | ok (a : α) (S : SS) | exc (e : D) (S : SS) | bad
@[inline] def R.bind {α β : Type} : R α → (α → SS → R β) → R β
  | .ok a S, f => f a S
  | .exc e S, _ => .exc e S
  | .bad, _ => .bad

def Owns (S : SS) (i : Nat) : Prop := ∃ s d, S[i]? = some s ∧ s.mu = some d
def Holds (S : SS) (i : Nat) : Prop := ∃ s d, S[i]? = some s ∧ s.rt = some d
def Live (S : SS) (i : Nat) : Prop := ∃ s d, S[i]? = some s ∧ s.dat = some d
def dAt (S : SS) (i : Nat) : Option D := (S[i]?).bind SV.dat
def At (σ : St) (i : Nat) (a : Addr) : Prop := σ[i]? = some (some (.ref a))
theorem At.inj {σ : St} {i : Nat} {a b : Addr} (h : At σ i a) (q : At σ i b) : a = b := by
  have e : σ[i]? = some (some (.ref a)) := h
  rw [show σ[i]? = some (some (.ref b)) from q] at e
  cases e; rfl
theorem Owns.holds {S : SS} {i : Nat} (h : Owns S i) : Holds S i := let ⟨s, d, q, r⟩ := h; ⟨s, d, q, s.mu_rt r⟩
/-- the roots that may change -/
def Root (S : SS) (σ : St) (a : Addr) : Prop := ∃ i, Owns S i ∧ At σ i a

structure StOk (G : Gs) (Av : Addr → Prop) (S : SS) (σ : St) (H : Hp) : Prop where
  len : S.length = σ.length
  dom : ∀ a, Av a → ∃ o, H a = some o ∧ Mu o
  tb : Tabs G H
  sh : ∀ (i : Nat) (d : D), S[i]? = some (.sh d) → ∃ v, σ[i]? = some (some v) ∧ Rep G Av H d v
  ow : ∀ (i : Nat) (s : SV) (d : D), S[i]? = some s → s.rt = some d → ∃ p, At σ i p ∧ Av p ∧ Vw G Av H d (.ref p) ∧ MutD d = true
  dis : ∀ (i j : Nat) (p : Addr), Holds S i → Holds S j → At σ i p → At σ j p → i = j

/-- behind an expression: its value -/
def RVOk (G : Gs) (Av : Addr → Prop) (S : SS) (σ : St) (H0 H : Hp) (v : V) (rv : RV) : Prop := match rv with
  | RV.sh d => Rep G Av H d v
  | .fr d => ∃ p, v = .ref p ∧ Av p ∧ H0 p = none ∧ Vw G Av H d v ∧ MutD d = true
  | .br i => σ[i]? = some (some v) ∧ Live S i

structure Post (G : Gs) (Av : Addr → Prop) (S : SS) (σ : St) (H : Hp) (Av' : Addr → Prop) (S' : SS) (H' : Hp) : Prop where
  frame : ∀ a o, H a = some o → ¬ Root S σ a → NT o → H' a = some o
  stay : ∀ a o, H a = some o → ∃ o', H' a = some o'
  sub : ∀ a, Av' a → Av a ∨ H a = none
  held : ∀ a, Av a → ¬ Root S σ a → Av' a
  roots : ∀ i, Owns S' i → Owns S i
  holds : ∀ i, Holds S' i → Holds S i
  live : ∀ i, Live S i → Live S' i
  ios : ∀ (i : Nat) d, S[i]? = some (.io d) → ∃ d', S'[i]? = some (.io d')
  lks : ∀ (i : Nat) d, S[i]? = some (.lk d) → S'[i]? = some (.lk d)
  st : StOk G Av' S' σ H'

structure EPost (G : Gs) (Av : Addr → Prop) (S : SS) (σ : St) (H : Hp) (rv : RV) (S' : SS) (v : V) (H' : Hp) : Prop where
  ex : ∃ Av', Post G Av S σ H Av' S' H' ∧ RVOk G Av' S' σ H H' v rv

section
variable {G : Gs} {Av Av1 Av2 : Addr → Prop} {S S1 S2 : SS} {σ : St} {H H1 H2 : Hp}
theorem Live.dAt {i : Nat} (h : Live S i) : ∃ d, dAt S i = some d := by
  obtain ⟨s, d, h, q⟩ := h
  exact ⟨d, by unfold Eng.dAt; rw [h]; exact q⟩
theorem dAt_live {i : Nat} {d : D} (h : dAt S i = some d) : ∃ s, S[i]? = some s ∧ s.dat = some d := by
  unfold dAt at h
  cases e : S[i]? with
  | none => rw [e] at h; cases h
  | some s => rw [e] at h; exact ⟨s, rfl, h⟩
theorem dat_cases {s : SV} {d : D} (h : s.dat = some d) : s = .sh d ∨ s.rt = some d := by
  cases s with
  | no => cases h
  | sh e => cases h; exact .inl rfl
  | ow e => exact .inr h
  | io e => exact .inr h
  | lk e => exact .inr h
/-- what a slot holds, as a view -/
theorem StOk.view (st : StOk G Av S σ H) {i : Nat} {d : D} (h : dAt S i = some d) : ∃ v, σ[i]? = some (some v) ∧ Vw G Av H d v ∧ (MutD d = false → Rep G Av H d v) := by
  obtain ⟨s, h, q⟩ := dAt_live h
  rcases dat_cases q with rfl | q
  · obtain ⟨v, h1, h2⟩ := st.sh i d h
    exact ⟨v, h1, h2.vw, fun _ => h2⟩
  · obtain ⟨p, h1, _, h3, h4⟩ := st.ow i s d h q
    exact ⟨.ref p, h1, h3, fun z => by rw [h4] at z; cases z⟩
theorem Root.av (st : StOk G Av S σ H) {a : Addr} (r : Root S σ a) : Av a := by
  obtain ⟨i, ⟨s, d, hd, hm⟩, ha⟩ := r
  obtain ⟨p, h1, h2, _⟩ := st.ow i s d hd (s.mu_rt hm)
  rw [ha.inj h1]
  exact h2
theorem Post.refl (st : StOk G Av S σ H) : Post G Av S σ H Av S H :=
  ⟨fun _ _ q _ _ => q, fun _ o q => ⟨o, q⟩, fun _ q => .inl q, fun _ q _ => q, fun _ q => q, fun _ q => q, fun _ q => q, fun _ d q => ⟨d, q⟩, fun _ _ q => q, st⟩
theorem Post.root (p : Post G Av S σ H Av1 S1 H1) {a : Addr} (r : Root S1 σ a) : Root S σ a := by
  obtain ⟨i, h, q⟩ := r
  exact ⟨i, p.roots i h, q⟩
theorem Post.trans (p : Post G Av S σ H Av1 S1 H1) (q : Post G Av1 S1 σ H1 Av2 S2 H2) : Post G Av S σ H Av2 S2 H2 where
  frame := fun a o h n t => q.frame a o (p.frame a o h n t) (fun r => n (p.root r)) t
  stay := fun a o h => let ⟨o', h'⟩ := p.stay a o h; q.stay a o' h'
  sub := fun a h => by
    rcases q.sub a h with h | h
    · exact p.sub a h
    · refine .inr ?_
      cases e : H a with
      | none => rfl
      | some o => obtain ⟨o', h'⟩ := p.stay a o e; rw [h'] at h; cases h
  held := fun a h n => q.held a (p.held a h n) fun r => n (p.root r)
  roots := fun i h => p.roots i (q.roots i h)
  holds := fun i h => p.holds i (q.holds i h)
  live := fun i h => q.live i (p.live i h)
  ios := fun i d h => let ⟨d', h'⟩ := p.ios i d h; q.ios i d' h'
  lks := fun i d h => q.lks i d (p.lks i d h)
  st := q.st
/-- a shared value is carried on -/
theorem Post.rep (p : Post G Av S σ H Av1 S1 H1) (st : StOk G Av S σ H) {d : D} {v : V} (h : Rep G Av H d v) : Rep G Av1 H1 d v :=
  h.mono (fun a o q n t => p.frame a o q (fun r => n (r.av st)) t) p.sub
theorem Post.reps (p : Post G Av S σ H Av1 S1 H1) (st : StOk G Av S σ H) {d : List D} {v : List V} (h : Reps G Av H d v) : Reps G Av1 H1 d v :=
  Reps.mono (fun a o q n t => p.frame a o q (fun r => n (r.av st)) t) p.sub d h
/-- a held object that no slot owns is carried on -/
theorem Post.vw (p : Post G Av S σ H Av1 S1 H1) (st : StOk G Av S σ H) {d : D} {v : V} (h : Vw G Av H d v) (n : ∀ a, v = .ref a → ¬ Root S σ a) : Vw G Av1 H1 d v :=
  h.mono (fun a o q n t => p.frame a o q (fun r => n (r.av st)) t) p.sub fun a o e q t => p.frame a o q (n a e) t
end

/-! ### to share -/
/-- a value as a shared one -/
def shr (rv : RV) (S : SS) : R D := match rv with
  | .sh d => .ok d S
  | .fr d => .ok d S
  | .br i => match S[i]? with
    | some (.sh d) => .ok d S
    | some (.ow d) => .ok d (S.set i (.sh d))
    | _ => .bad

section
variable {G : Gs} {Av Av1 Av2 : Addr → Prop} {S S1 S2 : SS} {σ : St} {H H1 H2 : Hp}
theorem get_set_cases {α : Type} {l : List α} {i j : Nat} {x y : α} (h : (l.set i x)[j]? = some y) : (j = i ∧ y = x) ∨ (j ≠ i ∧ l[j]? = some y) := by
  by_cases e : j = i
  · subst e
    have hl : j < l.length := by
      have := (List.getElem?_eq_some_iff.mp h).1
      simpa using this
    rw [List.getElem?_set_self hl] at h
    exact .inl ⟨rfl, (Option.some.inj h).symm⟩
  · rw [List.getElem?_set_ne (Ne.symm e)] at h
    exact .inr ⟨e, h⟩
theorem set_ne {α : Type} {l : List α} {i j : Nat} {x : α} (e : j ≠ i) : (l.set i x)[j]? = l[j]? := List.getElem?_set_ne (Ne.symm e)
theorem set_eq {α : Type} {l : List α} {i : Nat} {x y : α} (h : l[i]? = some y) : (l.set i x)[i]? = some x := by
  rw [List.getElem?_set_self (List.getElem?_eq_some_iff.mp h).1]
theorem Rep.less {Av' : Addr → Prop} (s : ∀ a, Av' a → Av a) {d : D} {v : V} (h : Rep G Av H d v) : Rep G Av' H d v := h.mono (fun _ _ q _ _ => q) fun a q => .inl (s a q)
theorem Vw.less {Av' : Addr → Prop} (s : ∀ a, Av' a → Av a) {d : D} {v : V} (h : Vw G Av H d v) : Vw G Av' H d v := h.mono (fun _ _ q _ _ => q) (fun a q => .inl (s a q)) fun _ _ _ q _ => q
/-- an owned slot is shared: its root is no longer apart -/
theorem StOk.unown (st : StOk G Av S σ H) {i : Nat} {d : D} {p : Addr} (h : S[i]? = some (.ow d)) (hp : At σ i p) :
    Post G Av S σ H (fun a => Av a ∧ a ≠ p) (S.set i (.sh d)) H ∧ Rep G (fun a => Av a ∧ a ≠ p) H d (.ref p) := by
  have less : ∀ a, (Av a ∧ a ≠ p) → Av a := fun a q => q.1
  have key : Rep G (fun a => Av a ∧ a ≠ p) H d (.ref p) := by
    obtain ⟨p', h1, h2, h3, h4⟩ := st.ow i _ d h rfl
    cases h1.inj hp
    exact (h3.less less).rep fun a e => by cases e; exact fun z => z.2 rfl
  have get : ∀ j s, (S.set i (.sh d))[j]? = some s → (j = i ∧ s = .sh d) ∨ (j ≠ i ∧ S[j]? = some s) := fun j s q => get_set_cases q
  have own : ∀ j, Owns (S.set i (.sh d)) j → Owns S j ∧ j ≠ i := fun j ⟨s, e, q, r⟩ => by
    rcases get j s q with ⟨_, rfl⟩ | ⟨z, q⟩
    · cases r
    · exact ⟨⟨s, e, q, r⟩, z⟩
  have hol : ∀ j, Holds (S.set i (.sh d)) j → Holds S j ∧ j ≠ i := fun j ⟨s, e, q, r⟩ => by
    rcases get j s q with ⟨_, rfl⟩ | ⟨z, q⟩
    · cases r
    · exact ⟨⟨s, e, q, r⟩, z⟩
  refine ⟨⟨fun a o q _ _ => q, fun a o q => ⟨o, q⟩, fun a q => .inl q.1, fun a q n => ⟨q, fun z => n ⟨i, ⟨_, d, h, rfl⟩, z ▸ hp⟩⟩, fun j q => (own j q).1, fun j q => (hol j q).1, fun j q => ?_, fun j e q => ⟨e, ?_⟩, fun j e q => ?_, ?_⟩, key⟩
  · by_cases e : j = i
    · subst e; exact ⟨_, d, set_eq h, rfl⟩
    · obtain ⟨s, e', q, r⟩ := q
      exact ⟨s, e', by rw [set_ne e]; exact q, r⟩
  · rw [set_ne (fun z => by subst z; rw [h] at q; cases q)]; exact q
  · rw [set_ne (fun z => by subst z; rw [h] at q; cases q)]; exact q
  · refine ⟨by rw [List.length_set]; exact st.len, fun a q => st.dom a q.1, st.tb, fun j e q => ?_, fun j s e q r => ?_, fun j k q h1 h2 h3 h4 => st.dis j k q (hol j h1).1 (hol k h2).1 h3 h4⟩
    · rcases get j _ q with ⟨z, z'⟩ | ⟨z, q⟩
      · cases z'
        subst z
        exact ⟨_, hp, key⟩
      · obtain ⟨v, h1, h2⟩ := st.sh j e q
        exact ⟨v, h1, h2.less less⟩
    · obtain ⟨hj, nji⟩ := hol j ⟨s, e, q, r⟩
      rw [set_ne nji] at q
      obtain ⟨p', h1, h2, h3, h4⟩ := st.ow j s e q r
      exact ⟨p', h1, ⟨h2, fun z => nji (st.dis j i p' hj ⟨_, d, h, rfl⟩ h1 (z ▸ hp))⟩, h3.less less, h4⟩
/-- a held address that no slot has is let go -/
theorem StOk.drop (st : StOk G Av S σ H) {p : Addr} (n : ∀ i, Holds S i → ¬ At σ i p) : StOk G (fun a => Av a ∧ a ≠ p) S σ H := by
  have less : ∀ a, (Av a ∧ a ≠ p) → Av a := fun a q => q.1
  refine ⟨st.len, fun a q => st.dom a q.1, st.tb, fun i d q => ?_, fun i s d q r => ?_, st.dis⟩
  · obtain ⟨v, h1, h2⟩ := st.sh i d q
    exact ⟨v, h1, h2.less less⟩
  · obtain ⟨p', h1, h2, h3, h4⟩ := st.ow i s d q r
    exact ⟨p', h1, ⟨h2, fun z => n i ⟨s, d, q, r⟩ (z ▸ h1)⟩, h3.less less, h4⟩
theorem StOk.new_apart (st : StOk G Av S σ H) {a : Addr} (h : H a = none) : ∀ i, Holds S i → ¬ At σ i a := fun i ⟨s, d, q, r⟩ ha => by
  obtain ⟨p', h1, h2, _⟩ := st.ow i s d q r
  cases h1.inj ha
  obtain ⟨o, z, _⟩ := st.dom _ h2
  rw [z] at h; cases h
theorem Post.new_apart (p : Post G Av S σ H Av1 S1 H1) (st : StOk G Av S σ H) {a : Addr} (h : H a = none) : ∀ i, Holds S1 i → ¬ At σ i a := fun i hi => st.new_apart h i (p.holds i hi)
theorem Post.letgo (p : Post G Av S σ H Av1 S1 H1) (st : StOk G Av S σ H) {a : Addr} (h : H a = none) : Post G Av S σ H (fun b => Av1 b ∧ b ≠ a) S1 H1 :=
  ⟨p.frame, p.stay, fun b q => p.sub b q.1, fun b q n => ⟨p.held b q n, fun z => by
    subst z
    obtain ⟨o, z, _⟩ := st.dom _ q
    rw [z] at h; cases h⟩, p.roots, p.holds, p.live, p.ios, p.lks, p.st.drop (p.new_apart st h)⟩
theorem fr_shared {rv : RV} {S' : SS} {v : V} {H' : Hp} {d : D} (st : StOk G Av S σ H) (p : EPost G Av S σ H (.fr d) S' v H') : EPost G Av S σ H (.sh d) S' v H' := by
  obtain ⟨Av', P, a, rfl, h1, h2, h3, h4⟩ := p.ex
  exact ⟨_, P.letgo st h2, (h3.less (Av' := fun b => Av' b ∧ b ≠ a) fun b q => q.1).rep fun b e => by cases e; exact fun z => z.2 rfl⟩
/-- behind an expression whose value is made a shared one -/
theorem EPost.shared {rv : RV} {S' S'' : SS} {v : V} {H' : Hp} {d : D} (st : StOk G Av S σ H) (p : EPost G Av S σ H rv S' v H') (h : shr rv S' = .ok d S'') : EPost G Av S σ H (.sh d) S'' v H' := by
  cases rv with
  | sh e => cases h; exact p
  | fr e => cases h; exact fr_shared (rv := .fr d) st p
  | br i =>
    obtain ⟨Av', P, h1, h2⟩ := p.ex
    have h : (match S'[i]? with | some (.sh d) => R.ok d S' | some (.ow d) => R.ok d (S'.set i (.sh d)) | _ => .bad) = R.ok d S'' := h
    split at h
    · rename_i e q
      cases h
      obtain ⟨v', h3, h4⟩ := P.st.sh i d q
      rw [h1] at h3; cases h3
      exact ⟨Av', P, h4⟩
    · rename_i e q
      cases h
      obtain ⟨p0, h3, h4, h5, h6⟩ := P.st.ow i _ d q rfl
      rw [show σ[i]? = some (some (.ref p0)) from h3] at h1; cases h1
      obtain ⟨P2, r⟩ := P.st.unown q h3
      exact ⟨_, P.trans P2, r⟩
    · cases h
theorem shr_exc {rv : RV} {S' S'' : SS} {e : D} : shr rv S' ≠ .exc e S'' := by
  cases rv with
  | sh d => exact fun h => nomatch h
  | fr d => exact fun h => nomatch h
  | br i =>
    intro h
    have h : (match S'[i]? with | some (.sh d) => R.ok d S' | some (.ow d) => R.ok d (S'.set i (.sh d)) | _ => .bad) = R.exc e S'' := h
    split at h <;> cases h
/-- a view: what is fresh may be shared -/
def RV.vw : RV → RV
  | .fr d => .sh d
  | r => r
theorem EPost.view {rv : RV} {S' : SS} {v : V} {H' : Hp} (st : StOk G Av S σ H) (p : EPost G Av S σ H rv S' v H') : EPost G Av S σ H rv.vw S' v H' := by
  cases rv with
  | sh d => exact p
  | fr d => exact fr_shared (rv := .fr d) st p
  | br i => exact p
end
end Eng

namespace Eng
open PySem PySem.Spec L2
open PyProof.Rows hiding St

/-- a call's end -/
inductive FO where
  | ok (fr : Bool) (d : D) (outs : List D) | exc (e : D) (outs : List D) | bad
/-- a def: which parameters it changes, what it does -/
structure FSig where
  md : List Bool
  m : List D → FO
/-- an operation's result: something that stands, something new -/
inductive RO where
  | sh (d : D) | nw (d : D)
def RO.rv : RO → RV
  | .sh d => .sh d
  | .nw d => if MutD d then .fr d else .sh d

/-- built-in functions -/
inductive BI where
  | len | int | abs | bool | str | repr | list | tuple | sorted | sum | min | max | any | all | dict
  deriving DecidableEq
/-- built-in methods that change nothing -/
inductive BM where
  | strSplit | strJoin | listIndex | tupIndex | listCount | dictGet1 | dictGet2
  deriving DecidableEq
/-- built-in methods that change a list or a dict -/
inductive MM where
  | append | pop | popAt | insert | extend | reverse | update | setdefault | remove | dpop
  deriving DecidableEq
/-- types asked for -/
inductive Ty where
  | int | bool | str | list | tuple | dict | cls (x : Str) (c : Nat)
  deriving DecidableEq
/-- targets -/
inductive Tg where
  | nm (i : Nat) | nil | cons (a b : Tg) | tup (l : Tg)

/-- a part of the text -/
inductive XP where
  | lit (s : Str) | par (i : Nat)
structure XSig where
  fs : List Str
  ps : List XP
/-- the def that hears: n names, what is caught lies at ic; f: what follows -/
structure HSig where
  n : Nat
  ic : Nat
  yes : List Nat
  f : SS → FO
/-- an own class that is asked for: its name, its number; the classes of instances, of exceptions that are so and that are not -/
structure OTy where
  x : Str
  c : Nat
  yo : List Nat
  no : List Nat
  ye : List Nat
  ne : List Nat
  deriving DecidableEq
mutual
inductive CE where
  | non | bl (b : Bool) | int (i : Int) | str (x : Str)
  | var (i : Nat)
  | glob (x : Str) (d : D)
  | bin (op : Operator) (a b : CE)
  | neg (a : CE)
  | cmp (op : CmpOp) (a b : CE)
  | chain (op op' : CmpOp) (a b c : CE)
  | not (a : CE)
  | and_ (l : CL)
  | or_ (l : CL)
  | ite (c a b : CE)
  | tup (l : CL)
  | lst (l : CL)
  | dict0 (k : Bool)
  | sub (a b : CE)
  | noe
  | slc (a lo hi : CE)
  | rev (a : CE)
  | fld (a : CE) (f : Str) (cs : List Nat)
  | bi (b : BI) (l : CL)
  | bm (m : BM) (a : CE) (l : CL)
  | mm (m : MM) (i : Nat) (l : CL)
  | isi (a : CE) (ts : List Ty)
  | call (x : Str) (sg : FSig) (l : CL)
  | callk (x : Str) (ps : List Str) (sg : FSig) (l : CL) (ks : List Str) (kl : CL)
  | meth (c : Nat) (m : Str) (sg : FSig) (a : CE) (l : CL)
  | mk (c : Nat) (x : Str) (sg : FSig) (l : CL)
  | comp (elt : CE) (tg : Tg) (it : CI) (ifs : CL) (own : List Nat)
  | dic1 (a b : CE)
  | lset (a : CE)
  | lrg (tp : Bool) (it : CI)
  | isc (a : CE) (os : List OTy)
  | fldx (a : CE) (f : Str) (cs : List Nat)
  | heard (x : Str) (h : HSig) (p : CE)
inductive CL where
  | nil | cons (e : CE) (l : CL) | star (e : CE) (l : CL)
inductive CI where
  | val (e : CE) | rng1 (a : CE) | rng2 (a b : CE) | enum (a : CE) | zip (a b : CE)
end

/-- an argument: shared, or a slot's object that the callee may change -/
inductive AV where
  | sh (d : D) | io (i : Nat)

def deref (S : SS) : RV → Option D
  | .sh d => some d
  | .fr d => some d
  | .br i => dAt S i
def derefs (S : SS) : List RV → Option (List D)
  | [] => some []
  | r :: rs => (deref S r).bind fun d => (derefs S rs).map fun ds => d :: ds
def truthD : D → Option Bool
  | .non => some false
  | .bl b => some b
  | .int i => some (i != 0)
  | .str x => if x.length ≤ sizeLine then some ((x.length : Int) != 0) else none
  | .lst ds => some (!ds.isEmpty)
  | .tup ds => some (!ds.isEmpty)
  | _ => none

def avDs (S : SS) : List AV → Option (List D)
  | [] => some []
  | .sh d :: r => (avDs S r).map fun ds => d :: ds
  | .io i :: r => match (S[i]?).bind SV.mu with
    | some d => (avDs S r).map fun ds => d :: ds
    | _ => none
def avIos : List AV → List Nat
  | [] => []
  | .sh _ :: r => avIos r
  | .io i :: r => i :: avIos r
/-- the object of a slot is another now -/
def setAt (S : SS) (i : Nat) (d : D) : Option SS := match S[i]? with
  | some (.ow _) => some (S.set i (.ow d))
  | some (.io _) => some (S.set i (.io d))
  | _ => none
def setIos (S : SS) : List Nat → List D → Option SS
  | [], [] => some S
  | i :: is, d :: ds => if MutD d then (setAt S i d).bind fun S' => setIos S' is ds else none
  | _, _ => none
def okRes (fr : Bool) (d : D) : Bool := !fr || MutD d
def AV.isIo : AV → Bool
  | .sh _ => false
  | .io _ => true
def callSem (sg : FSig) (as : List AV) (S : SS) : R RV := match avDs S as with
  | none => .bad
  | some ds => if (avIos as).Nodup ∧ as.map AV.isIo = sg.md then match sg.m ds with
    | .ok fr d outs => match setIos S (avIos as) outs with
      | some S' => .ok (if fr then .fr d else .sh d) S'
      | none => .bad
    | .exc e outs => match setIos S (avIos as) outs with
      | some S' => .exc e S'
      | none => .bad
    | .bad => .bad
    else .bad

/-- a slot that may be given another value -/
def freeAt (S : SS) (i : Nat) : Bool := match S[i]? with
  | some .no => true
  | some (.sh _) => true
  | some (.ow _) => true
  | _ => false
/-- a target takes a shared value -/
def assign : Tg → D → SS → Option SS
  | .nm i, d, S => if freeAt S i then some (S.set i (.sh d)) else none
  | .tup l, .tup ds, S => assigns l ds S
  | _, _, _ => none
where assigns : Tg → List D → SS → Option SS
  | .nil, [], S => some S
  | .cons a b, d :: ds, S => (assign a d S).bind (assigns b ds)
  | _, _, _ => none
def wipeS (S : SS) : List Nat → SS
  | [] => S
  | v :: vs => (wipeS S vs).set v .no
/-- S, but the slots vs as in T -/
def backS (T S : SS) : List Nat → SS
  | [] => S
  | v :: vs => (backS T S vs).set v ((T[v]?).getD .no)
def loopC (step : D → SS → R (Option D)) : List D → List D → SS → R (List D)
  | [], acc, S => .ok acc S
  | x :: xs, acc, S => (step x S).bind fun y S' => match y with
    | some y => if acc.length < sizeLine then loopC step xs (acc ++ [y]) S' else .bad
    | none => loopC step xs acc S'
/-- an owned slot is locked; whether it was -/
def lock (S : SS) (i : Nat) : R (List D × Option Nat) := match S[i]? with
  | some (.ow (.lst ds)) => .ok (ds, some i) (S.set i (.lk (.lst ds)))
  | some (.sh (.lst ds)) => .ok (ds, none) S
  | some (.sh (.tup ds)) => .ok (ds, none) S
  | some (.lk (.lst ds)) => .ok (ds, none) S
  | _ => .bad
def unlock (S : SS) : Option Nat → SS
  | none => S
  | some i => match S[i]? with
    | some (.lk d) => S.set i (.ow d)
    | _ => S
def itemsOf (rv : RV) (S : SS) : R (List D × Option Nat) := match rv with
  | .sh (.lst ds) => .ok (ds, none) S
  | .sh (.tup ds) => .ok (ds, none) S
  | .fr (.lst ds) => .ok (ds, none) S
  | .br i => lock S i
  | _ => .bad
def rangeD (lo : Int) : Nat → List D
  | 0 => []
  | n + 1 => rangeD lo n ++ [.int (lo + n)]
/-- the parameters' values: the positional ones, then by keywords -/
def kwG {α : Type} (ps ks : List Str) (us ws : List α) : List α := us ++ (ps.drop us.length).filterMap fun p => (ks.zip ws).lookup p
end Eng

namespace Eng
open PySem PySem.Spec L2
open PyProof.Rows hiding St

mutual
def toP : D → Option PyData
  | .non => some .none
  | .bl b => some (.bool b)
  | .int i => some (.int i)
  | .str x => some (.str x)
  | .lst ds => (toPs ds).map .list
  | .tup ds => (toPs ds).map .tuple
  | .dic _ _ => none
  | .obj _ _ _ => none
  | .scr _ => none
  | .exo _ _ _ => none
def toPs : List D → Option (List PyData)
  | [] => some []
  | d :: ds => (toP d).bind fun p => (toPs ds).map fun ps => p :: ps
end
def eqD (d e : D) : Option Bool := (toP d).bind fun p => (toP e).bind fun q => if SeqAt.shaped p && SeqAt.shaped q then some (PyData.eqv p q) else none

def flatD : D → Bool
  | .non => true
  | .bl _ => true
  | .int _ => true
  | .str _ => true
  | _ => false
/-- == of flat values -/
def eqF : D → D → Bool
  | .non, .non => true
  | .bl a, .bl b => a == b
  | .bl t, .int j => (if t then 1 else 0) == j
  | .int j, .bl t => j == (if t then 1 else 0)
  | .int a, .int b => a == b
  | .str a, .str b => a == b
  | _, _ => false
def inFlat (d : D) (ds : List D) : Option Bool := if flatD d && ds.all flatD then some (ds.any fun e => eqF e d) else none

def smallB (i : Int) : Bool := decide (-(2 ^ 64) < i) && decide (i < 2 ^ 64)
def binD (op : Operator) (d e : D) : Option RO := match op with
  | .Add => match d, e with
    | .int i, .int j => some (.sh (.int (i + j)))
    | .str x, .str y => if x.length + y.length ≤ sizeLine then some (.sh (.str (x ++ y))) else none
    | .lst xs, .lst ys => if xs.length + ys.length ≤ sizeLine then some (.nw (.lst (xs ++ ys))) else none
    | .tup xs, .tup ys => if xs.length + ys.length ≤ sizeLine then
        (if xs.isEmpty then some (.sh (.tup ys)) else if ys.isEmpty then some (.sh (.tup xs)) else some (.nw (.tup (xs ++ ys)))) else none
    | _, _ => none
  | .Sub => match d, e with
    | .int i, .int j => some (.sh (.int (i - j)))
    | _, _ => none
  | .Mult => match d, e with
    | .int i, .int j => if smallB i || smallB j then some (.sh (.int (i * j))) else none
    | .lst xs, .int k => if decide (-(2 ^ 63) ≤ k) && decide (k < 2 ^ 63) && decide (xs.length * k.toNat ≤ sizeLine) then some (.nw (.lst (List.replicate k.toNat xs).flatten)) else none
    | _, _ => none
  | .FloorDiv => match d, e with
    | .int i, .int j => if decide (0 < j) && decide (j.natAbs.log2 < 9000) then some (.sh (.int (i / j))) else none
    | _, _ => none
  | .Mod => match d, e with
    | .int i, .int j => if 0 < j then some (.sh (.int (i % j))) else none
    | _, _ => none
  | .Pow => match d, e with
    | .int i, .int j => if decide (0 ≤ j) && decide (j ≤ 1000000) && decide (i.natAbs < 2 ^ 64) then some (.sh (.int (i ^ j.toNat))) else none
    | _, _ => none
  | _ => none
def bo (b : Bool) : RO := .sh (.bl b)
def isNon : D → Bool
  | .non => true
  | _ => false
def cmpD (op : CmpOp) (d e : D) : Option RO := match op with
  | .Eq => (eqD d e).map bo
  | .NotEq => (eqD d e).map fun b => bo (!b)
  | .Lt => match d, e with
    | .int i, .int j => some (bo (decide (i < j)))
    | _, _ => none
  | .LtE => match d, e with
    | .int i, .int j => some (bo (decide (i ≤ j)))
    | _, _ => none
  | .Gt => match d, e with
    | .int i, .int j => some (bo (decide (j < i)))
    | _, _ => none
  | .GtE => match d, e with
    | .int i, .int j => some (bo (decide (j ≤ i)))
    | _, _ => none
  | .Is => match e with
    | .non => some (bo (isNon d))
    | .bl b => match d with
      | .bl a => some (bo (decide (a = b)))
      | _ => none
    | _ => none
  | .IsNot => match e with
    | .non => some (bo (!isNon d))
    | .bl b => match d with
      | .bl a => some (bo (!decide (a = b)))
      | _ => none
    | _ => none
  | .In => match e with
    | .lst ds => (inFlat d ds).map bo
    | .tup ds => (inFlat d ds).map bo
    | _ => none
  | .NotIn => match e with
    | .lst ds => (inFlat d ds).map fun b => bo (!b)
    | .tup ds => (inFlat d ds).map fun b => bo (!b)
    | _ => none
/-- the i-th item, from the end below 0 -/
def ixD (ds : List D) (i : Int) : Option D := atI ds i
def subD (d e : D) : Option RO := match d, e with
  | .lst ds, .int i => (ixD ds i).map .sh
  | .tup ds, .int i => (ixD ds i).map .sh
  | .str x, .int i => if x.length ≤ sizeLine then (atI x.cps.toList i).map fun c => .sh (.str ⟨#[c]⟩) else none
  | _, _ => none
def cutD (ds : List D) (lo hi : Option Int) : List D := (ds.drop (HT.sIx ds.length 0 lo)).take (HT.sIx ds.length ds.length hi - HT.sIx ds.length 0 lo)
def slcD (l h : Option Int) (d : D) : Option RO := match d with
  | .lst ds => some (.nw (.lst (cutD ds l h)))
  | .scr ds => some (.nw (.lst (cutD ds l h)))
  | .tup ds => if HT.sIx ds.length 0 l = 0 ∧ HT.sIx ds.length ds.length h = ds.length then some (.sh (.tup ds)) else some (.nw (.tup (cutD ds l h)))
  | .str x => if x.length ≤ sizeLine then some (.sh (.str (cutS x l h))) else none
  | _ => none
def lenD : D → Option Nat
  | .lst ds => some ds.length
  | .tup ds => some ds.length
  | .str x => if x.length ≤ sizeLine then some x.length else none
  | _ => none
def allB : List D → Option (List Bool)
  | [] => some []
  | .bl b :: r => (allB r).map fun bs => b :: bs
  | _ :: _ => none
def allI : List D → Option (List Int)
  | [] => some []
  | .int i :: r => (allI r).map fun is => i :: is
  | _ :: _ => none
def keyD : D → Option Key
  | .int i => some (.inl i)
  | .str x => some (.inr x)
  | _ => none
def pairD : D → Option (Key × D)
  | .tup [k, v] => (keyD k).map fun k => (k, v)
  | _ => none
def pairsD : List D → Option (List (Key × D))
  | [] => some []
  | d :: ds => (pairD d).bind fun p => (pairsD ds).map fun ps => p :: ps
def putG {α : Type} (kvs : List (Key × α)) (k : Key) (v : α) : List (Key × α) :=
  if (kvs.any fun kv => decide (kv.1 = k)) = true
    then kvs.map fun kv => if kv.1 = k then (kv.1, v) else kv
    else kvs ++ [(k, v)]
def mergeG {α : Type} (kvs more : List (Key × α)) : List (Key × α) := more.foldl (fun acc kv => putG acc kv.1 kv.2) kvs
def dicG (kvs : List (Key × D)) : D := .dic (kvs.map fun kv => kD kv.1) (kvs.map (·.2))
def keysD : List D → Option (List Key)
  | [] => some []
  | d :: ds => (keyD d).bind fun p => (keysD ds).map fun ps => p :: ps
/-- the members of a list of ints, each once -/
def dedupI (ns : List Int) : List Int := ns.foldl (fun acc k => if acc.any (· == k) then acc else acc ++ [k]) []
/-- repr of data -/
def reprD (d : D) : Option RO := (toP d).bind fun p => if PyData.showable p && decide (p.shown.length ≤ sizeLine) && decide (p.depth ≤ 60) then some (.sh (.str p.shown)) else none
def insI (x : Int) : List Int → List Int
  | [] => [x]
  | y :: ys => if x ≤ y then x :: y :: ys else y :: insI x ys
def sortI : List Int → List Int
  | [] => []
  | x :: xs => insI x (sortI xs)
def bi2 (b : BI) (d e : D) : Option RO := match b with
  | .max => match d, e with
    | .int i, .int j => some (.sh (.int (if j > i then j else i)))
    | _, _ => none
  | .min => match d, e with
    | .int i, .int j => some (.sh (.int (if j < i then j else i)))
    | _, _ => none
  | _ => none
def bi1 (b : BI) (d : D) : Option RO := match b with
  | .sorted => match d with
    | .lst xs => (allI xs).map fun is => .nw (.lst ((sortI is).map .int))
    | _ => none
  | .len => (lenD d).map fun n : Nat => RO.sh (.int (n : Int))
  | .int => match d with
    | .int i => some (.sh (.int i))
    | .bl b => some (.sh (.int (if b then 1 else 0)))
    | _ => none
  | .abs => match d with
    | .int i => some (.sh (.int (if i < 0 then -i else i)))
    | _ => none
  | .bool => match d with
    | .int i => some (bo (i != 0))
    | .bl b => some (bo b)
    | _ => none
  | .str => match d with
    | .int i => if i.natAbs.log2 < 1920 then some (.sh (.str (toString i))) else none
    | _ => none
  | .repr => reprD d
  | .list => match d with
    | .lst xs => some (.nw (.lst xs))
    | .tup xs => some (.nw (.lst xs))
    | .dic ks vs => if ks.length = vs.length then (keysD ks).map fun _ => RO.nw (.lst ks) else none
    | _ => none
  | .dict => match d with
    | .lst xs => (pairsD xs).map fun ps => .nw (dicG (mergeG [] ps))
    | _ => none
  | .tuple => match d with
    | .lst xs => some (.nw (.tup xs))
    | .tup xs => some (.sh (.tup xs))
    | _ => none
  | .all => match d with
    | .lst xs => (allB xs).map fun bs => bo (bs.all id)
    | _ => none
  | .any => match d with
    | .lst xs => (allB xs).map fun bs => bo (bs.any id)
    | _ => none
  | .sum => match d with
    | .lst xs => (allI xs).map fun is => .sh (.int is.sum)
    | _ => none
  | _ => none
def biD (b : BI) (ds : List D) : Option RO := match ds with
  | [d] => bi1 b d
  | [d, e] => bi2 b d e
  | _ => none
/-- the type's name -/
def tyD : D → Option String
  | .non => some "NoneType"
  | .bl _ => some "bool"
  | .int _ => some "int"
  | .str _ => some "str"
  | .lst _ => some "list"
  | .tup _ => some "tuple"
  | .dic _ _ => some "dict"
  | _ => none
def Ty.nm : Ty → String
  | .int => "int"
  | .bool => "bool"
  | .str => "str"
  | .list => "list"
  | .tuple => "tuple"
  | .dict => "dict"
  | .cls _ _ => ""
/-- whether d is of the type -/
def isT (d : D) (t : Ty) : Option Bool := match d with
  | .non => some false
  | .bl _ => some (match t with | .int => true | .bool => true | _ => false)
  | .int _ => some (match t with | .int => true | _ => false)
  | .str _ => some (match t with | .str => true | _ => false)
  | .lst _ => some (match t with | .list => true | _ => false)
  | .tup _ => some (match t with | .tuple => true | _ => false)
  | .dic _ _ => some (match t with | .dict => true | _ => false)
  | _ => none
def isTs (ts : List Ty) (d : D) : Option RO := match ts with
  | [] => some (bo false)
  | t :: ts => match isT d t with
    | some true => some (bo true)
    | some false => isTs ts d
    | none => none
/-- a method that changes d: the result, d behind it -/
def mmD (m : MM) (d : D) (as : List D) : Option (D × D) := match m, d, as with
  | .append, .lst xs, [y] => if xs.length < sizeLine then some (.non, .lst (xs ++ [y])) else none
  | .pop, .lst xs, [] => (xs[xs.length - 1]?).map fun y => (y, .lst xs.dropLast)
  | .popAt, .lst xs, [.int i] => if decide (-(2 ^ 63) ≤ i) && decide (i < 2 ^ 63) then (seqIndex? i xs.length).bind fun k => (xs[k]?).map fun y => (y, .lst (xs.eraseIdx k)) else none
  | .extend, .lst xs, [.lst ys] => if xs.length + ys.length ≤ sizeLine then some (.non, .lst (xs ++ ys)) else none
  | .reverse, .lst xs, [] => some (.non, .lst xs.reverse)
  | _, _, _ => none
def bmD (m : BM) (d : D) (as : List D) : Option RO := none
/-- len(set(d)) -/
def lsetD (d : D) : Option RO := match d with
  | .lst ds => (allI ds).bind fun ns => if ns.length < 64 then some (.sh (.int ((dedupI ns).length : Nat))) else none
  | .tup ds => (allI ds).bind fun ns => if ns.length < 64 then some (.sh (.int ((dedupI ns).length : Nat))) else none
  | _ => none
def dic1D (k v : D) : Option RO := (keyD k).map fun k => .nw (dicG [(k, v)])
def negD : D → Option RO
  | .int i => some (.sh (.int (-i)))
  | _ => none
end Eng

namespace Eng
open PySem PySem.Spec L2
open PyProof.Rows hiding St

abbrev KE := SS → R RV
abbrev KT := SS → R Bool
def prim (o : Option RO) (S : SS) : R RV := match o with
  | some ro => .ok ro.rv S
  | none => .bad
def kC (d : D) : KE := fun S => .ok (.sh d) S
def kVar (i : Nat) : KE := fun S => match S[i]? with
  | some (.sh d) => .ok (.sh d) S
  | some s => if s.dat.isSome then .ok (.br i) S else .bad
  | none => .bad
def kUn (f : D → Option RO) (p : KE) : KE := fun S => (p S).bind fun r S1 => prim ((deref S1 r.vw).bind f) S1
def kBin (f : D → D → Option RO) (p q : KE) : KE := fun S => (p S).bind fun r S1 => (q S1).bind fun t S2 => prim ((deref S2 r.vw).bind fun d => (deref S2 t.vw).bind fun e => f d e) S2
def kTri (f : D → D → D → Option RO) (p q o : KE) : KE := fun S => (p S).bind fun r S1 => (q S1).bind fun t S2 => (o S2).bind fun u S3 =>
  prim ((deref S3 r.vw).bind fun d => (deref S3 t.vw).bind fun e => (deref S3 u.vw).bind fun g => f d e g) S3
/-- a part of a slice -/
def kPart (noe : Bool) (q : KE) : SS → R (Option Int) := if noe then fun S => .ok none S else fun S => (q S).bind fun r S1 => match r with
  | .sh (.int i) => .ok (some i) S1
  | _ => .bad
def kSlc (p : KE) (q o : SS → R (Option Int)) : KE := fun S => (p S).bind fun r S1 => (q S1).bind fun l S2 => (o S2).bind fun h S3 => prim ((deref S3 r.vw).bind (slcD l h)) S3
/-- an expression as a test -/
def kTest (p : KE) : KT := fun S => (p S).bind fun r S1 => match (deref S1 r.vw).bind truthD with
  | some b => .ok b S1
  | none => .bad
def boolOf (o : Option RO) : Option Bool := match o with
  | some (.sh (.bl b)) => some b
  | _ => none
/-- a op b op' c -/
def kChain (f g : D → D → Option RO) (p q o : KE) : KT := fun S => (p S).bind fun r S1 => (q S1).bind fun t S2 =>
  match boolOf ((deref S2 r.vw).bind fun d => (deref S2 t.vw).bind fun e => f d e) with
  | some true => (o S2).bind fun u S3 => (match boolOf ((deref S3 t.vw).bind fun d => (deref S3 u.vw).bind fun e => g d e) with
    | some b => .ok b S3
    | none => .bad)
  | some false => .ok false S2
  | none => .bad
def kVal (p : KT) : KE := fun S => (p S).bind fun b S1 => .ok (.sh (.bl b)) S1
def kNot (p : KT) : KT := fun S => (p S).bind fun b S1 => .ok (!b) S1
def kIf (c : KT) (p q : KE) : KE := fun S => (c S).bind fun b S1 => if b then p S1 else q S1
def kIfT (c p q : KT) : KT := fun S => (c S).bind fun b S1 => if b then p S1 else q S1
/-- x and .. (or) as a value -/
def kAndV (isAnd : Bool) (p q : KE) : KE := fun S => (p S).bind fun r S1 => match (deref S1 r.vw).bind truthD with
  | some b => if b = isAnd then q S1 else .ok r.vw S1
  | none => .bad
def kAndT (isAnd : Bool) (p q : KT) : KT := fun S => (p S).bind fun b S1 => if b = isAnd then q S1 else .ok b S1
def kShr (p : KE) : SS → R D := fun S => (p S).bind shr
def kNil {α : Type} : SS → R (List α) := fun S => .ok [] S
def kCons {α : Type} (p : SS → R α) (q : SS → R (List α)) : SS → R (List α) := fun S => (p S).bind fun x S1 => (q S1).bind fun xs S2 => .ok (x :: xs) S2
def kVw (p : KE) : SS → R RV := fun S => (p S).bind fun r S1 => .ok r.vw S1
def seqOf : D → Option (List D)
  | .lst ds => some ds
  | .tup ds => some ds
  | _ => none
/-- *e in a display: its items -/
def kStar (p : KE) (q : SS → R (List D)) : SS → R (List D) := fun S => (p S).bind fun r S1 => match (deref S1 r.vw).bind seqOf with
  | some xs => (q S1).bind fun ys S2 => .ok (xs ++ ys) S2
  | none => .bad
def kTup (q : SS → R (List D)) : KE := fun S => (q S).bind fun ds S1 => if ds.length ≤ sizeLine then .ok (.sh (.tup ds)) S1 else .bad
def kLst (q : SS → R (List D)) : KE := fun S => (q S).bind fun ds S1 => if ds.length ≤ sizeLine then .ok (.fr (.lst ds)) S1 else .bad
def kBi (f : List D → Option RO) (q : SS → R (List RV)) : KE := fun S => (q S).bind fun rs S1 => prim ((derefs S1 rs).bind f) S1
/-- o.m(..), nothing changes -/
def kBm (f : D → List D → Option RO) (p : KE) (q : SS → R (List RV)) : KE := fun S => (p S).bind fun r S1 => (q S1).bind fun rs S2 => prim ((deref S2 r.vw).bind fun d => (derefs S2 rs).bind fun es => f d es) S2
def isSeqL : D → Bool
  | .lst _ => true
  | _ => false
/-- the slot's object is changed by a built-in method -/
def kMm (ty : D → Bool) (f : D → List D → Option (D × D)) (i : Nat) (q : SS → R (List D)) : KE := fun S => match (S[i]?).bind SV.dat with
  | some d0 => if ty d0 then (q S).bind fun es S1 => (match (S1[i]?).bind SV.mu with
    | some d => (match f d es with
      | some (y, d') => (match setAt S1 i d' with
        | some S2 => .ok (.sh y) S2
        | none => .bad)
      | none => .bad)
    | none => .bad) else .bad
  | none => .bad
def kMd (io : Option Nat) (p : KE) (m : Bool) : SS → R AV := fun S => if m then (match io with
    | some i => if ((S[i]?).bind SV.mu).isSome then .ok (.io i) S else .bad
    | none => .bad) else (kShr p S).bind fun d S1 => .ok (.sh d) S1
def kCall (sg : FSig) (q : List Bool → SS → R (List AV)) : KE := fun S => (q sg.md S).bind fun as S1 => callSem sg as S1
def clsOf : D → Option (Nat × List Str)
  | .obj c ns _ => some (c, ns)
  | _ => none
def avD (S : SS) : AV → Option D
  | .sh d => some d
  | .io i => dAt S i
def kMeth (c : Nat) (m : Str) (sg : FSig) (r : Bool → SS → R AV) (q : List Bool → SS → R (List AV)) : KE := fun S => (r (sg.md.headD false) S).bind fun a S1 => match (avD S1 a).bind clsOf with
  | some (c', ns) => if c' = c ∧ m ∉ ns then (q sg.md.tail S1).bind fun as S2 => callSem sg (a :: as) S2 else .bad
  | none => .bad
/-- C(..): sg is __init__ 's -/
def kMk (c : Nat) (sg : FSig) (q : List Bool → SS → R (List AV)) : KE := fun S => (q sg.md.tail S).bind fun as S1 => match avDs S1 as with
  | none => .bad
  | some ds => if (avIos as).Nodup ∧ sg.md = true :: as.map AV.isIo then match sg.m (.obj c [] [] :: ds) with
    | .ok false .non (o :: outs) => (match setIos S1 (avIos as) outs with
      | some S2 => if MutD o then .ok (.fr o) S2 else .bad
      | none => .bad)
    | .exc e (_ :: outs) => (match setIos S1 (avIos as) outs with
      | some S2 => .exc e S2
      | none => .bad)
    | _ => .bad
    else .bad
def fldD (cs : List Nat) (f : Str) : D → Option RO
  | .obj c ns vs => if c ∈ cs ∧ ns.length = vs.length then ((ns.zip vs).lookup f).map .sh else none
  | _ => none
def R.noexc {α : Type} : R α → R α
  | .exc _ _ => .bad
  | r => r
def turnC (elt : KE) (tg : Tg) (ifs : KT) (own : List Nat) (x : D) (S : SS) : R (Option D) := match assign tg x (wipeS S own) with
  | none => .bad
  | some S2 => (ifs S2).bind fun b S3 => if b then (kShr elt S3).bind fun y S5 => .ok (some y) (backS S S5 own) else .ok none (backS S S3 own)
def kComp (elt : KE) (tg : Tg) (it : SS → R (List D × Option Nat)) (ifs : KT) (own : List Nat) : KE := fun S => (it S).bind fun xu S1 =>
  ((loopC (turnC elt tg ifs own) xu.1 [] S1).bind fun ys S2 => .ok (.fr (.lst ys)) (unlock S2 xu.2)).noexc
def kYes : KT := fun S => .ok true S
/-- {a: b} -/
def kDic1 (p q : KE) : KE := fun S => (p S).bind fun r S1 => (kShr q S1).bind fun e S2 => prim ((deref S2 r.vw).bind fun d => dic1D d e) S2
/-- f(.., k = ..) -/
def kCallk (sg : FSig) (ps ks : List Str) (n : Nat) (q o : SS → R (List D)) : KE := fun S => (q S).bind fun ds S1 => (o S1).bind fun es S2 => if ds.length = n ∧ es.length = ks.length then callSem sg ((kwG ps ks ds es).map .sh) S2 else .bad
def rgLst (tp : Bool) (ds : List D) : RV := if tp then .sh (.tup ds) else .fr (.lst ds)
def kLrg (tp : Bool) (it : SS → R (List D × Option Nat)) : KE := fun S => (it S).bind fun xu S1 => if xu.1.length ≤ 16777216 then .ok (rgLst tp xu.1) S1 else .bad
/-- what is walked -/
def kItv (p : KE) : SS → R (List D × Option Nat) := fun S => (p S).bind itemsOf
def rngOk (i j : Int) : Bool := decide (-(2 ^ 62) ≤ i) && decide (i < 2 ^ 62) && decide (-(2 ^ 62) ≤ j) && decide (j < 2 ^ 62)
def kRng1 (p : KE) : SS → R (List D × Option Nat) := fun S => (p S).bind fun r S1 => match deref S1 r.vw with
  | some (.int j) => if rngOk 0 j then .ok (rangeD 0 j.toNat, none) S1 else .bad
  | _ => .bad
def kRng2 (p q : KE) : SS → R (List D × Option Nat) := fun S => (p S).bind fun r S1 => (q S1).bind fun t S2 => match deref S2 r.vw, deref S2 t.vw with
  | some (.int i), some (.int j) => if rngOk i j then .ok (rangeD i (j - i).toNat, none) S2 else .bad
  | _, _ => .bad

/-- whether a tuple is walked -/
def tpOf (rv : RV) (S : SS) : Bool := match rv with
  | .sh (.tup _) => true
  | .br i => (match S[i]? with
    | some (.sh (.tup _)) => true
    | _ => false)
  | _ => false
def enumD : Nat → List D → List D
  | _, [] => []
  | i, d :: ds => .tup [.int (i : Nat), d] :: enumD (i + 1) ds
def kEnum (p : KE) : SS → R (List D × Option Nat) := fun S => (p S).bind fun r S1 => if tpOf r S1 then .bad else (itemsOf r S1).bind fun xu S2 => .ok (enumD 0 xu.1, xu.2) S2
def zipD : List D → List D → List D
  | d :: ds, e :: es => .tup [d, e] :: zipD ds es
  | _, _ => []
def seqSh : D → Option (Bool × List D)
  | .lst ds => some (false, ds)
  | .tup ds => some (true, ds)
  | _ => none
/-- zip of two: both shared, both lists or both tuples -/
def kZip (p q : SS → R D) : SS → R (List D × Option Nat) := fun S => (p S).bind fun d S1 => (q S1).bind fun e S2 => match seqSh d, seqSh e with
  | some (b, ds), some (c, es) => if b = c then .ok (zipD ds es, none) S2 else .bad
  | _, _ => .bad
/-- a value that may be stored -/
def cap (rv : RV) (S : SS) : R RV := match rv with
  | .br i => (shr (.br i) S).bind fun d S1 => .ok (.sh d) S1
  | r => .ok r S
/-- values that are stored, one by one -/
def kCap (p : KE) (q : SS → R (List RV)) : SS → R (List RV) := fun S => (p S).bind fun r S1 => (cap r S1).bind fun r S2 => (q S2).bind fun rs S3 => .ok (r :: rs) S3
def xpOk (ds : List D) : XP → Bool
  | .lit s => decide (s.length ≤ 100000)
  | .par i => match ds[i]? with
    | some (.str y) => decide (y.length ≤ 100000)
    | some (.int n) => decide (n.natAbs.log2 < 1920)
    | _ => false
/-- the exception that is made: the fields in the order of their stores, the last one first -/
def xMake (c : Nat) (x : XSig) (ds : List D) : Option D := if ds.length = x.fs.length ∧ x.ps.all (xpOk ds) = true then some (.exo c x.fs.reverse ds.reverse) else none
def two (ys ns : List Nat) (c : Nat) : Option Bool := if c ∈ ys then some true else if c ∈ ns then some false else none
def isO (d : D) (o : OTy) : Option Bool := match d with
  | .obj c _ _ => two o.yo o.no c
  | .exo c _ _ => two o.ye o.ne c
  | .scr _ => none
  | _ => some false
def isOs (os : List OTy) (d : D) : Option RO := match os with
  | [] => some (bo false)
  | o :: os => match isO d o with
    | some true => some (bo true)
    | some false => isOs os d
    | none => none
/-- an instance is an exception's object with fields ns, ds -/
def fldX (cs : List Nat) (f : Str) : D → Option RO
  | .exo c ns vs => if c ∈ cs ∧ ns.length = vs.length then ((ns.zip vs).lookup f).map .sh else none
  | _ => none
def hEnd (o : FO) (S : SS) : R RV := match o with
  | .ok fr d _ => .ok (if fr then .fr d else .sh d) S
  | _ => .bad
def hSlots (n ic : Nat) (d : D) : SS := (List.replicate n SV.no).set ic (.sh d)
def kHeard (h : HSig) (p : KE) : KE := fun S => match p S with
  | .ok _ S1 => hEnd (h.f (hSlots h.n h.ic .non)) S1
  | .exc e S1 => (match e with
    | .exo c ns ds => if c ∈ h.yes then hEnd (h.f (hSlots h.n h.ic (.exo c ns ds))) S1 else .bad
    | _ => .bad)
  | .bad => .bad
structure EP where
  val : KE
  tst : KT
  io : Option Nat := none
structure LP where
  vw : SS → R (List RV)
  sh : SS → R (List D)
  an : Bool → KE
  tn : Bool → KT
  md : List Bool → SS → R (List AV)
  cp : SS → R (List RV)
def mkp (p : KE) : EP := ⟨p, kTest p, none⟩
def EP.md (p : EP) (m : Bool) : SS → R AV := kMd p.io p.val m

def CL.len : CL → Nat
  | .nil => 0
  | .cons _ l => l.len + 1
  | .star _ l => l.len + 1
def CE.isNoe : CE → Bool
  | .noe => true
  | _ => false
def revD : D → Option RO
  | .lst ds => some (.nw (.lst ds.reverse))
  | _ => none
mutual
def evc : CE → EP
  | .non => mkp (kC .non)
  | .bl b => mkp (kC (.bl b))
  | .int i => mkp (kC (.int i))
  | .str x => mkp (kC (.str x))
  | .var i => ⟨kVar i, kTest (kVar i), some i⟩
  | .glob _ d => mkp (kC d)
  | .bin op a b => mkp (kBin (binD op) (evc a).val (evc b).val)
  | .neg a => mkp (kUn negD (evc a).val)
  | .cmp op a b => mkp (kBin (cmpD op) (evc a).val (evc b).val)
  | .chain op op' a b c => ⟨kVal (kChain (cmpD op) (cmpD op') (evc a).val (evc b).val (evc c).val), kChain (cmpD op) (cmpD op') (evc a).val (evc b).val (evc c).val, none⟩
  | .not a => ⟨kVal (kNot (kTest (evc a).val)), kNot (evc a).tst, none⟩
  | .and_ l => ⟨(evl l).an true, (evl l).tn true, none⟩
  | .or_ l => ⟨(evl l).an false, (evl l).tn false, none⟩
  | .ite c a b => ⟨kIf (evc c).tst (evc a).val (evc b).val, kIfT (evc c).tst (evc a).tst (evc b).tst, none⟩
  | .tup l => mkp (kTup (evl l).sh)
  | .lst l => mkp (kLst (evl l).sh)
  | .dict0 _ => mkp (fun S => .ok (.fr (.dic [] [])) S)
  | .sub a b => mkp (kBin subD (evc a).val (evc b).val)
  | .noe => mkp (kC .non)
  | .slc a lo hi => mkp (kSlc (evc a).val (kPart lo.isNoe (evc lo).val) (kPart hi.isNoe (evc hi).val))
  | .rev a => mkp (kUn revD (evc a).val)
  | .fld a f cs => mkp (kUn (fldD cs f) (evc a).val)
  | .bi b l => mkp (kBi (biD b) (evl l).vw)
  | .bm m a l => mkp (kBm (bmD m) (evc a).val (evl l).vw)
  | .mm m i l => mkp (kMm isSeqL (mmD m) i (evl l).sh)
  | .isi a ts => mkp (kUn (isTs ts) (evc a).val)
  | .call _ sg l => mkp (kCall sg (evl l).md)
  | .callk _ ps sg l ks kl => mkp (kCallk sg ps ks l.len (evl l).sh (evl kl).sh)
  | .dic1 a b => mkp (kDic1 (evc a).val (evc b).val)
  | .lset a => mkp (kUn lsetD (evc a).val)
  | .lrg tp it => mkp (kLrg tp (evi it))
  | .isc a os => mkp (kUn (isOs os) (evc a).val)
  | .fldx a f cs => mkp (kUn (fldX cs f) (evc a).val)
  | .heard _ h p => mkp (kHeard h (evc p).val)
  | .meth c m sg a l => mkp (kMeth c m sg (evc a).md (evl l).md)
  | .mk c _ sg l => mkp (kMk c sg (evl l).md)
  | .comp elt tg it ifs own => mkp (kComp (evc elt).val tg (evi it) ((evl ifs).tn true) own)
def evl : CL → LP
  | .nil => ⟨kNil, kNil, fun _ _ => .bad, fun a => fun S => .ok a S, fun ms => if ms.isEmpty then kNil else fun _ => .bad, kNil⟩
  | .cons e .nil => ⟨kCons (kVw (evc e).val) kNil, kCons (kShr (evc e).val) kNil, fun _ => (evc e).val, fun _ => (evc e).tst, fun ms => match ms with
      | [m] => kCons ((evc e).md m) kNil
      | _ => fun _ => .bad, kCap (evc e).val kNil⟩
  | .cons e l => ⟨kCons (kVw (evc e).val) (evl l).vw, kCons (kShr (evc e).val) (evl l).sh, fun a => kAndV a (evc e).val ((evl l).an a), fun a => kAndT a (evc e).tst ((evl l).tn a), fun ms => match ms with
      | m :: ms => kCons ((evc e).md m) ((evl l).md ms)
      | [] => fun _ => .bad, kCap (evc e).val (evl l).cp⟩
  | .star e l => ⟨fun _ => .bad, kStar (evc e).val (evl l).sh, fun _ _ => .bad, fun _ _ => .bad, fun _ _ => .bad, fun _ => .bad⟩
def evi : CI → SS → R (List D × Option Nat)
  | .val e => kItv (evc e).val
  | .rng1 a => kRng1 (evc a).val
  | .rng2 a b => kRng2 (evc a).val (evc b).val
  | .enum a => kEnum (evc a).val
  | .zip a b => kZip (kShr (evc a).val) (kShr (evc b).val)
end

/-- a statement's end -/
inductive F where
  | nx (S : SS) | rt (fr : Bool) (d : D) (S : SS) | bk (S : SS) | ct (S : SS) | exc (e : D) (S : SS) | bad
def tailFO (b : SS → F) (S : SS) : FO := match b S with
  | .rt fr d _ => .ok fr d []
  | .nx _ => .ok false .non []
  | _ => .bad
def R.toF {α : Type} : R α → (α → SS → F) → F
  | .ok a S, f => f a S
  | .exc e S, _ => .exc e S
  | .bad, _ => .bad
def F.seq : F → (SS → F) → F
  | .nx S, f => f S
  | r, _ => r
def RV.sv : RV → SV
  | .sh d => .sh d
  | .fr d => .ow d
  | .br _ => .no
/-- a name takes a value -/
def bindV (i : Nat) (rv : RV) (S : SS) : F := (cap rv S).toF fun r S1 => if freeAt S1 i then .nx (S1.set i r.sv) else .bad
def asgV (tg : Tg) (rv : RV) (S : SS) : F := match tg with
  | .nm i => bindV i rv S
  | t => (shr rv S).toF fun d S1 => match assign t d S1 with
    | some S2 => .nx S2
    | none => .bad
def parV (i j : Nat) (r t : RV) (S : SS) : F := (cap r S).toF fun r S1 => (cap t S1).toF fun t S2 => if freeAt S2 i && freeAt S2 j && i != j then .nx ((S2.set i r.sv).set j t.sv) else .bad
def retV (rv : RV) (S : SS) : F := match rv with
  | .sh d => .rt false d S
  | .fr d => .rt true d S
  | .br i => match S[i]? with
    | some (.ow d) => .rt true d (S.set i .no)
    | some (.sh d) => .rt false d S
    | _ => .bad
def forF (tg : Tg) (b : SS → F) : List D → SS → F
  | [], S => .nx S
  | x :: xs, S => match assign tg x S with
    | none => .bad
    | some S1 => match b S1 with
      | .nx S2 => forF tg b xs S2
      | .ct S2 => forF tg b xs S2
      | .bk S2 => .nx S2
      | r => r
def whlF (c : KT) (b : SS → F) : Nat → SS → F
  | 0, _ => .bad
  | n + 1, S => (c S).toF fun k S1 => if k then (match b S1 with
      | .nx S2 => whlF c b n S2
      | .ct S2 => whlF c b n S2
      | .bk S2 => .nx S2
      | r => r) else .nx S1
def unlockF (u : Option Nat) : F → F
  | .nx S => .nx (unlock S u)
  | r => r
def setixD (d i e : D) : Option D := match d, i with
  | .lst ds, .int k => (ixN ds.length k).map fun n => .lst (ds.set n e)
  | _, _ => none
mutual
inductive CS where
  | expr (e : CE) | asg (tg : Tg) (e : CE) | par (i j : Nat) (a b : CE) | parl (is : List Nat) (l : CL) | setix (i : Nat) (ix e : CE) | setf (i : Nat) (f : Str) (c : Nat) (e : CE)
  | ifs (c : CE) (a b : CB) | for_ (tg : Tg) (it : CI) (b : CB) | whl (fuel : Nat) (c : CE) (b : CB) | ret (e : CE) | retn | pass | brk | cnt | never | rais (c : Nat) (nm : Str) (xs : XSig) (l : CL)
inductive CB where
  | nil | cons (s : CS) (b : CB)
end
def putL : List Nat → List RV → SS → SS
  | i :: is, r :: rs, S => putL is rs (S.set i r.sv)
  | _, _, S => S
/-- o.f = y: the fields in the order of their first stores -/
def putN (f : Str) : List Str → List Str
  | [] => [f]
  | n :: ns => if n = f then n :: ns else n :: putN f ns
def putD (f : Str) (y : D) : List Str → List D → List D
  | [], _ => [y]
  | n :: ns, v :: vs => if n = f then y :: vs else v :: putD f y ns vs
  | _ :: _, [] => [y]
def setfD (f : Str) (c : Nat) (y : D) : D → Option D
  | .obj c' ns vs => if c' = c ∧ ns.length = vs.length ∧ ns.length < 1000 then some (.obj c' (putN f ns) (putD f y ns vs)) else none
  | _ => none
mutual
def exs : CS → SS → F
  | .expr e, S => ((evc e).val S).toF fun _ S1 => .nx S1
  | .asg tg e, S => ((evc e).val S).toF fun r S1 => asgV tg r S1
  | .par i j a b, S => ((evc a).val S).toF fun r S1 => ((evc b).val S1).toF fun t S2 => parV i j r t S2
  | .parl is l, S => ((evl l).cp S).toF fun rs S1 => if is.Nodup ∧ (is.all fun i => freeAt S1 i) = true ∧ rs.length = is.length then .nx (putL is rs S1) else .bad
  | .setix i ix e, S => ((kShr (evc e).val) S).toF fun y S1 => if ((S1[i]?).bind SV.dat).isSome then ((kVw (evc ix).val) S1).toF fun k S2 => (match (S2[i]?).bind SV.mu, deref S2 k with
      | some d, some n => (match (setixD d n y).bind (setAt S2 i) with
        | some S3 => .nx S3
        | none => .bad)
      | _, _ => .bad) else .bad
  | .setf i f c e, S => ((kShr (evc e).val) S).toF fun y S1 => (match (S1[i]?).bind SV.mu with
      | some d => (match (setfD f c y d).bind (setAt S1 i) with
        | some S2 => .nx S2
        | none => .bad)
      | none => .bad)
  | .ifs c a b, S => ((evc c).tst S).toF fun k S1 => if k then exb a S1 else exb b S1
  | .for_ tg it b, S => (evi it S).toF fun xu S1 => unlockF xu.2 (forF tg (exb b) xu.1 S1)
  | .whl fuel c b, S => whlF (evc c).tst (exb b) fuel S
  | .ret e, S => ((evc e).val S).toF fun r S1 => retV r S1
  | .retn, S => .rt false .non S
  | .pass, S => .nx S
  | .brk, S => .bk S
  | .cnt, S => .ct S
  | .never, S => .bad
  | .rais c _ xs l, S => ((evl l).sh S).toF fun ds S1 => match xMake c xs ds with
    | some e => .exc e S1
    | none => .bad
def exb : CB → SS → F
  | .nil, S => .nx S
  | .cons s b, S => (exs s S).seq (exb b)
end
end Eng

namespace Eng
open PySem PySem.Spec L2
open PyProof.Rows hiding St

/-- behind an exception: its class, its fields -/
structure XPost (G : Gs) (Av : Addr → Prop) (S : SS) (σ : St) (H : Hp) (e : D) (S' : SS) (cls : Value) (dx : Option Addr) (H' : Hp) : Prop where
  ex : ∃ Av', Post G Av S σ H Av' S' H' ∧ ∃ c ns ds, e = .exo c ns ds ∧ cls = .ref (G.c c) ∧ ∃ a vs, dx = some a ∧ ¬ Av' a ∧ H' a = some (.xd (ns.zip vs)) ∧ ns.length = vs.length ∧ Reps G Av' H' ds vs

section
variable (G : Gs) (W : WX)
def RdE (r : R RV) (Av : Addr → Prop) (S : SS) (σ : St) (H : Hp) (Q : VK) : Prop := match r with
  | .ok rv S' => ∀ v H', EPost G Av S σ H rv S' v H' → Q v H'
  | .exc e S' => ∀ cls d H', XPost G Av S σ H e S' cls d H' → W cls d σ H'
  | .bad => False
def tE (f : KE) : TE := fun σ H Q => ∃ Av S, StOk G Av S σ H ∧ RdE G W (f S) Av S σ H Q
/-- a test -/
def RdT (r : R Bool) (Av : Addr → Prop) (S : SS) (σ : St) (H : Hp) (Q : Bool → Hp → Prop) : Prop := match r with
  | .ok b S' => ∀ Av' H', Post G Av S σ H Av' S' H' → Q b H'
  | .exc e S' => ∀ cls d H', XPost G Av S σ H e S' cls d H' → W cls d σ H'
  | .bad => False
def tT (f : KT) : TT := fun σ H Q => ∃ Av S, StOk G Av S σ H ∧ RdT G W (f S) Av S σ H Q
end

section
variable {G : Gs} {W : WX} {Av Av1 Av2 : Addr → Prop} {S S1 S2 : SS} {σ : St} {H H1 H2 : Hp} {Q : VK}
theorem Post.back_none (p : Post G Av S σ H Av1 S1 H1) {a : Addr} (h : H1 a = none) : H a = none := by
  cases e : H a with
  | none => rfl
  | some o => obtain ⟨o', h'⟩ := p.stay a o e; rw [h'] at h; cases h
theorem EPost.trans {rv : RV} {S2 : SS} {v : V} {H2 : Hp} (p : Post G Av S σ H Av1 S1 H1) (q : EPost G Av1 S1 σ H1 rv S2 v H2) : EPost G Av S σ H rv S2 v H2 := by
  obtain ⟨Av2, P, r⟩ := q.ex
  refine ⟨Av2, p.trans P, ?_⟩
  cases rv with
  | sh d => exact r
  | fr d => obtain ⟨a, h1, h2, h3, h4⟩ := r; exact ⟨a, h1, h2, p.back_none h3, h4⟩
  | br i => exact r
theorem XPost.trans {e : D} {S2 : SS} {c : Value} {d : Option Addr} {H2 : Hp} (p : Post G Av S σ H Av1 S1 H1) (q : XPost G Av1 S1 σ H1 e S2 c d H2) : XPost G Av S σ H e S2 c d H2 := by
  obtain ⟨Av2, P, r⟩ := q.ex
  exact ⟨Av2, p.trans P, r⟩
theorem RdE.trans {r : R RV} (p : Post G Av S σ H Av1 S1 H1) (h : RdE G W r Av S σ H Q) : RdE G W r Av1 S1 σ H1 Q := by
  cases r with
  | ok rv S' => exact fun v H' q => h v H' (q.trans p)
  | exc e S' => exact fun c d H' q => h c d H' (q.trans p)
  | bad => exact h
theorem RdT.trans {r : R Bool} {Q : Bool → Hp → Prop} (p : Post G Av S σ H Av1 S1 H1) (h : RdT G W r Av S σ H Q) : RdT G W r Av1 S1 σ H1 Q := by
  cases r with
  | ok b S' => exact fun Av' H' q => h Av' H' (p.trans q)
  | exc e S' => exact fun c d H' q => h c d H' (q.trans p)
  | bad => exact h
theorem RdE_mono {r : R RV} {Q' : VK} (k : ∀ v H', Q v H' → Q' v H') (h : RdE G W r Av S σ H Q) : RdE G W r Av S σ H Q' := by
  cases r with
  | ok rv S' => exact fun v H' q => k _ _ (h v H' q)
  | exc e S' => exact h
  | bad => exact h
/-- p first, then f -/
theorem tE_bind {p : KE} {f : RV → SS → R RV} {Q' : VK} (st : StOk G Av S σ H) (h : RdE G W ((p S).bind f) Av S σ H Q)
    (k : ∀ rv S1 v H1, EPost G Av S σ H rv S1 v H1 → RdE G W (f rv S1) Av S σ H Q → Q' v H1) : tE G W p σ H Q' := by
  refine ⟨Av, S, st, ?_⟩
  cases e : p S with
  | ok rv S1 => rw [e] at h; exact fun v H1 q => k rv S1 v H1 q h
  | exc x S1 => rw [e] at h; exact h
  | bad => rw [e] at h; exact h
theorem tE_bindT {p : KE} {f : RV → SS → R Bool} {Q : Bool → Hp → Prop} {Q' : VK} (st : StOk G Av S σ H) (h : RdT G W ((p S).bind f) Av S σ H Q)
    (k : ∀ rv S1 v H1, EPost G Av S σ H rv S1 v H1 → RdT G W (f rv S1) Av S σ H Q → Q' v H1) : tE G W p σ H Q' := by
  refine ⟨Av, S, st, ?_⟩
  cases e : p S with
  | ok rv S1 => rw [e] at h; exact fun v H1 q => k rv S1 v H1 q h
  | exc x S1 => rw [e] at h; exact h
  | bad => rw [e] at h; exact h
theorem tT_bind {p : KT} {f : Bool → SS → R RV} {Q' : Bool → Hp → Prop} (st : StOk G Av S σ H) (h : RdE G W ((p S).bind f) Av S σ H Q)
    (k : ∀ b S1 Av1 H1, Post G Av S σ H Av1 S1 H1 → RdE G W (f b S1) Av S σ H Q → Q' b H1) : tT G W p σ H Q' := by
  refine ⟨Av, S, st, ?_⟩
  cases e : p S with
  | ok b S1 => rw [e] at h; exact fun Av1 H1 q => k b S1 Av1 H1 q h
  | exc x S1 => rw [e] at h; exact h
  | bad => rw [e] at h; exact h
theorem tT_bindT {p : KT} {f : Bool → SS → R Bool} {Q Q' : Bool → Hp → Prop} (st : StOk G Av S σ H) (h : RdT G W ((p S).bind f) Av S σ H Q)
    (k : ∀ b S1 Av1 H1, Post G Av S σ H Av1 S1 H1 → RdT G W (f b S1) Av S σ H Q → Q' b H1) : tT G W p σ H Q' := by
  refine ⟨Av, S, st, ?_⟩
  cases e : p S with
  | ok b S1 => rw [e] at h; exact fun Av1 H1 q => k b S1 Av1 H1 q h
  | exc x S1 => rw [e] at h; exact h
  | bad => rw [e] at h; exact h

/-- a view of a value: what may change, or a shared one -/
def Vx (G : Gs) (Av : Addr → Prop) (H : Hp) (d : D) (v : V) : Prop := Vw G Av H d v ∧ (MutD d = false → Rep G Av H d v)
theorem Rep.vx {d : D} {v : V} (h : Rep G Av H d v) : Vx G Av H d v := ⟨h.vw, fun _ => h⟩
/-- a value that is carried, as a view -/
def VOk (G : Gs) (Av : Addr → Prop) (S : SS) (σ : St) (H : Hp) (v : V) (rv : RV) : Prop := match rv with
  | RV.sh d => Rep G Av H d v
  | .fr _ => False
  | .br i => σ[i]? = some (some v) ∧ Live S i
theorem VOk.on {v : V} {rv : RV} (h : VOk G Av S σ H v rv) (st : StOk G Av S σ H) (p : Post G Av S σ H Av1 S1 H1) : VOk G Av1 S1 σ H1 v rv := by
  cases rv with
  | sh d => exact p.rep st h
  | fr d => exact h
  | br i => exact ⟨h.1, p.live i h.2⟩
theorem VOk.vx {v : V} {rv : RV} {d : D} (h : VOk G Av S σ H v rv) (st : StOk G Av S σ H) (e : deref S rv = some d) : Vx G Av H d v := by
  cases rv with
  | sh d' => cases e; exact Rep.vx h
  | fr d' => exact h.elim
  | br i =>
    obtain ⟨v', h1, h2, h3⟩ := st.view (show dAt S i = some d from e)
    rw [h.1] at h1; cases h1
    exact ⟨h2, h3⟩
theorem EPost.vok {rv : RV} {S' : SS} {v : V} {H' : Hp} (st : StOk G Av S σ H) (p : EPost G Av S σ H rv S' v H') : ∃ Av', Post G Av S σ H Av' S' H' ∧ VOk G Av' S' σ H' v rv.vw := by
  obtain ⟨Av', P, q⟩ := (p.view st).ex
  refine ⟨Av', P, ?_⟩
  cases rv with
  | sh d => exact q
  | fr d => exact q
  | br i => exact q

/-- behind an operation -/
def PPost (G : Gs) (Av : Addr → Prop) (H : Hp) (ro : RO) (v : V) (H' : Hp) : Prop := Ext H H' ∧ match ro with
  | .sh d => Rep G Av H' d v
  | .nw d => ∃ p, v = .ref p ∧ H p = none ∧ (∃ o, H' p = some o) ∧ Vw G (fun a => Av a ∨ a = p) H' d v
theorem StOk.ext (st : StOk G Av S σ H) (e : Ext H H1) (s : ∀ a, Av1 a → Av a ∨ H a = none) (hd : ∀ a, Av1 a → ∃ o, H1 a = some o ∧ Mu o) (hl : ∀ a, Av a → Av1 a) : StOk G Av1 S σ H1 := by
  refine ⟨st.len, hd, tabs_ext st.tb e, fun i d q => ?_, fun i sv d q r => ?_, st.dis⟩
  · obtain ⟨v, h1, h2⟩ := st.sh i d q
    exact ⟨v, h1, h2.mono (fun a o q _ _ => e a o q) s⟩
  · obtain ⟨p, h1, h2, h3, h4⟩ := st.ow i sv d q r
    exact ⟨p, h1, hl p h2, h3.mono (fun a o q _ _ => e a o q) s (fun a o _ q _ => e a o q), h4⟩
theorem Post.ext (st : StOk G Av S σ H) (e : Ext H H1) (s : ∀ a, Av1 a → Av a ∨ H a = none) (hd : ∀ a, Av1 a → ∃ o, H1 a = some o ∧ Mu o) (hl : ∀ a, Av a → Av1 a) : Post G Av S σ H Av1 S H1 :=
  ⟨fun a o q _ _ => e a o q, fun a o q => ⟨o, e a o q⟩, s, fun a q _ => hl a q, fun _ q => q, fun _ q => q, fun _ q => q, fun _ d q => ⟨d, q⟩, fun _ _ q => q, st.ext e s hd hl⟩
theorem PPost.e {ro : RO} {v : V} (st : StOk G Av S σ H) (p : PPost G Av H ro v H1) : EPost G Av S σ H ro.rv S v H1 := by
  obtain ⟨e, p⟩ := p
  have dm : ∀ a, Av a → ∃ o, H1 a = some o ∧ Mu o := fun a q => let ⟨o, h, m⟩ := st.dom a q; ⟨o, e a o h, m⟩
  cases ro with
  | sh d => exact ⟨Av, Post.ext st e (fun a q => .inl q) dm (fun a q => q), p⟩
  | nw d =>
    obtain ⟨a, rfl, h1, h2, h3⟩ := p
    cases hm : MutD d with
    | true =>
      have er : (RO.nw d).rv = .fr d := by unfold RO.rv; simp [hm]
      rw [er]
      exact ⟨fun b => Av b ∨ b = a, Post.ext st e (fun b q => q.elim .inl fun z => .inr (z ▸ h1)) (fun b q => q.elim (dm b) fun z => z ▸ h3.muN hm) (fun b q => .inl q), a, rfl, .inr rfl, h1, h3, hm⟩
    | false =>
      have er : (RO.nw d).rv = .sh d := by unfold RO.rv; simp [hm]
      rw [er]
      refine ⟨Av, Post.ext st e (fun a q => .inl q) dm (fun a q => q), (h3.less fun b q => .inl q).rep fun b z hb => ?_⟩
      cases z
      obtain ⟨o, z, _⟩ := st.dom _ hb
      rw [h1] at z; cases z
end

/-! ### operations by values -/
/-- what an operation on two values must do -/
def rB (G : Gs) (f : D → D → Option RO) : R2 := fun x y H Q => ∃ (Av : Addr → Prop) (d e : D) (ro : RO), (∀ a, Av a → ∃ o, H a = some o ∧ Mu o) ∧ Vx G Av H d x ∧ Vx G Av H e y ∧ f d e = some ro ∧ ∀ v H', PPost G Av H ro v H' → Q v H'
def rU1 (G : Gs) (f : D → Option RO) : V → Hp → VK → Prop := fun x H Q => ∃ (Av : Addr → Prop) (d : D) (ro : RO), (∀ a, Av a → ∃ o, H a = some o ∧ Mu o) ∧ Vx G Av H d x ∧ f d = some ro ∧ ∀ v H', PPost G Av H ro v H' → Q v H'

section
variable {X : Cx} {G : Gs} {W : WX} {a b c : Expr} {pos : Pos} {p q o : KE}
theorem PE_imp {e : Expr} {t t' : TE} (h : PE X e t') (k : ∀ σ H Q, t σ H Q → t' σ H Q) : PE X e t := ⟨fun pins s σ H Q I w => h.run pins s σ H Q I (k σ H Q w)⟩
theorem PT_imp {e : Expr} {t t' : TT} (h : PT X e t') (k : ∀ σ H Q, t σ H Q → t' σ H Q) : PT X e t := ⟨fun pins s σ H Q I w => h.run pins s σ H Q I (k σ H Q w)⟩
theorem prim_some {G : Gs} {W : WX} {Av : Addr → Prop} {S S1 : SS} {σ : St} {H : Hp} {Q : VK} {o : Option RO} (h : RdE G W (prim o S1) Av S σ H Q) : ∃ ro, o = some ro ∧ RdE G W (.ok ro.rv S1) Av S σ H Q := by
  cases o with
  | none => exact h.elim
  | some ro => exact ⟨ro, rfl, h⟩
theorem tri_bin {f : D → D → Option RO} {σ : St} {H : Hp} {Q : VK} (h : tE G W (kBin f p q) σ H Q) : tOp (rB G f) (tE G W p) (tE G W q) σ H Q := by
  obtain ⟨Av, S, st, h⟩ := h
  refine tE_bind st h fun r S1 v H1 P1 h1 => ?_
  obtain ⟨Av1, P1, v1⟩ := P1.vok st
  refine tE_bind P1.st (h1.trans P1) fun t S2 u H2 P2 h2 => ?_
  obtain ⟨Av2, P2, u2⟩ := P2.vok P1.st
  obtain ⟨ro, e, h2⟩ := prim_some (h2.trans P2)
  have v2 := v1.on P1.st P2
  obtain ⟨d, e1, e⟩ := Option.bind_eq_some_iff.mp e
  obtain ⟨d', e2, e⟩ := Option.bind_eq_some_iff.mp e
  exact ⟨Av2, d, d', ro, P2.st.dom, v2.vx P2.st e1, u2.vx P2.st e2, e, fun w H' pp => h2 w H' (pp.e P2.st)⟩
theorem s_bin {op : Operator} (ho : OpR X (binaryOp op) (rB G (binD op))) (ha : PE X a (tE G W p)) (hb : PE X b (tE G W q)) : PE X (.BinOp a op b pos) (tE G W (kBin (binD op) p q)) :=
  PE_imp (pe_op ho ha hb) fun σ H Q => tri_bin
theorem s_cmp {op : CmpOp} (ho : OpR X (compareOp op) (rB G (cmpD op))) (hm : behindInMarks op b = false) (ha : PE X a (tE G W p)) (hb : PE X b (tE G W q)) : PE X (.Compare a [op] [b] pos) (tE G W (kBin (cmpD op) p q)) :=
  PE_imp (pe_cmpR ho ha hb hm) fun σ H Q => tri_bin
end
end Eng

namespace Eng
open PySem PySem.Spec L2
open PyProof.Rows hiding St
section
variable {X : Cx} {G : Gs} {W : WX} {a b c : Expr} {pos : Pos} {p q o : KE} {t u : KT} {k : Nat} {rest : List Expr}

/-! ### constants and names -/
theorem tri_C {d : D} {v : V} (hd : ∀ Av H, Rep G Av H d v) {σ : St} {H : Hp} {Q : VK} (h : tE G W (kC d) σ H Q) : tC v σ H Q := by
  obtain ⟨Av, S, st, h⟩ := h
  exact h v H ⟨Av, Post.refl st, hd Av H⟩
theorem s_non {j} : PE X (.Constant .none j pos) (tE G W (kC .non)) := PE_imp pe_non fun _ _ _ => tri_C (d := .non) (v := .non) fun _ _ => (rfl : V.non = V.non)
theorem s_bl {b : Bool} {j} : PE X (.Constant (.bool b) j pos) (tE G W (kC (.bl b))) := PE_imp pe_bl fun _ _ _ => tri_C (d := .bl b) (v := .bl b) fun _ _ => (rfl : V.bl b = V.bl b)
theorem s_int {i : Int} {j} : PE X (.Constant (.int i) j pos) (tE G W (kC (.int i))) := PE_imp pe_int fun _ _ _ => tri_C (d := .int i) (v := .int i) fun _ _ => (rfl : V.int i = V.int i)
theorem s_str {x : Str} {j} : PE X (.Constant (.str x) j pos) (tE G W (kC (.str x))) := PE_imp pe_str fun _ _ _ => tri_C (d := .str x) (v := .str x) fun _ _ => (rfl : V.str x = V.str x)
theorem s_var {i : Nat} {x : Str} (hN : X.N[i]? = some x) (hv : Vis X.env.scope x) (hd : (x == ("__debug__" : Str)) = false) (hcd : (x == ("__classdict__" : Str)) = false) : PE X (.Name x pos) (tE G W (kVar i)) := by
  refine PE_imp (pe_var hN hv hd hcd) fun σ H Q h => ?_
  obtain ⟨Av, S, st, h⟩ := h
  show ∃ v, σ[i]? = some (some v) ∧ Q v H
  unfold kVar at h
  split at h
  · rename_i d e
    obtain ⟨v, h1, h2⟩ := st.sh i d e
    exact ⟨v, h1, h v H ⟨Av, Post.refl st, h2⟩⟩
  · rename_i s e ne
    split at h
    · rename_i hs
      obtain ⟨d, hd'⟩ := Option.isSome_iff_exists.mp hs
      have hda : dAt S i = some d := by unfold dAt; rw [ne]; exact hd'
      obtain ⟨v, h1, _⟩ := st.view hda
      exact ⟨v, h1, h v H ⟨Av, Post.refl st, h1, s, d, ne, hd'⟩⟩
    · exact h.elim
  · exact h.elim

/-! ### tests -/
theorem tru_vx {Av : Addr → Prop} {H : Hp} {K : PySem.W.Frag} {d : D} {v : V} {k : Bool} (h : Vx G Av H d v) (e : truthD d = some k) : TruV K v H k := by
  cases d with
  | non => cases (show v = .non from h.1); cases e; rfl
  | bl b => cases (show v = .bl b from h.1); cases e; rfl
  | int i => cases (show v = .int i from h.1); cases e; rfl
  | str x =>
    cases (show v = .str x from h.1)
    have e : (if x.length ≤ sizeLine then some ((x.length : Int) != 0) else none) = some k := e
    split at e
    · rename_i hz; cases e; exact ⟨hz, rfl⟩
    · cases e
  | lst ds =>
    obtain ⟨a, vs, h1, h2, h3⟩ := h.1
    subst h1; cases e
    refine .inl ⟨vs, SqL.of h2, ?_⟩
    have := h3.length
    cases vs <;> cases ds <;> simp_all
  | tup ds =>
    obtain ⟨a, vs, h1, h2, h3⟩ := h.1
    subst h1; cases e
    refine .inr (.inl ⟨vs, SqT.of h2, ?_⟩)
    have := h3.length
    cases vs <;> cases ds <;> simp_all
  | dic ks ds => cases e
  | obj c ns ds => cases e
  | scr ds => cases e
  | exo _ _ _ => cases e
theorem tri_test {σ : St} {H : Hp} {Q : Bool → Hp → Prop} (h : tT G W (kTest p) σ H Q) : tE G W p σ H fun x H' => ∃ k, TruV X.K x H' k ∧ Q k H' := by
  obtain ⟨Av, S, st, h⟩ := h
  refine tE_bindT st h fun r S1 v H1 P1 h1 => ?_
  obtain ⟨Av1, P1, v1⟩ := P1.vok st
  have h1 := h1.trans P1
  split at h1
  · rename_i b e
    obtain ⟨d, e1, e2⟩ := Option.bind_eq_some_iff.mp e
    exact ⟨b, tru_vx (v1.vx P1.st e1) e2, h1 Av1 H1 (Post.refl P1.st)⟩
  · exact h1.elim
/-- an expression that is tested by its value -/
theorem s_test (ha : PE X a (tE G W p)) (he : ∀ whole, isTrue a X.env whole = (do let v ← whole; standAt a.pos; holding [v] (truthy v))) : PT X a (tT G W (kTest p)) :=
  PT_imp (pt_truth ha he) fun σ H Q => tri_test
theorem rep_bl {Av : Addr → Prop} {H : Hp} {b : Bool} {v : V} (h : Rep G Av H (.bl b) v) : v = .bl b := h
/-- truths alone -/
def Bv (p : KE) : Prop := ∀ S rv S1, p S = .ok rv S1 → ∃ b, rv = .sh (.bl b)
theorem tri_testB (hb : Bv p) {σ : St} {H : Hp} {Q : Bool → Hp → Prop} (h : tT G W (Eng.kTest p) σ H Q) : tE G W p σ H fun x H' => ∃ k, x = .bl k ∧ Q k H' := by
  obtain ⟨Av, S, st, h⟩ := h
  refine ⟨Av, S, st, ?_⟩
  have h : RdT G W ((p S).bind fun r S1 => match (deref S1 r.vw).bind truthD with
    | some b => .ok b S1
    | none => .bad) Av S σ H Q := h
  cases e : p S with
  | ok rv S1 =>
    obtain ⟨b, rfl⟩ := hb S rv S1 e
    rw [e] at h
    exact fun v H1 ⟨Av1, P, q⟩ => ⟨b, q, h Av1 H1 P⟩
  | exc x S1 => rw [e] at h; exact h
  | bad => rw [e] at h; exact h
theorem bv_bin {f : D → D → Option RO} (hf : ∀ d e ro, f d e = some ro → ∃ b, ro = .sh (.bl b)) : Bv (kBin f p q) := by
  intro S rv S1 h
  unfold kBin at h
  cases e : p S with
  | ok r S2 =>
    rw [e] at h
    have h : (q S2).bind (fun t S3 => prim ((deref S3 r.vw).bind fun d => (deref S3 t.vw).bind fun e => f d e) S3) = .ok rv S1 := h
    cases e2 : q S2 with
    | ok t S3 =>
      rw [e2] at h
      have h : prim ((deref S3 r.vw).bind fun d => (deref S3 t.vw).bind fun e => f d e) S3 = .ok rv S1 := h
      unfold prim at h
      split at h
      · rename_i ro e3
        cases h
        obtain ⟨d, _, e3⟩ := Option.bind_eq_some_iff.mp e3
        obtain ⟨d', _, e3⟩ := Option.bind_eq_some_iff.mp e3
        obtain ⟨b, rfl⟩ := hf _ _ _ e3
        exact ⟨b, rfl⟩
      · cases h
    | exc _ _ => rw [e2] at h; cases h
    | bad => rw [e2] at h; cases h
  | exc _ _ => rw [e] at h; cases h
  | bad => rw [e] at h; cases h
theorem map_bo {α : Type} {o : Option α} {f : α → Bool} {ro : RO} (h : o.map (fun x => bo (f x)) = some ro) : ∃ b, ro = .sh (.bl b) := by
  cases o with
  | none => cases h
  | some x => cases h; exact ⟨_, rfl⟩
theorem cmpD_b : ∀ op d e ro, cmpD op d e = some ro → ∃ b, ro = .sh (.bl b) := by
  intro op d e ro h
  cases op with
  | Eq => exact map_bo (f := fun x => x) h
  | NotEq => exact map_bo h
  | Lt => cases d <;> cases e <;> first | (cases h; exact ⟨_, rfl⟩) | cases h
  | LtE => cases d <;> cases e <;> first | (cases h; exact ⟨_, rfl⟩) | cases h
  | Gt => cases d <;> cases e <;> first | (cases h; exact ⟨_, rfl⟩) | cases h
  | GtE => cases d <;> cases e <;> first | (cases h; exact ⟨_, rfl⟩) | cases h
  | Is => cases e <;> first | (cases h; exact ⟨_, rfl⟩) | (cases d <;> first | (cases h; exact ⟨_, rfl⟩) | cases h) | cases h
  | IsNot => cases e <;> first | (cases h; exact ⟨_, rfl⟩) | (cases d <;> first | (cases h; exact ⟨_, rfl⟩) | cases h) | cases h
  | In => cases e <;> first | exact map_bo (f := fun x => x) h | cases h
  | NotIn => cases e <;> first | exact map_bo h | cases h
theorem s_cmpT {op : CmpOp} (ho : OpR X (compareOp op) (rB G (cmpD op))) (hm : behindInMarks op b = false) (ha : PE X a (tE G W p)) (hb : PE X b (tE G W q)) : PT X (.Compare a [op] [b] pos) (tT G W (Eng.kTest (kBin (cmpD op) p q))) :=
  PT_imp (pt_cmpR ho ha hb hm) fun σ H Q h => tri_bin (tri_testB (bv_bin (cmpD_b op)) h)
/-- a op b op' c -/
theorem boolOf_some {ro : Option RO} {b : Bool} (h : boolOf ro = some b) : ro = some (.sh (.bl b)) := by
  unfold boolOf at h
  split at h
  · cases h; rfl
  · cases h
theorem tri_chain {f g : D → D → Option RO} {σ : St} {H : Hp} {Q : VK} (h : tT G W (kChain f g p q o) σ H fun b H' => Q (.bl b) H') : tChain (rB G f) (rB G g) (tE G W p) (tE G W q) (tE G W o) σ H Q := by
  obtain ⟨Av, S, st, h⟩ := h
  refine tE_bindT st h fun r S1 v H1 P1 h1 => ?_
  obtain ⟨Av1, P1, v1⟩ := P1.vok st
  refine tE_bindT P1.st (h1.trans P1) fun t S2 u H2 P2 h2 => ?_
  obtain ⟨Av2, P2, u2⟩ := P2.vok P1.st
  have v2 := v1.on P1.st P2
  have h2 := h2.trans P2
  have fin : ∀ {b}, boolOf ((deref S2 r.vw).bind fun d => (deref S2 t.vw).bind fun e => f d e) = some b → (∀ H3 Av3, Post G Av2 S2 σ H2 Av3 S2 H3 → if b = true then tE G W o σ H3 fun w' H4 => rB G g u w' H4 Q else Q (.bl false) H3) →
      rB G f v u H2 fun z H3 => ∃ k, z = .bl k ∧ (if k = true then tE G W o σ H3 fun w' H4 => rB G g u w' H4 Q else Q (.bl false) H3) := fun {b} e kk => by
    have e := boolOf_some e
    obtain ⟨d, e1, e⟩ := Option.bind_eq_some_iff.mp e
    obtain ⟨d', e2, e⟩ := Option.bind_eq_some_iff.mp e
    refine ⟨Av2, d, d', _, P2.st.dom, v2.vx P2.st e1, u2.vx P2.st e2, e, fun w H' pp => ⟨b, pp.2, ?_⟩⟩
    obtain ⟨Av3, P3, _⟩ := (pp.e P2.st).ex
    have := kk H' Av3 P3
    cases b with
    | true => exact this
    | false => exact this
  split at h2
  · rename_i e
    refine fin e fun H3 Av3 P3 => ?_
    simp only [if_true]
    refine tE_bindT P3.st (h2.trans P3) fun z S4 w H4 P4 h4 => ?_
    obtain ⟨Av4, P4, w4⟩ := P4.vok P3.st
    have h4 := h4.trans P4
    have u4 := (u2.on P2.st P3).on P3.st P4
    split at h4
    · rename_i b e4
      have e := boolOf_some e4
      obtain ⟨d, e1, e⟩ := Option.bind_eq_some_iff.mp e
      obtain ⟨d', e2, e⟩ := Option.bind_eq_some_iff.mp e
      refine ⟨Av4, d, d', _, P4.st.dom, u4.vx P4.st e1, w4.vx P4.st e2, e, fun w H' pp => ?_⟩
      obtain ⟨Av5, P5, _⟩ := (pp.e P4.st).ex
      have : w = .bl b := pp.2
      subst this
      exact h4 Av5 H' P5
    · exact h4.elim
  · rename_i e
    refine fin e fun H3 Av3 P3 => ?_
    simp only [if_false, Bool.false_eq_true]
    exact h2 Av3 H3 P3
  · exact h2.elim
theorem s_chainT {op op' : CmpOp} (ho : OpR X (compareOp op) (rB G (cmpD op))) (ho' : OpR X (compareOp op') (rB G (cmpD op'))) (hm : lastMarks [op, op'] [b, c] = false) (ha : PE X a (tE G W p)) (hb : PE X b (tE G W q)) (hc : PE X c (tE G W o)) :
    PT X (.Compare a [op, op'] [b, c] pos) (tT G W (kChain (cmpD op) (cmpD op') p q o)) := PT_imp (pt_chain ho ho' ha hb hc hm) fun σ H Q ⟨Av, S, st, h⟩ => tri_chain ⟨Av, S, st, by
    cases e : kChain (cmpD op) (cmpD op') p q o S with
    | ok b S1 => rw [e] at h; exact fun Av' H' P => ⟨b, rfl, h Av' H' P⟩
    | exc x S1 => rw [e] at h; exact h
    | bad => rw [e] at h; exact h⟩
theorem tri_val {σ : St} {H : Hp} {Q : VK} (h : tE G W (kVal t) σ H Q) : tT G W t σ H fun b H' => Q (.bl b) H' := by
  obtain ⟨Av, S, st, h⟩ := h
  refine tT_bind st h fun b S1 Av1 H1 P1 h1 => ?_
  exact h1.trans P1 (.bl b) H1 ⟨Av1, Post.refl P1.st, (rfl : V.bl b = V.bl b)⟩
theorem s_chain {op op' : CmpOp} (ho : OpR X (compareOp op) (rB G (cmpD op))) (ho' : OpR X (compareOp op') (rB G (cmpD op'))) (hm : lastMarks [op, op'] [b, c] = false) (ha : PE X a (tE G W p)) (hb : PE X b (tE G W q)) (hc : PE X c (tE G W o)) :
    PE X (.Compare a [op, op'] [b, c] pos) (tE G W (kVal (kChain (cmpD op) (cmpD op') p q o))) := PE_imp (pe_chain ho ho' ha hb hc hm) fun σ H Q h => tri_chain (tri_val h)

/-! ### not, and, or, if -/
theorem s_notT (ha : PT X a (tT G W t)) : PT X (.UnaryOp .Not a pos) (tT G W (kNot t)) := PT_imp (pt_not ha) fun σ H Q ⟨Av, S, st, h⟩ =>
  tT_bindT st h fun b S1 Av1 H1 P1 h1 => h1.trans P1 Av1 H1 (Post.refl P1.st)
theorem s_not (ha : PE X a (tE G W p)) : PE X (.UnaryOp .Not a pos) (tE G W (kVal (kNot (Eng.kTest p)))) := PE_imp (pe_notT ha) fun σ H Q h => by
  obtain ⟨Av, S, st, h⟩ := tri_val h
  refine tri_test ⟨Av, S, st, ?_⟩
  unfold kNot at h
  cases e : Eng.kTest p S with
  | ok b S1 => rw [e] at h; exact h
  | exc x S1 => rw [e] at h; exact h
  | bad => rw [e] at h; exact h
theorem s_ite (hc : PT X c (tT G W t)) (ha : PE X a (tE G W p)) (hb : PE X b (tE G W q)) : PE X (.IfExp c a b pos) (tE G W (kIf t p q)) := PE_imp (pe_ifExp hc ha hb) fun σ H Q ⟨Av, S, st, h⟩ =>
  tT_bind st h fun k S1 Av1 H1 P1 h1 => by
    have h1 := h1.trans P1
    cases k with
    | true => exact ⟨Av1, S1, P1.st, h1⟩
    | false => exact ⟨Av1, S1, P1.st, h1⟩
theorem s_andT (ha : PT X a (tT G W t)) (hb : PW X (.BoolOp .And (b :: rest) pos) (tT G W u)) : PW X (.BoolOp .And (a :: b :: rest) pos) (tT G W (kAndT true t u)) := by
  refine ⟨fun wh pins s σ H Q I h => (pw_and ha hb).run wh pins s σ H Q I ?_⟩
  obtain ⟨Av, S, st, h⟩ := h
  refine tT_bindT st h fun k S1 Av1 H1 P1 h1 => ?_
  have h1 := h1.trans P1
  cases k with
  | true => exact ⟨Av1, S1, P1.st, h1⟩
  | false => exact h1 Av1 H1 (Post.refl P1.st)
theorem s_orT (ha : PT X a (tT G W t)) (hb : PW X (.BoolOp .Or (b :: rest) pos) (tT G W u)) : PW X (.BoolOp .Or (a :: b :: rest) pos) (tT G W (kAndT false t u)) := by
  refine ⟨fun wh pins s σ H Q I h => (pw_or ha hb).run wh pins s σ H Q I ?_⟩
  obtain ⟨Av, S, st, h⟩ := h
  refine tT_bindT st h fun k S1 Av1 H1 P1 h1 => ?_
  have h1 := h1.trans P1
  cases k with
  | false => exact ⟨Av1, S1, P1.st, h1⟩
  | true => exact h1 Av1 H1 (Post.refl P1.st)
theorem tri_andV {isAnd : Bool} {σ : St} {H : Hp} {Q : VK} (h : tE G W (kAndV isAnd p q) σ H Q) : tE G W p σ H fun x H1 => ∃ k, TruV X.K x H1 k ∧ if k = isAnd then tE G W q σ H1 Q else Q x H1 := by
  obtain ⟨Av, S, st, h⟩ := h
  refine tE_bind st h fun r S1 v H1 P1 h1 => ?_
  have P1v := P1.view st
  obtain ⟨Av1, P1, v1⟩ := P1.vok st
  have h1' := h1.trans P1
  split at h1'
  · rename_i b e
    obtain ⟨d, e1, e2⟩ := Option.bind_eq_some_iff.mp e
    refine ⟨b, tru_vx (v1.vx P1.st e1) e2, ?_⟩
    split
    · rename_i hb
      rw [if_pos hb] at h1'
      exact ⟨Av1, S1, P1.st, h1'⟩
    · rename_i hb
      rw [if_neg hb] at h1'
      refine h1' v H1 ⟨Av1, Post.refl P1.st, ?_⟩
      generalize r.vw = rv at v1
      cases rv with
      | sh d => exact v1
      | fr d => exact v1.elim
      | br i => exact v1
  · exact h1'.elim
theorem s_and (ha : PE X a (tE G W p)) (hb : PE X (.BoolOp .And (b :: rest) pos) (tE G W q)) : PE X (.BoolOp .And (a :: b :: rest) pos) (tE G W (kAndV true p q)) :=
  PE_imp (pe_andT ha hb) fun σ H Q => tri_andV
theorem s_or (ha : PE X a (tE G W p)) (hb : PE X (.BoolOp .Or (b :: rest) pos) (tE G W q)) : PE X (.BoolOp .Or (a :: b :: rest) pos) (tE G W (kAndV false p q)) :=
  PE_imp (pe_orT ha hb) fun σ H Q h => by
    obtain ⟨Av, S, st, h⟩ := tri_andV (X := X) h
    refine ⟨Av, S, st, ?_⟩
    cases e : p S with
    | ok rv S1 =>
      rw [e] at h
      refine fun v H1 P => ?_
      obtain ⟨k, h1, h2⟩ := h v H1 P
      refine ⟨k, h1, ?_⟩
      cases k with
      | true => exact h2
      | false => exact h2
    | exc x S1 => rw [e] at h; exact h
    | bad => rw [e] at h; exact h
end
end Eng

namespace Eng
open PySem PySem.Spec L2
open PyProof.Rows hiding St
section
variable {X : Cx} {G : Gs}

theorem Vx.int {Av : Addr → Prop} {H : Hp} {i : Int} {v : V} (h : Vx G Av H (.int i) v) : v = .int i := h.1
theorem Vx.str {Av : Addr → Prop} {H : Hp} {i : Str} {v : V} (h : Vx G Av H (.str i) v) : v = .str i := h.1
theorem Vx.bl {Av : Addr → Prop} {H : Hp} {i : Bool} {v : V} (h : Vx G Av H (.bl i) v) : v = .bl i := h.1
theorem Vx.non {Av : Addr → Prop} {H : Hp} {v : V} (h : Vx G Av H .non v) : v = .non := h.1
theorem Vx.lst {Av : Addr → Prop} {H : Hp} {ds : List D} {v : V} (h : Vx G Av H (.lst ds) v) : ∃ a vs, v = .ref a ∧ H a = some (.lst vs) ∧ Reps G Av H ds vs := h.1
theorem Vx.tup {Av : Addr → Prop} {H : Hp} {ds : List D} {v : V} (h : Vx G Av H (.tup ds) v) : ∃ a vs, v = .ref a ∧ ¬ Av a ∧ H a = some (.tup vs) ∧ Reps G Av H ds vs := h.2 rfl
theorem Vx.rep {Av : Addr → Prop} {H : Hp} {d : D} {v : V} (h : Vx G Av H d v) (m : MutD d = false) : Rep G Av H d v := h.2 m
/-- a scalar result -/
theorem PPost.val {Av : Addr → Prop} {H : Hp} {d : D} {v : V} (h : Rep G Av H d v) : PPost G Av H (.sh d) v H := ⟨fun _ _ q => q, h⟩
theorem ext_upd {H : Hp} {p : Addr} {o : HO} (n : H p = none) : Ext H (upd H p o) := fun a u q => by rw [upd_ne (ne_of_none q n)]; exact q
/-- children behind a new object: apart from it, too -/
theorem Reps.laid {Av : Addr → Prop} {H : Hp} {ds : List D} {vs : List V} {p : Addr} {o : HO} (n : H p = none) (h : Reps G Av H ds vs) : Reps G (fun a => Av a ∨ a = p) (upd H p o) ds vs :=
  Reps.mono (fun a u q _ _ => ext_upd n a u q) (fun a q => q.elim .inl fun z => .inr (z ▸ n)) ds h
theorem PPost.lst {Av : Addr → Prop} {H : Hp} {ds : List D} {vs : List V} {p : Addr} (n : H p = none) (h : Reps G Av H ds vs) : PPost G Av H (.nw (.lst ds)) (.ref p) (upd H p (.lst vs)) :=
  ⟨ext_upd n, p, rfl, n, ⟨_, upd_same⟩, p, vs, rfl, upd_same, h.laid n⟩
theorem PPost.tup {Av : Addr → Prop} {H : Hp} {ds : List D} {vs : List V} {p : Addr} (n : H p = none) (h : Reps G Av H ds vs) : PPost G Av H (.nw (.tup ds)) (.ref p) (upd H p (.tup vs)) :=
  ⟨ext_upd n, p, rfl, n, ⟨_, upd_same⟩, p, vs, rfl, upd_same, h.laid n⟩
theorem Reps.flatten {Av : Addr → Prop} {H : Hp} {ds : List D} {vs : List V} (h : Reps G Av H ds vs) : ∀ n, Reps G Av H (List.replicate n ds).flatten (List.replicate n vs).flatten
  | 0 => rfl
  | n + 1 => by simp only [List.replicate_succ, List.flatten_cons]; exact h.append (h.flatten n)
theorem smallB_ok {i : Int} (h : smallB i = true) : -(2 ^ 64) < i ∧ i < 2 ^ 64 := by
  unfold smallB at h
  simpa using h

/-- the form of most proofs: a case of values -/
theorem o_bin {k : Nat} (hr : Room k X.A) (op : Operator) : OpR X (binaryOp op) (rB G (binD op)) := by
  rintro pins s σ H x y v u Q I rx ry ⟨Av, d, e, ro, dm, vd, ve, h, kk⟩
  cases op with
  | Add =>
    cases d with
    | int i =>
      cases e with
      | int j => cases h; cases vd.int; cases ve.int; exact op_add pins s σ H _ _ v u Q I rx ry ⟨i, j, rfl, rfl, kk _ _ (PPost.val (d := .int (i + j)) rfl)⟩
      | _ => cases h
    | str i =>
      cases e with
      | str j =>
        have h : (if i.length + j.length ≤ sizeLine then some (RO.sh (.str (i ++ j))) else none) = some ro := h
        split at h
        · rename_i hz
          cases h; cases vd.str; cases ve.str
          exact op_add_str pins s σ H _ _ v u Q I rx ry ⟨i, j, rfl, rfl, hz, kk _ _ (PPost.val (d := .str (i ++ j)) rfl)⟩
        · cases h
      | _ => cases h
    | lst xs =>
      cases e with
      | lst ys =>
        have h : (if xs.length + ys.length ≤ sizeLine then some (RO.nw (.lst (xs ++ ys))) else none) = some ro := h
        split at h
        · rename_i hz
          cases h
          obtain ⟨a, vs, rfl, ha, ra⟩ := vd.lst
          obtain ⟨b, us, rfl, hb, rb⟩ := ve.lst
          exact op_cat pins s σ H _ _ v u Q I rx ry ⟨a, b, vs, us, rfl, rfl, ha, hb, by rw [ra.length, rb.length]; exact hz, fun p n => kk _ _ (PPost.lst n (ra.append rb))⟩
        · cases h
      | _ => cases h
    | tup xs =>
      cases e with
      | tup ys =>
        have h : (if xs.length + ys.length ≤ sizeLine then (if xs.isEmpty then some (RO.sh (.tup ys)) else if ys.isEmpty then some (.sh (.tup xs)) else some (.nw (.tup (xs ++ ys)))) else none) = some ro := h
        split at h
        · rename_i hz
          obtain ⟨a, vs, rfl, na, ha, ra⟩ := vd.tup
          obtain ⟨b, us, rfl, nb, hb, rb⟩ := ve.tup
          have la := ra.length
          have lb := rb.length
          refine op_catA pins s σ H _ _ v u Q I rx ry ⟨a, b, vs, us, rfl, rfl, SqT.of ha, SqT.of hb, by rw [la, lb]; exact hz, fun z => ?_, fun z z2 => ?_, fun z z2 p n => ?_⟩
          · subst z
            have : xs = [] := by cases xs with | nil => rfl | cons _ _ => cases la
            subst this
            cases h
            exact kk _ _ (PPost.val (ve.rep rfl))
          · subst z2
            have e1 : ys = [] := by cases ys with | nil => rfl | cons _ _ => cases lb
            have e2 : xs.isEmpty = false := by cases xs with | nil => exact absurd (List.length_eq_zero_iff.mp la) z | cons _ _ => rfl
            subst e1
            rw [e2] at h
            cases h
            exact kk _ _ (PPost.val (vd.rep rfl))
          · have e2 : xs.isEmpty = false := by cases xs with | nil => exact absurd (List.length_eq_zero_iff.mp la) z | cons _ _ => rfl
            have e3 : ys.isEmpty = false := by cases ys with | nil => exact absurd (List.length_eq_zero_iff.mp lb) z2 | cons _ _ => rfl
            rw [e2, e3] at h
            cases h
            exact kk _ _ (PPost.tup n (ra.append rb))
        · cases h
      | _ => cases h
    | _ => cases h
  | Sub =>
    cases d with
    | int i =>
      cases e with
      | int j => cases h; cases vd.int; cases ve.int; exact op_sub pins s σ H _ _ v u Q I rx ry ⟨i, j, rfl, rfl, kk _ _ (PPost.val (d := .int (i - j)) rfl)⟩
      | _ => cases h
    | _ => cases h
  | Mult =>
    cases d with
    | int i =>
      cases e with
      | int j =>
        have h : (if smallB i || smallB j then some (RO.sh (.int (i * j))) else none) = some ro := h
        split at h
        · rename_i hz
          cases h; cases vd.int; cases ve.int
          refine op_mul pins s σ H _ _ v u Q I rx ry ⟨i, j, rfl, rfl, ?_, kk _ _ (PPost.val (d := .int (i * j)) rfl)⟩
          rcases Bool.or_eq_true_iff.mp hz with z | z
          · exact .inl (smallB_ok z)
          · exact .inr (smallB_ok z)
        · cases h
      | _ => cases h
    | lst xs =>
      cases e with
      | int j =>
        have h : (if decide (-(2 ^ 63) ≤ j) && decide (j < 2 ^ 63) && decide (xs.length * j.toNat ≤ sizeLine) then some (RO.nw (.lst (List.replicate j.toNat xs).flatten)) else none) = some ro := h
        split at h
        · rename_i hz
          cases h; cases ve.int
          simp only [decide_eq_true_eq, Bool.and_eq_true] at hz
          obtain ⟨a, vs, rfl, ha, ra⟩ := vd.lst
          exact op_rep pins s σ H _ _ v u Q I rx ry ⟨a, j, vs, rfl, rfl, ha, hz.1.1, hz.1.2, by rw [ra.length]; exact hz.2, fun p n => kk _ _ (PPost.lst n (ra.flatten _))⟩
        · cases h
      | _ => cases h
    | _ => cases h
  | FloorDiv =>
    cases d with
    | int i =>
      cases e with
      | int j =>
        have h : (if decide (0 < j) && decide (j.natAbs.log2 < 9000) then some (RO.sh (.int (i / j))) else none) = some ro := h
        split at h
        · rename_i hz
          cases h; cases vd.int; cases ve.int
          simp only [decide_eq_true_eq, Bool.and_eq_true] at hz
          exact op_fdivW pins s σ H _ _ v u Q I rx ry ⟨i, j, rfl, rfl, hz, kk _ _ (PPost.val (d := .int (i / j)) rfl)⟩
        · cases h
      | _ => cases h
    | _ => cases h
  | Mod =>
    cases d with
    | int i =>
      cases e with
      | int j =>
        have h : (if 0 < j then some (RO.sh (.int (i % j))) else none) = some ro := h
        split at h
        · rename_i hz
          cases h; cases vd.int; cases ve.int
          exact op_mod pins s σ H _ _ v u Q I rx ry ⟨i, j, rfl, rfl, hz, kk _ _ (PPost.val (d := .int (i % j)) rfl)⟩
        · cases h
      | _ => cases h
    | _ => cases h
  | Pow =>
    cases d with
    | int i =>
      cases e with
      | int j =>
        have h : (if decide (0 ≤ j) && decide (j ≤ 1000000) && decide (i.natAbs < 2 ^ 64) then some (RO.sh (.int (i ^ j.toNat))) else none) = some ro := h
        split at h
        · rename_i hz
          cases h; cases vd.int; cases ve.int
          simp only [decide_eq_true_eq, Bool.and_eq_true] at hz
          exact op_pow pins s σ H _ _ v u Q I rx ry ⟨i, j, rfl, rfl, ⟨hz.1.1, hz.1.2, hz.2⟩, kk _ _ (PPost.val (d := .int (i ^ j.toNat)) rfl)⟩
        · cases h
      | _ => cases h
    | _ => cases h
  | _ => cases h

mutual
theorem toP_rep {K : PySem.W.Frag} {Av : Addr → Prop} {H : Hp} : ∀ (d : D) {v : V} {p : PyData}, Rep G Av H d v → toP d = some p → Dp K H v p
  | .non, v, p, h, e => by cases (show v = .non from h); cases e; exact .non
  | .bl b, v, p, h, e => by cases (show v = .bl b from h); cases e; exact .bl b
  | .int i, v, p, h, e => by cases (show v = .int i from h); cases e; exact .int i
  | .str x, v, p, h, e => by cases (show v = .str x from h); cases e; exact .str x
  | .lst ds, v, p, h, e => by
    obtain ⟨a, vs, rfl, _, h2, h3⟩ := h
    obtain ⟨ps, e1, rfl⟩ := Option.map_eq_some_iff.mp (show (toPs ds).map PyData.list = some p from e)
    exact .lst (SqL.of h2) (toPs_rep ds h3 e1)
  | .tup ds, v, p, h, e => by
    obtain ⟨a, vs, rfl, _, h2, h3⟩ := h
    obtain ⟨ps, e1, rfl⟩ := Option.map_eq_some_iff.mp (show (toPs ds).map PyData.tuple = some p from e)
    exact .tup (SqT.of h2) (toPs_rep ds h3 e1)
  | .dic _ _, v, p, h, e => by cases e
  | .obj _ _ _, v, p, h, e => by cases e
  | .scr _, v, p, h, e => by cases e
theorem toPs_rep {K : PySem.W.Frag} {Av : Addr → Prop} {H : Hp} : ∀ (ds : List D) {vs : List V} {ps : List PyData}, Reps G Av H ds vs → toPs ds = some ps → DpAll K H vs ps
  | [], vs, ps, h, e => by cases (show vs = [] from h); cases e; exact .nil
  | d :: ds, vs, ps, ⟨v, r, h1, h2, h3⟩, e => by
    subst h1
    obtain ⟨p, e1, e⟩ := Option.bind_eq_some_iff.mp (show (toP d).bind (fun p => (toPs ds).map fun ps => p :: ps) = some ps from e)
    obtain ⟨qs, e2, rfl⟩ := Option.map_eq_some_iff.mp e
    exact .cons (toP_rep d h2 e1) (toPs_rep ds h3 e2)
end
theorem toP_vx {K : PySem.W.Frag} {Av : Addr → Prop} {H : Hp} {d : D} {v : V} {p : PyData} (h : Vx G Av H d v) (e : toP d = some p) : Dp K H v p := by
  cases d with
  | lst ds =>
    obtain ⟨a, vs, rfl, h2, h3⟩ := h.lst
    obtain ⟨ps, e1, rfl⟩ := Option.map_eq_some_iff.mp (show (toPs ds).map PyData.list = some p from e)
    exact .lst (SqL.of h2) (toPs_rep ds h3 e1)
  | dic _ _ => cases e
  | obj _ _ _ => cases e
  | _ => exact toP_rep _ (h.rep rfl) e
theorem eqD_some {d e : D} {b : Bool} (h : eqD d e = some b) : ∃ p q, toP d = some p ∧ toP e = some q ∧ SeqAt.shaped p = true ∧ SeqAt.shaped q = true ∧ b = PyData.eqv p q := by
  unfold eqD at h
  obtain ⟨p, h1, h⟩ := Option.bind_eq_some_iff.mp h
  obtain ⟨q, h2, h⟩ := Option.bind_eq_some_iff.mp h
  split at h
  · rename_i hz
    cases h
    exact ⟨p, q, h1, h2, (Bool.and_eq_true_iff.mp hz).1, (Bool.and_eq_true_iff.mp hz).2, rfl⟩
  · cases h
theorem isNon_vx {Av : Addr → Prop} {H : Hp} {d : D} {v : V} (h : Vx G Av H d v) : decide (v = .non) = isNon d := by
  cases d with
  | non => cases h.non; rfl
  | bl b => cases h.bl; rfl
  | int b => cases h.int; rfl
  | str b => cases h.str; rfl
  | lst ds => obtain ⟨a, vs, rfl, _⟩ := h.lst; rfl
  | tup ds => obtain ⟨a, vs, rfl, _⟩ := h.tup; rfl
  | dic ks ds => obtain ⟨a, vs, rfl, _⟩ := h.1; rfl
  | obj c ks ds => obtain ⟨a, dx, vs, rfl, _⟩ := h.1; rfl
  | scr ds => obtain ⟨a, vs, rfl, _⟩ := h.1; rfl
  | exo _ _ ds => obtain ⟨a, dx, vs, rfl, _⟩ := h.1; rfl
theorem flat_vx {Av : Addr → Prop} {H : Hp} {d : D} {v : V} (h : Rep G Av H d v) (f : flatD d = true) : flatV v = true := by
  cases d with
  | non => cases (show v = .non from h); rfl
  | bl b => cases (show v = .bl b from h); rfl
  | int b => cases (show v = .int b from h); rfl
  | str b => cases (show v = .str b from h); rfl
  | _ => cases f
theorem eqF_vx {Av : Addr → Prop} {H : Hp} {d e : D} {v u : V} (h : Rep G Av H d v) (q : Rep G Av H e u) (f : flatD d = true) (f' : flatD e = true) : eqV v u = eqF d e := by
  cases d with
  | non => cases (show v = .non from h); cases e with
    | non => cases (show u = .non from q); rfl
    | bl b => cases (show u = .bl b from q); rfl
    | int b => cases (show u = .int b from q); rfl
    | str b => cases (show u = .str b from q); rfl
    | _ => cases f'
  | bl a => cases (show v = .bl a from h); cases e with
    | non => cases (show u = .non from q); rfl
    | bl b => cases (show u = .bl b from q); rfl
    | int b => cases (show u = .int b from q); rfl
    | str b => cases (show u = .str b from q); rfl
    | _ => cases f'
  | int a => cases (show v = .int a from h); cases e with
    | non => cases (show u = .non from q); rfl
    | bl b => cases (show u = .bl b from q); rfl
    | int b => cases (show u = .int b from q); rfl
    | str b => cases (show u = .str b from q); rfl
    | _ => cases f'
  | str a => cases (show v = .str a from h); cases e with
    | non => cases (show u = .non from q); rfl
    | bl b => cases (show u = .bl b from q); rfl
    | int b => cases (show u = .int b from q); rfl
    | str b => cases (show u = .str b from q); rfl
    | _ => cases f'
  | _ => cases f
theorem inFlat_vx {Av : Addr → Prop} {H : Hp} {d : D} {v : V} {ds : List D} {vs : List V} {b : Bool} (h : Vx G Av H d v) (q : Reps G Av H ds vs) (e : inFlat d ds = some b) : flatV v = true ∧ vs.all flatV = true ∧ inV v vs = b := by
  unfold inFlat at e
  split at e
  · rename_i hz
    obtain ⟨f1, f2⟩ := Bool.and_eq_true_iff.mp hz
    cases e
    have h : Rep G Av H d v := h.rep (by cases d <;> first | rfl | cases f1)
    refine ⟨flat_vx h f1, ?_, ?_⟩
    · clear hz
      induction ds generalizing vs with
      | nil => cases (show vs = [] from q); rfl
      | cons e ds ih =>
        obtain ⟨w, r, rfl, h2, h3⟩ := q
        simp only [List.all_cons, Bool.and_eq_true] at f2 ⊢
        exact ⟨flat_vx h2 f2.1, ih h3 f2.2⟩
    · clear hz
      unfold inV
      induction ds generalizing vs with
      | nil => cases (show vs = [] from q); rfl
      | cons e ds ih =>
        obtain ⟨w, r, rfl, h2, h3⟩ := q
        simp only [List.all_cons, Bool.and_eq_true] at f2
        simp only [List.any_cons]
        rw [ih h3 f2.2, eqF_vx h2 h f2.1 f1]
  · cases e
theorem map_some {α : Type} {o : Option α} {f : α → RO} {ro : RO} (h : o.map f = some ro) : ∃ x, o = some x ∧ f x = ro := Option.map_eq_some_iff.mp h
theorem o_cmp {k : Nat} (hr : Room k X.A) (op : CmpOp) : OpR X (compareOp op) (rB G (cmpD op)) := by
  rintro pins s σ H x y v u Q I rx ry ⟨Av, d, e, ro, dm, vd, ve, h, kk⟩
  have blk : ∀ b, PPost G Av H (bo b) (.bl b) H := fun b => PPost.val (d := .bl b) rfl
  cases op with
  | Eq =>
    obtain ⟨b, e1, rfl⟩ := map_some h
    obtain ⟨p, q, h1, h2, h3, h4, rfl⟩ := eqD_some e1
    exact op_eqD hr.units pins s σ H _ _ v u Q I rx ry ⟨p, q, toP_vx vd h1, toP_vx ve h2, h3, h4, kk _ _ (blk _)⟩
  | NotEq =>
    obtain ⟨b, e1, rfl⟩ := map_some h
    obtain ⟨p, q, h1, h2, h3, h4, rfl⟩ := eqD_some e1
    exact op_neD hr.units pins s σ H _ _ v u Q I rx ry ⟨p, q, toP_vx vd h1, toP_vx ve h2, h3, h4, kk _ _ (blk _)⟩
  | Lt =>
    cases d with
    | int i =>
      cases e with
      | int j => cases h; cases vd.int; cases ve.int; exact op_lt pins s σ H _ _ v u Q I rx ry ⟨i, j, rfl, rfl, kk _ _ (blk _)⟩
      | _ => cases h
    | _ => cases h
  | LtE =>
    cases d with
    | int i =>
      cases e with
      | int j => cases h; cases vd.int; cases ve.int; exact op_le pins s σ H _ _ v u Q I rx ry ⟨i, j, rfl, rfl, kk _ _ (blk _)⟩
      | _ => cases h
    | _ => cases h
  | Gt =>
    cases d with
    | int i =>
      cases e with
      | int j => cases h; cases vd.int; cases ve.int; exact op_gt pins s σ H _ _ v u Q I rx ry ⟨i, j, rfl, rfl, kk _ _ (blk _)⟩
      | _ => cases h
    | _ => cases h
  | GtE =>
    cases d with
    | int i =>
      cases e with
      | int j => cases h; cases vd.int; cases ve.int; exact op_ge pins s σ H _ _ v u Q I rx ry ⟨i, j, rfl, rfl, kk _ _ (blk _)⟩
      | _ => cases h
    | _ => cases h
  | Is =>
    cases e with
    | non => cases h; cases ve.non; exact op_isN pins s σ H _ _ v u Q I rx ry ⟨rfl, by rw [isNon_vx vd]; exact kk _ _ (blk _)⟩
    | bl j =>
      cases d with
      | bl i => cases h; cases vd.bl; cases ve.bl; exact op_isBl pins s σ H _ _ v u Q I rx ry ⟨i, j, rfl, rfl, kk _ _ (blk _)⟩
      | _ => cases h
    | _ => cases h
  | IsNot =>
    cases e with
    | non => cases h; cases ve.non; exact op_notN pins s σ H _ _ v u Q I rx ry ⟨rfl, by rw [isNon_vx vd]; exact kk _ _ (blk _)⟩
    | bl j =>
      cases d with
      | bl i => cases h; cases vd.bl; cases ve.bl; exact op_notBl pins s σ H _ _ v u Q I rx ry ⟨i, j, rfl, rfl, kk _ _ (blk _)⟩
      | _ => cases h
    | _ => cases h
  | In =>
    cases e with
    | lst ds =>
      obtain ⟨b, e1, rfl⟩ := map_some h
      obtain ⟨a, vs, rfl, h2, h3⟩ := ve.lst
      obtain ⟨f1, f2, rfl⟩ := inFlat_vx vd h3 e1
      exact op_in_seq pins s σ H _ _ v u Q I rx ry ⟨a, vs, rfl, .inl (SqL.of h2), f1, f2, kk _ _ (blk _)⟩
    | tup ds =>
      obtain ⟨b, e1, rfl⟩ := map_some h
      obtain ⟨a, vs, rfl, _, h2, h3⟩ := ve.tup
      obtain ⟨f1, f2, rfl⟩ := inFlat_vx vd h3 e1
      exact op_in_seq pins s σ H _ _ v u Q I rx ry ⟨a, vs, rfl, .inr (SqT.of h2), f1, f2, kk _ _ (blk _)⟩
    | _ => cases h
  | NotIn =>
    cases e with
    | lst ds =>
      obtain ⟨b, e1, rfl⟩ := map_some h
      obtain ⟨a, vs, rfl, h2, h3⟩ := ve.lst
      obtain ⟨f1, f2, rfl⟩ := inFlat_vx vd h3 e1
      exact op_notIn_seq pins s σ H _ _ v u Q I rx ry ⟨a, vs, rfl, .inl (SqL.of h2), f1, f2, kk _ _ (blk _)⟩
    | tup ds =>
      obtain ⟨b, e1, rfl⟩ := map_some h
      obtain ⟨a, vs, rfl, _, h2, h3⟩ := ve.tup
      obtain ⟨f1, f2, rfl⟩ := inFlat_vx vd h3 e1
      exact op_notIn_seq pins s σ H _ _ v u Q I rx ry ⟨a, vs, rfl, .inr (SqT.of h2), f1, f2, kk _ _ (blk _)⟩
    | _ => cases h
end
end Eng

namespace Eng
open PySem PySem.Spec L2
open PyProof.Rows hiding St

/-! ### lists of values: what each item is, by a relation that lasts -/
abbrev ER (γ : Type) := (Addr → Prop) → SS → St → Hp → γ → V → Prop
def ErD (G : Gs) : ER D := fun Av _ _ H d v => Rep G Av H d v
def ErV (G : Gs) : ER RV := fun Av S σ H r v => VOk G Av S σ H v r
def ErA (G : Gs) : ER AV := fun Av S σ H a v => match a with
  | .sh d => Rep G Av H d v
  | .io i => σ[i]? = some (some v)
def Lasts (G : Gs) {γ : Type} (E : ER γ) : Prop := ∀ {Av Av1 : Addr → Prop} {S S1 : SS} {σ : St} {H H1 : Hp} {x : γ} {v : V}, E Av S σ H x v → StOk G Av S σ H → Post G Av S σ H Av1 S1 H1 → E Av1 S1 σ H1 x v
theorem lastsD {G : Gs} : Lasts G (ErD G) := fun h st P => P.rep st h
theorem lastsV {G : Gs} : Lasts G (ErV G) := fun h st P => VOk.on h st P
theorem lastsA {G : Gs} : Lasts G (ErA G) := fun {_ _ _ _ _ _ _ x _} h st P => by
  cases x with
  | sh d => exact P.rep st h
  | io i => exact h
def Ers {γ : Type} (E : ER γ) (Av : Addr → Prop) (S : SS) (σ : St) (H : Hp) : List γ → List V → Prop
  | [], vs => vs = []
  | x :: xs, vs => ∃ v r, vs = v :: r ∧ E Av S σ H x v ∧ Ers E Av S σ H xs r
theorem Ers.on {G : Gs} {γ : Type} {E : ER γ} (l : Lasts G E) {Av Av1 : Addr → Prop} {S S1 : SS} {σ : St} {H H1 : Hp} (st : StOk G Av S σ H) (P : Post G Av S σ H Av1 S1 H1) : ∀ {xs : List γ} {vs : List V}, Ers E Av S σ H xs vs → Ers E Av1 S1 σ H1 xs vs
  | [], _, h => h
  | _ :: _, _, ⟨v, r, h1, h2, h3⟩ => ⟨v, r, h1, l h2 st P, Ers.on (E := E) l st P h3⟩
theorem Ers.reps {G : Gs} {Av : Addr → Prop} {S : SS} {σ : St} {H : Hp} : ∀ {ds : List D} {vs : List V}, Ers (ErD G) Av S σ H ds vs → Reps G Av H ds vs
  | [], _, h => h
  | _ :: _, _, ⟨v, r, h1, h2, h3⟩ => ⟨v, r, h1, h2, h3.reps⟩

section
variable (G : Gs) (W : WX)
def Rd1 {γ : Type} (E : ER γ) (r : R γ) (Av : Addr → Prop) (S : SS) (σ : St) (H : Hp) (Q : VK) : Prop := match r with
  | .ok x S' => ∀ Av' v H', Post G Av S σ H Av' S' H' → E Av' S' σ H' x v → Q v H'
  | .exc e S' => ∀ cls d H', XPost G Av S σ H e S' cls d H' → W cls d σ H'
  | .bad => False
def t1 {γ : Type} (E : ER γ) (f : SS → R γ) : TE := fun σ H Q => ∃ Av S, StOk G Av S σ H ∧ Rd1 G W E (f S) Av S σ H Q
def RdL {γ : Type} (E : ER γ) (r : R (List γ)) (Av : Addr → Prop) (S : SS) (σ : St) (H : Hp) (Q : List V → Hp → Prop) : Prop := match r with
  | .ok xs S' => ∀ Av' vs H', Post G Av S σ H Av' S' H' → Ers E Av' S' σ H' xs vs → Q vs H'
  | .exc e S' => ∀ cls d H', XPost G Av S σ H e S' cls d H' → W cls d σ H'
  | .bad => False
def tL {γ : Type} (E : ER γ) (f : SS → R (List γ)) : TA := fun σ H Q => ∃ Av S, StOk G Av S σ H ∧ RdL G W E (f S) Av S σ H Q
end
section
variable {X : Cx} {G : Gs} {W : WX} {γ : Type} {E : ER γ} {e : Expr} {es : List Expr} {pos : Pos} {p : KE}
theorem PA_imp {t t' : TA} (h : PA X es t') (k : ∀ σ H Q, t σ H Q → t' σ H Q) : PA X es t := ⟨fun ps pins s σ H Q I w => h.run ps pins s σ H Q I (k σ H Q w)⟩
theorem s_nil : PA X [] (tL G W E kNil) := PA_imp pa_nil fun σ H Q ⟨Av, S, st, h⟩ => h Av [] H (Post.refl st) rfl
theorem RdL.trans {r : R (List γ)} {Av Av1 : Addr → Prop} {S S1 : SS} {σ : St} {H H1 : Hp} {Q : List V → Hp → Prop} (P : Post G Av S σ H Av1 S1 H1) (h : RdL G W E r Av S σ H Q) : RdL G W E r Av1 S1 σ H1 Q := by
  cases r with
  | ok rv S' => exact fun Av' vs H' q r => h Av' vs H' (P.trans q) r
  | exc e S' => exact fun c d H' q => h c d H' (q.trans P)
  | bad => exact h
theorem t1_bindL {f : SS → R γ} {g : γ → SS → R (List γ)} {Av : Addr → Prop} {S : SS} {σ : St} {H : Hp} {Q : List V → Hp → Prop} {Q' : VK} (st : StOk G Av S σ H) (h : RdL G W E ((f S).bind g) Av S σ H Q)
    (k : ∀ x S1 Av1 v H1, Post G Av S σ H Av1 S1 H1 → E Av1 S1 σ H1 x v → RdL G W E (g x S1) Av S σ H Q → Q' v H1) : t1 G W E f σ H Q' := by
  refine ⟨Av, S, st, ?_⟩
  cases e : f S with
  | ok x S1 => rw [e] at h; exact fun Av1 v H1 P q => k x S1 Av1 v H1 P q h
  | exc x S1 => rw [e] at h; exact h
  | bad => rw [e] at h; exact h
theorem tL_bindL {f : SS → R (List γ)} {g : List γ → SS → R (List γ)} {Av : Addr → Prop} {S : SS} {σ : St} {H : Hp} {Q Q' : List V → Hp → Prop} (st : StOk G Av S σ H) (h : RdL G W E ((f S).bind g) Av S σ H Q)
    (k : ∀ xs S1 Av1 vs H1, Post G Av S σ H Av1 S1 H1 → Ers E Av1 S1 σ H1 xs vs → RdL G W E (g xs S1) Av S σ H Q → Q' vs H1) : tL G W E f σ H Q' := by
  refine ⟨Av, S, st, ?_⟩
  cases e : f S with
  | ok x S1 => rw [e] at h; exact fun Av1 v H1 P q => k x S1 Av1 v H1 P q h
  | exc x S1 => rw [e] at h; exact h
  | bad => rw [e] at h; exact h
theorem s_cons {f : SS → R γ} {g : SS → R (List γ)} (l : Lasts G E) (ha : PE X e (t1 G W E f)) (hr : PA X es (tL G W E g)) (hs : starEach (e :: es) X.env = (false, eval e X.env) :: starEach es X.env) : PA X (e :: es) (tL G W E (kCons f g)) :=
  PA_imp (pa_cons ha hr hs) fun σ H Q ⟨Av, S, st, h⟩ => by
    refine t1_bindL st h fun x S1 Av1 v H1 P1 e1 h1 => ?_
    refine tL_bindL P1.st (h1.trans P1) fun xs S2 Av2 vs H2 P2 e2 h2 => ?_
    exact h2.trans P2 Av2 (v :: vs) H2 (Post.refl P2.st) ⟨v, vs, rfl, l e1 P1.st P2, e2⟩
/-- an expression: its value shared, a view, an argument -/
theorem s_shr (h : PE X e (tE G W p)) : PE X e (t1 G W (ErD G) (kShr p)) := PE_imp h fun σ H Q ⟨Av, S, st, w⟩ => by
  refine ⟨Av, S, st, ?_⟩
  unfold kShr at w
  cases e1 : p S with
  | ok rv S1 =>
    rw [e1] at w
    have w : Rd1 G W (ErD G) (shr rv S1) Av S σ H Q := w
    intro v H1 P
    cases e2 : shr rv S1 with
    | ok d S2 =>
      rw [e2] at w
      obtain ⟨Av', P', q⟩ := (P.shared st e2).ex
      exact w Av' v H1 P' q
    | exc x S2 => exact (shr_exc e2).elim
    | bad => rw [e2] at w; exact w.elim
  | exc x S1 => rw [e1] at w; exact w
  | bad => rw [e1] at w; exact w
theorem s_vw (h : PE X e (tE G W p)) : PE X e (t1 G W (ErV G) (kVw p)) := PE_imp h fun σ H Q ⟨Av, S, st, w⟩ => by
  refine ⟨Av, S, st, ?_⟩
  unfold kVw at w
  cases e1 : p S with
  | ok rv S1 =>
    rw [e1] at w
    intro v H1 P
    obtain ⟨Av', P', q⟩ := P.vok st
    exact w Av' v H1 P' q
  | exc x S1 => rw [e1] at w; exact w
  | bad => rw [e1] at w; exact w
theorem s_mdF {io : Option Nat} (h : PE X e (tE G W p)) : PE X e (t1 G W (ErA G) (kMd io p false)) := PE_imp (s_shr h) fun σ H Q ⟨Av, S, st, w⟩ => by
  refine ⟨Av, S, st, ?_⟩
  have w : Rd1 G W (ErA G) ((kShr p S).bind fun d S1 => .ok (.sh d) S1) Av S σ H Q := w
  cases e1 : kShr p S with
  | ok d S1 => rw [e1] at w; exact w
  | exc x S1 => rw [e1] at w; exact w
  | bad => rw [e1] at w; exact w
theorem s_mdT {i : Nat} (h : PE X e (tVar i)) : PE X e (t1 G W (ErA G) (kMd (some i) p true)) := PE_imp h fun σ H Q ⟨Av, S, st, w⟩ => by
  have w : Rd1 G W (ErA G) (if ((S[i]?).bind SV.mu).isSome then .ok (AV.io i) S else .bad) Av S σ H Q := w
  split at w
  · rename_i hs
    obtain ⟨d, hd⟩ := Option.isSome_iff_exists.mp hs
    obtain ⟨sv, h1, h2⟩ := Option.bind_eq_some_iff.mp hd
    obtain ⟨a, h3, h4, h5, h6⟩ := st.ow i sv d h1 (sv.mu_rt h2)
    exact ⟨.ref a, h3, w Av (.ref a) H (Post.refl st) h3⟩
  · exact w.elim

/-! ### displays -/
theorem s_star {g : SS → R (List D)} (ha : PE X e (tE G W p)) (hr : PA X es (tL G W (ErD G) g)) : PA X (.Starred e pos :: es) (tL G W (ErD G) (kStar p g)) :=
  PA_imp (StX.pa_star ha hr) fun σ H Q ⟨Av, S, st, h⟩ => by
    have h : RdL G W (ErD G) ((p S).bind fun r S1 => match (deref S1 r.vw).bind seqOf with
      | some xs => (g S1).bind fun ys S2 => .ok (xs ++ ys) S2
      | none => .bad) Av S σ H Q := h
    refine ⟨Av, S, st, ?_⟩
    cases e1 : p S with
    | ok rv S1 =>
      rw [e1] at h
      have h : RdL G W (ErD G) (match (deref S1 rv.vw).bind seqOf with
        | some xs => (g S1).bind fun ys S2 => .ok (xs ++ ys) S2
        | none => .bad) Av S σ H Q := h
      intro v H1 P
      obtain ⟨Av1, P1, v1⟩ := P.vok st
      have h := h.trans P1
      split at h
      · rename_i xs e2
        obtain ⟨d, e3, e4⟩ := Option.bind_eq_some_iff.mp e2
        have key : ∃ a vs, v = .ref a ∧ (SqT X.K H1 a vs ∨ SqL X.K H1 a vs) ∧ Reps G Av1 H1 xs vs := by
          have vx := v1.vx P1.st e3
          cases d with
          | lst ds => cases e4; obtain ⟨a, vs, h1, h2, h3⟩ := vx.lst; exact ⟨a, vs, h1, .inr (SqL.of h2), h3⟩
          | tup ds => cases e4; obtain ⟨a, vs, h1, _, h2, h3⟩ := vx.tup; exact ⟨a, vs, h1, .inl (SqT.of h2), h3⟩
          | _ => cases e4
        obtain ⟨a, vs, rfl, hq, hv⟩ := key
        refine ⟨a, vs, rfl, hq, ?_⟩
        refine tL_bindL P1.st h fun ys S2 Av2 us H2 P2 e2 h2 => ?_
        refine h2.trans P2 Av2 (vs ++ us) H2 (Post.refl P2.st) ?_
        have r1 := P2.reps P1.st hv
        have r2 := e2.reps.append (ds := ys) (es := []) (us := []) rfl
        have r3 := r1.append e2.reps
        clear h h2 r1 r2
        generalize xs ++ ys = zs at r3
        generalize vs ++ us = ws at r3
        induction zs generalizing ws with
        | nil => exact r3
        | cons z zs ih => obtain ⟨w, r, h1, h2, h3⟩ := r3; exact ⟨w, r, h1, h2, ih r h3⟩
      · exact h.elim
    | exc x S1 => rw [e1] at h; exact h
    | bad => rw [e1] at h; exact h
theorem s_tup {g : SS → R (List D)} {k : Nat} (h : PA X es (tL G W (ErD G) g)) : PE X (.Tuple es k pos) (tE G W (kTup g)) := PE_imp (pe_tup h) fun σ H Q ⟨Av, S, st, w⟩ => by
  have w : RdE G W ((g S).bind fun ds S1 => if ds.length ≤ sizeLine then .ok (.sh (.tup ds)) S1 else .bad) Av S σ H Q := w
  refine ⟨Av, S, st, ?_⟩
  cases e1 : g S with
  | ok ds S1 =>
    rw [e1] at w
    intro Av1 vs H1 P1 r
    have w : RdE G W (if ds.length ≤ sizeLine then .ok (.sh (.tup ds)) S1 else .bad) Av S σ H Q := w
    have r := r.reps
    split at w
    · rename_i hz
      refine ⟨by rw [r.length]; exact hz, fun p n => ?_⟩
      refine w.trans P1 _ _ (PPost.e (ro := .nw (.tup ds)) P1.st (PPost.tup n r))
    · exact w.elim
  | exc x S1 => rw [e1] at w; exact w
  | bad => rw [e1] at w; exact w
theorem s_lst {g : SS → R (List D)} (h : PA X es (tL G W (ErD G) g)) : PE X (.List es pos) (tE G W (kLst g)) := PE_imp (pe_lst h) fun σ H Q ⟨Av, S, st, w⟩ => by
  have w : RdE G W ((g S).bind fun ds S1 => if ds.length ≤ sizeLine then .ok (.fr (.lst ds)) S1 else .bad) Av S σ H Q := w
  refine ⟨Av, S, st, ?_⟩
  cases e1 : g S with
  | ok ds S1 =>
    rw [e1] at w
    intro Av1 vs H1 P1 r
    have w : RdE G W (if ds.length ≤ sizeLine then .ok (.fr (.lst ds)) S1 else .bad) Av S σ H Q := w
    have r := r.reps
    split at w
    · rename_i hz
      refine ⟨by rw [r.length]; exact hz, fun p n => ?_⟩
      refine w.trans P1 _ _ (PPost.e (ro := .nw (.lst ds)) P1.st (PPost.lst n r))
    · exact w.elim
  | exc x S1 => rw [e1] at w; exact w
  | bad => rw [e1] at w; exact w
end
end Eng

namespace Eng
open PySem PySem.Spec L2
open PyProof.Rows hiding St
section
variable {X : Cx} {G : Gs} {W : WX} {a b c e : Expr} {es : List Expr} {pos p2 pp : Pos} {p q o : KE} {x : Str}

theorem atI_reps {Av : Addr → Prop} {H : Hp} {ds : List D} {vs : List V} {i : Int} {d : D} (h : Reps G Av H ds vs) (e : ixD ds i = some d) : ∃ v, atI vs i = some v ∧ Rep G Av H d v := by
  unfold ixD atI at *
  rw [h.length]
  obtain ⟨j, h1, h2⟩ := Option.bind_eq_some_iff.mp e
  rw [h1]
  exact h.get' h2
theorem s_sub (hs : PlainIx b) (ha : PE X a (tE G W p)) (hb : PE X b (tE G W q)) : PE X (.Subscript a b pos) (tE G W (kBin subD p q)) :=
  PE_imp (pe_ix ix_seq ha hb hs) fun σ H Q h => by
    obtain ⟨Av, S, st, h⟩ := tri_bin h
    refine ⟨Av, S, st, ?_⟩
    revert h
    refine RdE_mono fun v H1 h => ?_
    obtain ⟨Av1, S1, st1, h⟩ := h
    refine ⟨Av1, S1, st1, ?_⟩
    revert h
    refine RdE_mono fun u H2 h => ?_
    obtain ⟨Av, d, e, ro, dm, vd, ve, h, kk⟩ := h
    cases e with
    | int i =>
      cases ve.int
      cases d with
      | lst ds =>
        obtain ⟨d', e1, rfl⟩ := map_some (show (ixD ds i).map RO.sh = some ro from h)
        obtain ⟨l, vs, rfl, h1, h2⟩ := vd.lst
        obtain ⟨v', h3, h4⟩ := atI_reps h2 e1
        exact .inl ⟨l, vs, i, v', rfl, rfl, SqL.of h1, h3, kk _ _ (PPost.val h4)⟩
      | tup ds =>
        obtain ⟨d', e1, rfl⟩ := map_some (show (ixD ds i).map RO.sh = some ro from h)
        obtain ⟨l, vs, rfl, _, h1, h2⟩ := vd.tup
        obtain ⟨v', h3, h4⟩ := atI_reps h2 e1
        exact .inr (.inl ⟨l, vs, i, v', rfl, rfl, SqT.of h1, h3, kk _ _ (PPost.val h4)⟩)
      | str x =>
        have h : (if x.length ≤ sizeLine then (atI x.cps.toList i).map fun c => RO.sh (.str ⟨#[c]⟩) else none) = some ro := h
        split at h
        · rename_i hz
          obtain ⟨c, e1, rfl⟩ := map_some h
          cases vd.str
          exact .inr (.inr ⟨x, i, c, rfl, rfl, hz, e1, kk _ _ (PPost.val (d := .str ⟨#[c]⟩) rfl)⟩)
        · cases h
      | _ => cases h
    | _ => cases d <;> cases h

/-! ### one value -/
theorem tri_un {f : D → Option RO} {σ : St} {H : Hp} {Q : VK} (h : tE G W (kUn f p) σ H Q) : tE G W p σ H fun x H1 => rU1 G f x H1 Q := by
  obtain ⟨Av, S, st, h⟩ := h
  refine tE_bind st h fun r S1 v H1 P1 h1 => ?_
  obtain ⟨Av1, P1, v1⟩ := P1.vok st
  obtain ⟨ro, e, h1⟩ := prim_some (h1.trans P1)
  obtain ⟨d, e1, e⟩ := Option.bind_eq_some_iff.mp e
  exact ⟨Av1, d, ro, P1.st.dom, v1.vx P1.st e1, e, fun w H' pp => h1 w H' (pp.e P1.st)⟩
theorem tE_mono {σ : St} {H : Hp} {Q Q' : VK} (k : ∀ v H', Q v H' → Q' v H') (h : tE G W p σ H Q) : tE G W p σ H Q' := by
  obtain ⟨Av, S, st, h⟩ := h
  exact ⟨Av, S, st, RdE_mono k h⟩
theorem s_neg (ha : PE X a (tE G W p)) : PE X (.UnaryOp .USub a pos) (tE G W (kUn negD p)) := PE_imp (pe_un un_neg ha) fun σ H Q h => by
  refine tE_mono (fun v H1 h => ?_) (tri_un h)
  obtain ⟨Av, d, ro, dm, vd, h, kk⟩ := h
  cases d with
  | int i => cases h; cases vd.int; exact ⟨i, rfl, kk _ _ (PPost.val (d := .int (-i)) rfl)⟩
  | _ => cases h
theorem s_rev {k : Nat} {p1 p3 : Pos} (ha : PE X a (tE G W p)) : PE X (.Subscript a (.Slice none none (some (.UnaryOp .USub (.Constant (.int 1) k p1) p2)) p3) pos) (tE G W (kUn revD p)) := PE_imp (pe_revL ha) fun σ H Q h => by
  refine tE_mono (fun v H1 h => ?_) (tri_un h)
  obtain ⟨Av, d, ro, dm, vd, h, kk⟩ := h
  cases d with
  | lst ds =>
    cases h
    obtain ⟨l, vs, rfl, h1, h2⟩ := vd.lst
    exact ⟨l, vs, rfl, SqL.of h1, fun p n => kk _ _ (PPost.lst n h2.reverse)⟩
  | _ => cases h

/-! ### slices -/
/-- a part of a slice -/
def PartOf (X : Cx) (G : Gs) (W : WX) (o : Option Expr) (noe : Bool) (q : KE) : Prop := match o with
  | none => noe = true
  | some e => noe = false ∧ PE X e (tE G W q)
def tOp1 (G : Gs) (W : WX) (noe : Bool) (q : KE) : TO := if noe then tNoPart else tPart (tE G W q)
theorem PartOf.po {o : Option Expr} {noe : Bool} (h : PartOf X G W o noe q) : PO X o (tOp1 G W noe q) := by
  unfold tOp1
  cases o with
  | none => obtain rfl := (show noe = true from h); exact po_none
  | some e => obtain ⟨rfl, h⟩ := h; exact po_some h
theorem part_bind {noe : Bool} {q : KE} {f : Option Int → SS → R RV} {Av : Addr → Prop} {S : SS} {σ : St} {H : Hp} {Q : VK} {Q' : Option Int → Hp → Prop} (st : StOk G Av S σ H) (h : RdE G W ((kPart noe q S).bind f) Av S σ H Q)
    (k : ∀ l S1 Av1 H1, Post G Av S σ H Av1 S1 H1 → RdE G W (f l S1) Av1 S1 σ H1 Q → Q' l H1) : tOp1 G W noe q σ H Q' := by
  unfold tOp1
  unfold kPart at h
  cases noe with
  | true => exact k none S Av H (Post.refl st) h
  | false =>
    simp only [Bool.false_eq_true, if_false] at h ⊢
    refine ⟨Av, S, st, ?_⟩
    cases e : q S with
    | ok r S1 =>
      rw [e] at h
      have h : RdE G W ((match r with
        | .sh (.int i) => R.ok (some i) S1
        | _ => .bad).bind f) Av S σ H Q := h
      intro v H1 P
      split at h
      · rename_i i _
        obtain ⟨Av1, P1, e1⟩ := P.ex
        cases (show v = .int i from e1)
        exact ⟨i, rfl, k (some i) S1 Av1 H1 P1 (h.trans P1)⟩
      · exact h.elim
    | exc x S1 => rw [e] at h; exact h
    | bad => rw [e] at h; exact h
theorem s_slc {lo hi : Option Expr} {nl nh : Bool} (ha : PE X a (tE G W p)) (hl : PartOf X G W lo nl q) (hh : PartOf X G W hi nh o) (hK : X.K = G.K) : PE X (.Subscript a (.Slice lo hi none p2) pos) (tE G W (kSlc p (kPart nl q) (kPart nh o))) := by
  refine PE_imp (pe_slice ((sl_list (X := X)).or ((sl_tupA (X := X)).or sl_str)) ha hl.po hh.po) fun σ H Q h => ?_
  obtain ⟨Av, S, st, h⟩ := h
  refine tE_bind st h fun r S1 v H1 P1 h1 => ?_
  obtain ⟨Av1, P1, v1⟩ := P1.vok st
  refine part_bind P1.st (h1.trans P1) fun l S2 Av2 H2 P2 h2 => ?_
  refine part_bind P2.st h2 fun h' S3 Av3 H3 P3 h3 => ?_
  obtain ⟨ro, e, h3⟩ := prim_some h3
  obtain ⟨d, e1, e⟩ := Option.bind_eq_some_iff.mp e
  have vd := ((v1.on P1.st P2).on P2.st P3).vx P3.st e1
  have kk : ∀ {u H'}, PPost G Av3 H3 ro u H' → Q u H' := fun {u H'} pp => h3 u H' (pp.e P3.st)
  cases d with
  | lst ds =>
    cases e
    obtain ⟨l', vs, rfl, g1, g2⟩ := vd.lst
    refine .inl ⟨l', vs, rfl, SqL.of g1, fun p n => ?_⟩
    have : Reps G Av3 H3 (cutD ds l h') (cutV vs l h') := by unfold cutD cutV; rw [g2.length]; exact (g2.drop _).take _
    exact kk (PPost.lst n this)
  | scr ds =>
    cases e
    obtain ⟨l', vs, rfl, g1, g2⟩ := vd.1
    refine .inl ⟨l', vs, rfl, by rw [hK]; exact g1.sq, fun p n => ?_⟩
    have : Reps G Av3 H3 (cutD ds l h') (cutV vs l h') := by unfold cutD cutV; rw [g2.length]; exact (g2.drop _).take _
    exact kk (PPost.lst n this)
  | tup ds =>
    obtain ⟨l', vs, rfl, na, g1, g2⟩ := vd.tup
    have e : (if HT.sIx ds.length 0 l = 0 ∧ HT.sIx ds.length ds.length h' = ds.length then some (RO.sh (.tup ds)) else some (.nw (.tup (cutD ds l h')))) = some ro := e
    refine .inr (.inl ⟨l', vs, rfl, SqT.of g1, fun z => ?_, fun z p n => ?_⟩)
    · rw [g2.length] at z
      rw [if_pos z] at e
      cases e
      exact kk (PPost.val (vd.rep rfl))
    · rw [g2.length] at z
      rw [if_neg z] at e
      cases e
      have : Reps G Av3 H3 (cutD ds l h') (cutV vs l h') := by unfold cutD cutV; rw [g2.length]; exact (g2.drop _).take _
      exact kk (PPost.tup n this)
  | str x =>
    have e : (if x.length ≤ sizeLine then some (RO.sh (.str (cutS x l h'))) else none) = some ro := e
    split at e
    · rename_i hz
      cases e
      cases vd.str
      exact .inr (.inr ⟨x, rfl, hz, kk (PPost.val (d := .str (cutS x l h')) rfl)⟩)
    · cases e
  | _ => cases e

/-! ### built-in functions by values -/
def Vxs (G : Gs) (Av : Addr → Prop) (H : Hp) : List D → List V → Prop
  | [], vs => vs = []
  | d :: ds, vs => ∃ v r, vs = v :: r ∧ Vx G Av H d v ∧ Vxs G Av H ds r
theorem Ers.vxs {Av : Addr → Prop} {S : SS} {σ : St} {H : Hp} (st : StOk G Av S σ H) : ∀ {rs : List RV} {vs : List V} {ds : List D}, Ers (ErV G) Av S σ H rs vs → derefs S rs = some ds → Vxs G Av H ds vs
  | [], vs, ds, h, e => by cases e; exact h
  | r :: rs, vs, ds, ⟨v, u, h1, h2, h3⟩, e => by
    obtain ⟨d, e1, e⟩ := Option.bind_eq_some_iff.mp (show (deref S r).bind (fun d => (derefs S rs).map fun ds => d :: ds) = some ds from e)
    obtain ⟨es, e2, rfl⟩ := Option.map_eq_some_iff.mp e
    exact ⟨v, u, h1, VOk.vx h2 st e1, Ers.vxs st h3 e2⟩
def rBI (G : Gs) (f : List D → Option RO) : List V → Hp → VK → Prop := fun vs H Q => ∃ (Av : Addr → Prop) (ds : List D) (ro : RO), (∀ a, Av a → ∃ o, H a = some o ∧ Mu o) ∧ Vxs G Av H ds vs ∧ f ds = some ro ∧ ∀ v H', PPost G Av H ro v H' → Q v H'
theorem tri_bi {f : List D → Option RO} {g : SS → R (List RV)} {σ : St} {H : Hp} {Q : VK} (h : tE G W (kBi f g) σ H Q) : tL G W (ErV G) g σ H fun vs H1 => rBI G f vs H1 Q := by
  obtain ⟨Av, S, st, h⟩ := h
  refine ⟨Av, S, st, ?_⟩
  unfold kBi at h
  cases e : g S with
  | ok rs S1 =>
    rw [e] at h
    have h : RdE G W (prim ((derefs S1 rs).bind f) S1) Av S σ H Q := h
    intro Av1 vs H1 P1 r1
    obtain ⟨ro, e1, h⟩ := prim_some (h.trans P1)
    obtain ⟨ds, e2, e3⟩ := Option.bind_eq_some_iff.mp e1
    exact ⟨Av1, ds, ro, P1.st.dom, r1.vxs P1.st e2, e3, fun w H' pp => h w H' (pp.e P1.st)⟩
  | exc x S1 => rw [e] at h; exact h
  | bad => rw [e] at h; exact h
end
end Eng

namespace Eng
open PySem PySem.Spec L2
open PyProof.Rows hiding St
section
variable {X : Cx} {G : Gs} {W : WX} {a b c e : Expr} {es : List Expr} {pos p2 pp : Pos} {p q o : KE} {x : Str}

def BI.nm : BI → String
  | .len => "len" | .int => "int" | .abs => "abs" | .bool => "bool" | .str => "str" | .repr => "repr" | .list => "list" | .tuple => "tuple" | .sorted => "sorted"
  | .sum => "sum" | .min => "min" | .max => "max" | .any => "any" | .all => "all" | .dict => "dict"
def BI.isTy : BI → Bool
  | .int => true | .bool => true | .str => true | .list => true | .tuple => true | .dict => true
  | _ => false
def BI.val (b : BI) : Value := if b.isTy then .type b.nm else .builtin b.nm
theorem BI.boot (b : BI) : bootBuiltins (Str.ofString b.nm) = some b.val := by cases b <;> decide +kernel
theorem BI.nn (b : BI) : Str.ofString b.nm ≠ "__name__" := by cases b <;> decide +kernel
theorem BI.nd (b : BI) : (Str.ofString b.nm == ("__debug__" : Str)) = false := by cases b <;> decide +kernel

theorem one_vx {Av : Addr → Prop} {H : Hp} {d : D} {vs : List V} (h : Vxs G Av H [d] vs) : ∃ v, vs = [v] ∧ Vx G Av H d v := by
  obtain ⟨v, r, h1, h2, h3⟩ := h
  cases (show r = [] from h3)
  exact ⟨v, h1, h2⟩
theorem allB_reps {Av : Addr → Prop} {H : Hp} : ∀ {ds : List D} {bs : List Bool} {vs : List V}, allB ds = some bs → Reps G Av H ds vs → vs = bs.map V.bl
  | [], bs, vs, e, h => by cases e; exact h
  | d :: ds, bs, vs, e, ⟨v, r, h1, h2, h3⟩ => by
    cases d with
    | bl b =>
      obtain ⟨cs, e1, rfl⟩ := Option.map_eq_some_iff.mp (show (allB ds).map (fun bs => b :: bs) = some bs from e)
      rw [h1, allB_reps e1 h3, show v = .bl b from h2]; rfl
    | _ => cases e
theorem allI_reps {Av : Addr → Prop} {H : Hp} : ∀ {ds : List D} {bs : List Int} {vs : List V}, allI ds = some bs → Reps G Av H ds vs → vs = bs.map V.int
  | [], bs, vs, e, h => by cases e; exact h
  | d :: ds, bs, vs, e, ⟨v, r, h1, h2, h3⟩ => by
    cases d with
    | int b =>
      obtain ⟨cs, e1, rfl⟩ := Option.map_eq_some_iff.mp (show (allI ds).map (fun bs => b :: bs) = some bs from e)
      rw [h1, allI_reps e1 h3, show v = .int b from h2]; rfl
    | _ => cases e
mutual
theorem toP_hasDict : ∀ (d : D) {p : PyData}, toP d = some p → p.hasDict = false
  | .non, p, e => by cases e; rfl
  | .bl b, p, e => by cases e; rfl
  | .int b, p, e => by cases e; rfl
  | .str b, p, e => by cases e; rfl
  | .lst ds, p, e => by
    obtain ⟨ps, e1, rfl⟩ := Option.map_eq_some_iff.mp (show (toPs ds).map PyData.list = some p from e)
    exact toPs_hasDict ds e1
  | .tup ds, p, e => by
    obtain ⟨ps, e1, rfl⟩ := Option.map_eq_some_iff.mp (show (toPs ds).map PyData.tuple = some p from e)
    exact toPs_hasDict ds e1
  | .dic _ _, p, e => by cases e
  | .obj _ _ _, p, e => by cases e
  | .scr _, p, e => by cases e
theorem toPs_hasDict : ∀ (ds : List D) {ps : List PyData}, toPs ds = some ps → PyData.hasDictAll ps = false
  | [], ps, e => by cases e; rfl
  | d :: ds, ps, e => by
    obtain ⟨p, e1, e⟩ := Option.bind_eq_some_iff.mp (show (toP d).bind (fun p => (toPs ds).map fun ps => p :: ps) = some ps from e)
    obtain ⟨qs, e2, rfl⟩ := Option.map_eq_some_iff.mp e
    simp only [PyData.hasDictAll, toP_hasDict d e1, toPs_hasDict ds e2, Bool.or_self]
end
theorem o_repr {k : Nat} (hr : Room k X.A) (hg : X.A.guards = some []) : CallR X (.builtin "repr") (fun vs H Q => ∃ v p, vs = [v] ∧ Dp X.K H v p ∧ PyData.showable p = true ∧ p.shown.length ≤ sizeLine ∧ p.depth ≤ 60 ∧ p.hasDict = false ∧ Q (.str p.shown) H) := by
  rintro pins s σ H vs us Q I r ⟨v, p, rfl, hd, h1, h2, h3, h4, q⟩
  obtain ⟨u, rfl, rv⟩ := vals1 r
  obtain ⟨as, rd⟩ := Dp.reads I p v u hd rv
  have un := hr.units
  cases hd with
  | non => cases rv; exact PySem.P.repr_of_none ⟨.str "None", H, I.tok _, ⟨_, rfl⟩, q⟩
  | bl b => cases rv; exact PySem.P.repr_of_bool ⟨.str (if b then "True" else "False"), H, I.tok _, ⟨_, rfl⟩, q⟩
  | int i =>
    obtain ⟨t, rfl⟩ := rv
    exact PySem.P.repr_of_int (by simpa [PyData.showable] using h1) ⟨.str (toString i), H, I.tok _, ⟨_, rfl⟩, q⟩
  | str x =>
    obtain ⟨t, rfl⟩ := rv
    exact PySem.P.repr_of_str ⟨.str (reprText x), H, I.tok _, ⟨_, rfl⟩, q⟩ (hsz := h2)
  | @lst a xs ds hs ha =>
    cases rv
    exact repr_of_reads' rd h1 (fun z => by rw [h4] at z; cases z) hg (by omega) (fun _ _ e => e) (fun h' u tk kp => ⟨.str _, H, I.kept kp, ⟨_, rfl⟩, q⟩) h2
  | @tup a xs ds hs ha =>
    cases rv
    exact repr_of_reads' rd h1 (fun z => by rw [h4] at z; cases z) hg (by omega) (fun _ _ e => e) (fun h' u tk kp => ⟨.str _, H, I.kept kp, ⟨_, rfl⟩, q⟩) h2

/-! ### dicts of keys that are ints and texts -/
theorem kV_rep {Av : Addr → Prop} {H : Hp} {d : D} {k : Key} {v : V} (e : keyD d = some k) (h : Rep G Av H d v) : v = L2.kV k ∧ d = kD k := by
  cases d with
  | int i => cases e; exact ⟨h, rfl⟩
  | str x => cases e; exact ⟨h, rfl⟩
  | _ => cases e
theorem rep_kV {Av : Addr → Prop} {H : Hp} (k : Key) : Rep G Av H (kD k) (L2.kV k) := by cases k <;> exact (rfl : _ = _)
/-- the pairs of a dict -/
def KR (G : Gs) (Av : Addr → Prop) (H : Hp) : List (Key × D) → List (Key × V) → Prop
  | [], q => q = []
  | p :: ps, q => ∃ v r, q = (p.1, v) :: r ∧ Rep G Av H p.2 v ∧ KR G Av H ps r
theorem KR.keys {Av : Addr → Prop} {H : Hp} : ∀ {ps : List (Key × D)} {q : List (Key × V)}, KR G Av H ps q → q.map (·.1) = ps.map (·.1)
  | [], q, h => by rw [show q = [] from h]; rfl
  | p :: ps, q, ⟨v, r, e, _, h⟩ => by rw [e, List.map_cons, List.map_cons, KR.keys h]
theorem KR.reps {Av : Addr → Prop} {H : Hp} : ∀ {ps : List (Key × D)} {q : List (Key × V)}, KR G Av H ps q → Reps G Av H (ps.map (·.2)) (q.map (·.2))
  | [], q, h => by rw [show q = [] from h]; rfl
  | p :: ps, q, ⟨v, r, e, hv, h⟩ => by rw [e]; exact ⟨v, _, rfl, hv, KR.reps h⟩
theorem KR.append {Av : Addr → Prop} {H : Hp} {ps' : List (Key × D)} {q' : List (Key × V)} (h' : KR G Av H ps' q') : ∀ {ps : List (Key × D)} {q : List (Key × V)}, KR G Av H ps q → KR G Av H (ps ++ ps') (q ++ q')
  | [], q, h => by rw [show q = [] from h]; exact h'
  | p :: ps, q, ⟨v, r, e, hv, h⟩ => by rw [e]; exact ⟨v, _, rfl, hv, KR.append h' h⟩
theorem KR.any {Av : Addr → Prop} {H : Hp} {k : Key} : ∀ {ps : List (Key × D)} {q : List (Key × V)}, KR G Av H ps q → (q.any fun kv => decide (kv.1 = k)) = ps.any fun kv => decide (kv.1 = k)
  | [], q, h => by rw [show q = [] from h]; rfl
  | p :: ps, q, ⟨v, r, e, hv, h⟩ => by rw [e, List.any_cons, List.any_cons, KR.any h]
theorem KR.chg {Av : Addr → Prop} {H : Hp} {k : Key} {d : D} {v : V} (hd : Rep G Av H d v) : ∀ {ps : List (Key × D)} {q : List (Key × V)}, KR G Av H ps q → KR G Av H (ps.map fun kv => if kv.1 = k then (kv.1, d) else kv) (q.map fun kv => if kv.1 = k then (kv.1, v) else kv)
  | [], q, h => by rw [show q = [] from h]; rfl
  | p :: ps, q, ⟨w, r, e, hv, h⟩ => by
    rw [e, List.map_cons, List.map_cons]
    by_cases z : p.1 = k
    · rw [if_pos z, if_pos z]; exact ⟨v, _, rfl, hd, KR.chg hd h⟩
    · rw [if_neg z, if_neg z]; exact ⟨w, _, rfl, hv, KR.chg hd h⟩
theorem KR.put {Av : Addr → Prop} {H : Hp} {k : Key} {d : D} {v : V} {ps : List (Key × D)} {q : List (Key × V)} (h : KR G Av H ps q) (hd : Rep G Av H d v) : KR G Av H (putG ps k d) (L2.putK q k v) := by
  unfold putG L2.putK
  rw [h.any]
  split
  · exact h.chg hd
  · exact KR.append (show KR G Av H [(k, d)] [(k, v)] from ⟨v, [], rfl, hd, rfl⟩) h
theorem KR.merge {Av : Addr → Prop} {H : Hp} : ∀ {ms : List (Key × D)} {mq : List (Key × V)} {ps : List (Key × D)} {q : List (Key × V)}, KR G Av H ms mq → KR G Av H ps q → KR G Av H (mergeG ps ms) (L2.mergeK q mq)
  | [], mq, ps, q, hm, h => by rw [show mq = [] from hm]; exact h
  | m :: ms, mq, ps, q, ⟨v, r, e, hv, hm⟩, h => by
    rw [e]
    show KR G Av H (mergeG (putG ps m.1 m.2) ms) (L2.mergeK (L2.putK q m.1 v) r)
    exact KR.merge hm (h.put hv)
theorem zip_fs {α β : Type} : ∀ l : List (α × β), (l.map (·.1)).zip (l.map (·.2)) = l
  | [] => rfl
  | (a, b) :: r => by rw [List.map_cons, List.map_cons, List.zip_cons_cons, zip_fs r]
theorem KR.dic {Av : Addr → Prop} {H : Hp} {ps : List (Key × D)} {q : List (Key × V)} {p : Addr} (n : H p = none) (h : KR G Av H ps q) : PPost G Av H (.nw (dicG ps)) (.ref p) (upd H p (.dK q)) :=
  ⟨ext_upd n, p, rfl, n, ⟨_, upd_same⟩, p, q.map (·.2), rfl, .inl ⟨q.map (·.1), by rw [h.keys, List.map_map]; rfl, by rw [List.length_map, List.length_map], by rw [zip_fs]; exact upd_same⟩, h.reps.laid n⟩
theorem pairs_of {K : PySem.W.Frag} {Av : Addr → Prop} {H : Hp} : ∀ {ds : List D} {ms : List (Key × D)} {vs : List V}, pairsD ds = some ms → Reps G Av H ds vs → ∃ (ps : List Addr) (kvs : List (Key × V)), vs = ps.map V.ref ∧ Paired (fun p kv => SqT K H p [L2.kV kv.1, kv.2]) ps kvs ∧ KR G Av H ms kvs
  | [], ms, vs, e, h => by cases e; exact ⟨[], [], h, .nil, rfl⟩
  | d :: ds, ms, vs, e, ⟨v, r, e1, hv, h⟩ => by
    obtain ⟨p, e2, e⟩ := Option.bind_eq_some_iff.mp (show (pairD d).bind (fun p => (pairsD ds).map fun ps => p :: ps) = some ms from e)
    obtain ⟨ms', e3, rfl⟩ := Option.map_eq_some_iff.mp e
    obtain ⟨ps, kvs, h1, h2, h3⟩ := pairs_of (K := K) e3 h
    cases d with
    | tup xs =>
      match xs, e2, hv with
      | [k, y], e2, hv =>
        obtain ⟨kk, e4, rfl⟩ := Option.map_eq_some_iff.mp (show (keyD k).map (fun k => (k, y)) = some p from e2)
        obtain ⟨a, ws, rfl, _, g1, g2⟩ := hv
        obtain ⟨u, _, rfl, q1, u2, _, rfl, q2, q3⟩ := g2
        cases q3
        obtain ⟨rfl, _⟩ := kV_rep e4 q1
        exact ⟨a :: ps, (kk, u2) :: kvs, by rw [e1, h1]; rfl, .cons (SqT.of g1) h2, u2, kvs, rfl, q2, h3⟩
    | _ => cases e2
theorem keys_of : ∀ {ds : List D} {kk : List Key}, keysD ds = some kk → ds = kk.map kD
  | [], kk, e => by cases e; rfl
  | d :: ds, kk, e => by
    obtain ⟨p, e2, e⟩ := Option.bind_eq_some_iff.mp (show (keyD d).bind (fun p => (keysD ds).map fun ps => p :: ps) = some kk from e)
    obtain ⟨ms', e3, rfl⟩ := Option.map_eq_some_iff.mp e
    rw [List.map_cons, ← keys_of e3]
    cases d with
    | int i => cases e2; rfl
    | str x => cases e2; rfl
    | _ => cases e2
theorem zip_keys : ∀ (ks : List Key) (ws : List V), ks.length = ws.length → (ks.zip ws).map (fun kv => L2.kV kv.1) = ks.map L2.kV
  | [], _, _ => rfl
  | k :: ks, [], h => by cases h
  | k :: ks, w :: ws, h => by
    rw [List.zip_cons_cons, List.map_cons, List.map_cons, zip_keys ks ws (by simpa using h)]
theorem kD_inj {a b : Key} (h : kD a = kD b) : a = b := by
  cases a <;> cases b <;> first | (cases h; rfl) | (cases h)
theorem kDs_inj : ∀ {a b : List Key}, a.map kD = b.map kD → a = b
  | [], [], _ => rfl
  | a :: as, b :: bs, h => by
    rw [List.map_cons, List.map_cons] at h
    injection h with h1 h2
    rw [kD_inj h1, kDs_inj h2]
  | [], _ :: _, h => by cases h
  | _ :: _, [], h => by cases h
theorem reps_keys {Av : Addr → Prop} {H : Hp} : ∀ kk : List Key, Reps G Av H (kk.map kD) (kk.map L2.kV)
  | [] => rfl
  | k :: kk => ⟨L2.kV k, kk.map L2.kV, rfl, rep_kV k, reps_keys kk⟩

theorem insI_perm (x : Int) : ∀ l : List Int, (insI x l).Perm (x :: l)
  | [] => .refl _
  | y :: ys => by
    unfold insI
    split
    · exact .refl _
    · exact ((insI_perm x ys).cons y).trans (.swap x y ys)
theorem sortI_perm : ∀ l : List Int, (sortI l).Perm l
  | [] => .refl _
  | x :: xs => (insI_perm x (sortI xs)).trans ((sortI_perm xs).cons x)
theorem insI_sorted (x : Int) : ∀ {l : List Int}, l.Pairwise (· ≤ ·) → (insI x l).Pairwise (· ≤ ·)
  | [], _ => by simp [insI]
  | y :: ys, h => by
    unfold insI
    obtain ⟨h1, h2⟩ := List.pairwise_cons.mp h
    split
    · rename_i hx
      refine List.pairwise_cons.mpr ⟨fun z hz => ?_, h⟩
      rcases List.mem_cons.mp hz with hz | hz
      · rw [hz]; exact hx
      · exact Int.le_trans hx (h1 z hz)
    · rename_i hx
      refine List.pairwise_cons.mpr ⟨fun z hz => ?_, insI_sorted x h2⟩
      rcases List.mem_cons.mp ((insI_perm x ys).mem_iff.mp hz) with hz | hz
      · rw [hz]; omega
      · exact h1 z hz
theorem sortI_sorted : ∀ l : List Int, (sortI l).Pairwise (· ≤ ·)
  | [] => .nil
  | x :: xs => insI_sorted x (sortI_sorted xs)
theorem sort_uniq {ns ms : List Int} (p : ms.Perm ns) (h : ms.Pairwise (· ≤ ·)) : ms = sortI ns :=
  (p.trans (sortI_perm ns).symm).eq_of_pairwise (le := (· ≤ ·)) (fun a b _ _ h1 h2 => Int.le_antisymm h1 h2) h (sortI_sorted ns)
theorem reps_intsY {Av : Addr → Prop} {H : Hp} : ∀ ns : List Int, Reps G Av H (ns.map D.int) (ns.map V.int)
  | [] => rfl
  | n :: ns => ⟨.int n, ns.map V.int, rfl, rfl, reps_intsY ns⟩
theorem o_bi {k : Nat} (hr : Room k X.A) (hg : X.A.guards = some []) (hc : X.calm = true) (bi : BI) : CallR X bi.val (rBI G (biD bi)) := by
  rintro pins s σ H vs us Q I r ⟨Av, ds, ro, dm, vx, h, kk⟩
  rcases ds with _ | ⟨d, _ | ⟨e, _ | ⟨e', ds⟩⟩⟩
  · cases h
  case cons.cons.cons => cases h
  case cons.cons.nil =>
    have h : bi2 bi d e = some ro := h
    obtain ⟨v, r1, rfl, vd, r2⟩ := vx
    obtain ⟨u, r3, rfl, ve, r4⟩ := r2
    cases (show r3 = [] from r4)
    cases bi with
    | max =>
      cases d with
      | int i =>
        cases e with
        | int j => cases h; cases vd.int; cases ve.int; exact call_max2 hc pins s σ H _ us Q I r ⟨i, j, rfl, kk _ _ (PPost.val (d := .int (if j > i then j else i)) rfl)⟩
        | _ => cases h
      | _ => cases h
    | min =>
      cases d with
      | int i =>
        cases e with
        | int j => cases h; cases vd.int; cases ve.int; exact call_min2 hc pins s σ H _ us Q I r ⟨i, j, rfl, kk _ _ (PPost.val (d := .int (if j < i then j else i)) rfl)⟩
        | _ => cases h
      | _ => cases h
    | _ => cases h
  have h : bi1 bi d = some ro := h
  obtain ⟨v, rfl, vd⟩ := one_vx vx
  have blk : ∀ b, PPost G Av H (bo b) (.bl b) H := fun b => PPost.val (d := .bl b) rfl
  cases bi with
  | len =>
    obtain ⟨n, e, rfl⟩ := map_some (show (lenD d).map (fun n : Nat => RO.sh (.int (n : Int))) = some ro from h)
    have fin : PPost G Av H (.sh (.int n)) (.int n) H := PPost.val (d := .int n) rfl
    cases d with
    | lst ds =>
      cases e
      obtain ⟨a, ws, rfl, h1, h2⟩ := vd.lst
      exact call_len pins s σ H _ us Q I r ⟨.ref a, ds.length, rfl, .inl ⟨ws, SqL.of h1, h2.length.symm⟩, kk _ _ fin⟩
    | tup ds =>
      cases e
      obtain ⟨a, ws, rfl, _, h1, h2⟩ := vd.tup
      exact call_len pins s σ H _ us Q I r ⟨.ref a, ds.length, rfl, .inr ⟨ws, SqT.of h1, h2.length.symm⟩, kk _ _ fin⟩
    | str x =>
      have e : (if x.length ≤ sizeLine then some x.length else none) = some n := e
      split at e
      · rename_i hz
        cases e
        cases vd.str
        exact call_len pins s σ H _ us Q I r ⟨.str x, x.length, rfl, ⟨hz, rfl⟩, kk _ _ fin⟩
      · cases e
    | _ => cases e
  | int =>
    cases d with
    | int i => cases h; cases vd.int; exact call_int1 pins s σ H _ us Q I r (.inl ⟨i, rfl, kk _ _ (PPost.val (d := .int i) rfl)⟩)
    | bl b => cases h; cases vd.bl; exact call_int1 pins s σ H _ us Q I r (.inr ⟨b, rfl, kk _ _ (PPost.val (d := .int (if b then 1 else 0)) rfl)⟩)
    | _ => cases h
  | abs =>
    cases d with
    | int i => cases h; cases vd.int; exact call_abs pins s σ H _ us Q I r ⟨i, rfl, kk _ _ (PPost.val (d := .int (if i < 0 then -i else i)) rfl)⟩
    | _ => cases h
  | bool =>
    cases d with
    | int i => cases h; cases vd.int; exact call_bool1 pins s σ H _ us Q I r (.inl ⟨i, rfl, kk _ _ (blk _)⟩)
    | bl b => cases h; cases vd.bl; exact call_bool1 pins s σ H _ us Q I r (.inr ⟨b, rfl, kk _ _ (blk _)⟩)
    | _ => cases h
  | str =>
    cases d with
    | int i =>
      have h : (if i.natAbs.log2 < 1920 then some (RO.sh (.str (toString i))) else none) = some ro := h
      split at h
      · rename_i hz
        cases h; cases vd.int
        exact call_str_int pins s σ H _ us Q I r ⟨i, rfl, hz, kk _ _ (PPost.val (d := .str (toString i)) rfl)⟩
      · cases h
    | _ => cases h
  | repr =>
    obtain ⟨p, e1, h⟩ := Option.bind_eq_some_iff.mp (show reprD d = some ro from h)
    split at h
    · rename_i hz
      cases h
      simp only [decide_eq_true_eq, Bool.and_eq_true] at hz
      exact o_repr hr hg pins s σ H _ us Q I r ⟨v, p, rfl, toP_vx vd e1, hz.1.1, hz.1.2, hz.2, toP_hasDict d e1, kk _ _ (PPost.val (d := .str p.shown) rfl)⟩
    · cases h
  | list =>
    cases d with
    | lst ds =>
      cases h
      obtain ⟨a, ws, rfl, h1, h2⟩ := vd.lst
      exact call_list_of pins s σ H _ us Q I r ⟨a, ws, rfl, .inl (SqL.of h1), fun p n => kk _ _ (PPost.lst n h2)⟩
    | tup ds =>
      cases h
      obtain ⟨a, ws, rfl, _, h1, h2⟩ := vd.tup
      exact call_list_of pins s σ H _ us Q I r ⟨a, ws, rfl, .inr (SqT.of h1), fun p n => kk _ _ (PPost.lst n h2)⟩
    | dic ks ds =>
      have h : (if ks.length = ds.length then (keysD ks).map fun _ => RO.nw (.lst ks) else none) = some ro := h
      split at h
      · rename_i hl
        obtain ⟨kk', e1, rfl⟩ := Option.map_eq_some_iff.mp h
        have ek := keys_of e1
        obtain ⟨a, ws, rfl, h1, h2⟩ := vd.1
        rcases h1 with ⟨kk2, g1, g2, g3⟩ | ⟨kk2, g1, g2, g3⟩
        · have : kk' = kk2 := kDs_inj (ek.symm.trans g1)
          subst this
          refine call_listD hc pins s σ H _ us Q I r ⟨a, _, rfl, .inl g3, fun p n => ?_⟩
          rw [zip_keys kk' ws g2]
          exact kk _ _ (PPost.lst n (ek ▸ reps_keys kk'))
        · rw [g1] at ek
          cases kk2 with
          | nil => exact absurd rfl g2.2
          | cons x xs => cases kk' with
            | nil => cases ek
            | cons y ys =>
              rw [List.map_cons, List.map_cons] at ek
              injection ek with ek _
              cases y <;> cases ek
      · cases h
    | _ => cases h
  | dict =>
    cases d with
    | lst ds =>
      obtain ⟨ms, e, rfl⟩ := map_some (show (pairsD ds).map (fun ps => RO.nw (dicG (mergeG [] ps))) = some ro from h)
      obtain ⟨a, ws, rfl, h1, h2⟩ := vd.lst
      obtain ⟨ps, kvs, rfl, g2, g3⟩ := pairs_of (K := X.K) e h2
      exact call_dictP hc pins s σ H _ us Q I r ⟨a, ps, kvs, rfl, SqL.of h1, g2, fun p n => kk _ _ (KR.dic n (KR.merge g3 (show KR G Av H [] [] from rfl)))⟩
    | _ => cases h
  | tuple =>
    cases d with
    | lst ds =>
      cases h
      obtain ⟨a, ws, rfl, h1, h2⟩ := vd.lst
      exact call_tuple_of pins s σ H _ us Q I r ⟨a, ws, rfl, .inl ⟨SqL.of h1, fun p n => kk _ _ (PPost.tup n h2)⟩⟩
    | tup ds =>
      cases h
      obtain ⟨a, ws, rfl, _, h1, h2⟩ := vd.tup
      exact call_tuple_of pins s σ H _ us Q I r ⟨a, ws, rfl, .inr ⟨SqT.of h1, kk _ _ (PPost.val (vd.rep rfl))⟩⟩
    | _ => cases h
  | sorted =>
    cases d with
    | lst ds =>
      obtain ⟨is, e, rfl⟩ := map_some (show (allI ds).map (fun is => RO.nw (.lst ((sortI is).map D.int))) = some ro from h)
      obtain ⟨a, ws, rfl, h1, h2⟩ := vd.lst
      cases allI_reps e h2
      refine cr_sortedI pins s σ H _ us Q I r ⟨a, is, rfl, SqL.of h1, fun ns' p pm srt n => ?_⟩
      rw [sort_uniq pm srt]
      exact kk _ _ (PPost.lst n (reps_intsY _))
    | _ => cases h
  | sum =>
    cases d with
    | lst ds =>
      obtain ⟨is, e, rfl⟩ := map_some (show (allI ds).map (fun is => RO.sh (.int is.sum)) = some ro from h)
      obtain ⟨a, ws, rfl, h1, h2⟩ := vd.lst
      cases allI_reps e h2
      exact cr_sum hc pins s σ H _ us Q I r ⟨a, is, rfl, SqL.of h1, kk _ _ (PPost.val (d := .int is.sum) rfl)⟩
    | _ => cases h
  | all =>
    cases d with
    | lst ds =>
      obtain ⟨is, e, rfl⟩ := map_some (show (allB ds).map (fun bs => bo (bs.all id)) = some ro from h)
      obtain ⟨a, ws, rfl, h1, h2⟩ := vd.lst
      cases allB_reps e h2
      exact cr_all hc pins s σ H _ us Q I r ⟨a, is, rfl, SqL.of h1, kk _ _ (blk _)⟩
    | _ => cases h
  | any =>
    cases d with
    | lst ds =>
      obtain ⟨is, e, rfl⟩ := map_some (show (allB ds).map (fun bs => bo (bs.any id)) = some ro from h)
      obtain ⟨a, ws, rfl, h1, h2⟩ := vd.lst
      cases allB_reps e h2
      exact cr_any hc pins s σ H _ us Q I r ⟨a, is, rfl, SqL.of h1, kk _ _ (blk _)⟩
    | _ => cases h
  | _ => cases d <;> cases h
theorem s_bi {k : Nat} {g : SS → R (List RV)} {pn : Pos} (bi : BI) (hr : Room k X.A) (hgd : X.A.guards = some []) (hc : X.calm = true) (hg : Gl X (Str.ofString bi.nm)) (hm : X.mg (Str.ofString bi.nm) = none) (ha : PA X (e :: es) (tL G W (ErV G) g))
    (he : starEach (e :: es) X.env = (false, eval e X.env) :: starEach es X.env) (hpl : (backTo pos (starEach es X.env)).any (·.1) = false) :
    PE X (.Call (.Name (Str.ofString bi.nm) pn) (e :: es) [] pos) (tE G W (kBi (biD bi) g)) := by
  have key : PE X (.Call (.Name (Str.ofString bi.nm) pn) (e :: es) [] pos) (tCB (rBI G (biD bi)) (tL G W (ErV G) g)) := by
    have ho := o_bi (G := G) hr hgd hc bi
    have hb := bi.boot
    unfold BI.val at ho hb
    split at ho
    · rename_i z
      rw [if_pos z] at hb
      exact pe_callTy ho hg hm hb ha bi.nn bi.nd he hpl
    · rename_i z
      rw [if_neg z] at hb
      exact pe_callB ho hg hm hb ha bi.nn bi.nd he hpl
  exact PE_imp key fun σ H Q h => tri_bi h
end
end Eng

namespace Eng
open PySem PySem.Spec L2
open PyProof.Rows hiding St

/-! ### slots given other values -/
theorem freeAt_get {S : SS} {i : Nat} (h : freeAt S i = true) : ∃ s, S[i]? = some s ∧ (s = .no ∨ (∃ d, s = .sh d) ∨ ∃ d, s = .ow d) := by
  unfold freeAt at h
  split at h
  · exact ⟨_, by assumption, .inl rfl⟩
  · exact ⟨_, by assumption, .inr (.inl ⟨_, rfl⟩)⟩
  · exact ⟨_, by assumption, .inr (.inr ⟨_, rfl⟩)⟩
  · cases h

/-- behind a statement -/
structure SPost (G : Gs) (Av : Addr → Prop) (S : SS) (σ : St) (H : Hp) (Av' : Addr → Prop) (S' : SS) (σ' : St) (H' : Hp) : Prop where
  frame : ∀ a o, H a = some o → ¬ Root S σ a → NT o → H' a = some o
  stay : ∀ a o, H a = some o → ∃ o', H' a = some o'
  sub : ∀ a, Av' a → Av a ∨ H a = none
  held : ∀ a, Av a → ¬ Root S σ a → Av' a
  roots : ∀ a, Root S' σ' a → Root S σ a ∨ H a = none
  ios : ∀ (i : Nat) d, S[i]? = some (.io d) → (∃ d', S'[i]? = some (.io d')) ∧ σ'[i]? = σ[i]?
  lks : ∀ (i : Nat) d, S[i]? = some (.lk d) → S'[i]? = some (.lk d) ∧ σ'[i]? = σ[i]?
  st : StOk G Av' S' σ' H'

section
variable {G : Gs} {Av Av1 Av2 : Addr → Prop} {S S1 S2 : SS} {σ σ1 σ2 : St} {H H1 H2 : Hp}
theorem Post.s (p : Post G Av S σ H Av1 S1 H1) : SPost G Av S σ H Av1 S1 σ H1 :=
  ⟨p.frame, p.stay, p.sub, p.held, fun a r => .inl (p.root r), fun i d q => ⟨p.ios i d q, rfl⟩, fun i d q => ⟨p.lks i d q, rfl⟩, p.st⟩
theorem SPost.back_none (p : SPost G Av S σ H Av1 S1 σ1 H1) {a : Addr} (h : H1 a = none) : H a = none := by
  cases e : H a with
  | none => rfl
  | some o => obtain ⟨o', h'⟩ := p.stay a o e; rw [h'] at h; cases h
theorem SPost.trans (st : StOk G Av S σ H) (p : SPost G Av S σ H Av1 S1 σ1 H1) (q : SPost G Av1 S1 σ1 H1 Av2 S2 σ2 H2) : SPost G Av S σ H Av2 S2 σ2 H2 := by
  have nr : ∀ {a o}, H a = some o → ¬ Root S σ a → ¬ Root S1 σ1 a := fun {a o} h n r => (p.roots a r).elim n fun z => by rw [h] at z; cases z
  refine ⟨fun a o h n t => q.frame a o (p.frame a o h n t) (nr h n) t, fun a o h => let ⟨o', h'⟩ := p.stay a o h; q.stay a o' h', fun a h => ?_, fun a h n => ?_, fun a r => ?_, fun i d h => ?_, fun i d h => ?_, q.st⟩
  · rcases q.sub a h with h | h
    · exact p.sub a h
    · exact .inr (p.back_none h)
  · refine q.held a (p.held a h n) fun r => ?_
    rcases p.roots a r with z | z
    · exact n z
    · obtain ⟨o, z', _⟩ := st.dom a h
      rw [z] at z'; cases z'
  · rcases q.roots a r with z | z
    · exact p.roots a z
    · exact .inr (p.back_none z)
  · obtain ⟨⟨d', h1⟩, e1⟩ := p.ios i d h
    obtain ⟨h2, e2⟩ := q.ios i d' h1
    exact ⟨h2, e2.trans e1⟩
  · obtain ⟨h1, e1⟩ := p.lks i d h
    obtain ⟨h2, e2⟩ := q.lks i d h1
    exact ⟨h2, e2.trans e1⟩

/-- a slot that is free takes a shared value -/
theorem StOk.put (st : StOk G Av S σ H) {i : Nat} {d : D} {v : V} (hf : freeAt S i = true) (hv : Rep G Av H d v) : SPost G Av S σ H Av (S.set i (.sh d)) (σ.set i (some v)) H := by
  obtain ⟨s, hs, hk⟩ := freeAt_get hf
  have hi : i < S.length := (List.getElem?_eq_some_iff.mp hs).1
  have hiσ : i < σ.length := by rw [← st.len]; exact hi
  have hol : ∀ j, Holds (S.set i (.sh d)) j → Holds S j ∧ j ≠ i := fun j ⟨s, e, q, r⟩ => by
    rcases get_set_cases q with ⟨_, rfl⟩ | ⟨z, q⟩
    · cases r
    · exact ⟨⟨s, e, q, r⟩, z⟩
  have atE : ∀ {j a}, j ≠ i → At (σ.set i (some v)) j a → At σ j a := fun {j a} n h => by
    have h : (σ.set i (some v))[j]? = some (some (.ref a)) := h
    rw [set_ne n] at h; exact h
  have ni : ∀ (j : Nat) e, S[j]? = some (.io e) ∨ S[j]? = some (.lk e) → j ≠ i := fun j e h z => by
    subst z
    rw [hs] at h
    rcases hk with rfl | ⟨x, rfl⟩ | ⟨x, rfl⟩ <;> (rcases h with h | h <;> cases h)
  refine ⟨fun a o q _ _ => q, fun a o q => ⟨o, q⟩, fun a q => .inl q, fun a q _ => q, fun a ⟨j, ⟨s, e, q, r⟩, ha⟩ => ?_, fun j e q => ⟨⟨e, ?_⟩, ?_⟩, fun j e q => ⟨?_, ?_⟩, ?_⟩
  · obtain ⟨⟨s', e', q', r'⟩, n⟩ := hol j ⟨s, e, q, s.mu_rt r⟩
    rw [set_ne n] at q
    exact .inl ⟨j, ⟨s, e, q, r⟩, atE n ha⟩
  · rw [set_ne (ni j e (.inl q))]; exact q
  · rw [set_ne (ni j e (.inl q))]
  · rw [set_ne (ni j e (.inr q))]; exact q
  · rw [set_ne (ni j e (.inr q))]
  · refine ⟨by rw [List.length_set, List.length_set]; exact st.len, st.dom, st.tb, fun j e q => ?_, fun j s e q r => ?_, fun j k a h1 h2 h3 h4 => st.dis j k a (hol j h1).1 (hol k h2).1 (atE (hol j h1).2 h3) (atE (hol k h2).2 h4)⟩
    · rcases get_set_cases q with ⟨rfl, z⟩ | ⟨z, q⟩
      · cases z
        exact ⟨v, by rw [List.getElem?_set_self hiσ], hv⟩
      · rw [set_ne z]; exact st.sh j e q
    · obtain ⟨_, n⟩ := hol j ⟨s, e, q, r⟩
      rw [set_ne n] at q
      obtain ⟨p, h1, h2⟩ := st.ow j s e q r
      exact ⟨p, by show (σ.set i (some v))[j]? = _; rw [set_ne n]; exact h1, h2⟩
/-- .. a fresh one, which it owns then -/
theorem StOk.putO (st : StOk G Av S σ H) {i : Nat} {d : D} {p : Addr} (hf : freeAt S i = true) (hv : Vw G Av H d (.ref p)) (hm : MutD d = true) (hp : Av p) (hn : ∀ j, Holds S j → ¬ At σ j p) :
    StOk G Av (S.set i (.ow d)) (σ.set i (some (.ref p))) H ∧ (∀ a, Root (S.set i (.ow d)) (σ.set i (some (.ref p))) a → Root S σ a ∨ a = p) ∧
    (∀ (j : Nat) e, S[j]? = some (.io e) ∨ S[j]? = some (.lk e) → (S.set i (.ow d))[j]? = S[j]? ∧ (σ.set i (some (.ref p)))[j]? = σ[j]?) := by
  obtain ⟨s, hs, hk⟩ := freeAt_get hf
  have hi : i < S.length := (List.getElem?_eq_some_iff.mp hs).1
  have hiσ : i < σ.length := by rw [← st.len]; exact hi
  have hol : ∀ j, Holds (S.set i (.ow d)) j → j ≠ i → Holds S j := fun j ⟨s, e, q, r⟩ n => by
    rw [set_ne n] at q
    exact ⟨s, e, q, r⟩
  have atE : ∀ {j a}, j ≠ i → At (σ.set i (some (.ref p))) j a → At σ j a := fun {j a} n h => by
    have h : (σ.set i (some (.ref p)))[j]? = some (some (.ref a)) := h
    rw [set_ne n] at h; exact h
  have atI : ∀ {a}, At (σ.set i (some (.ref p))) i a → a = p := fun {a} h => by
    have h : (σ.set i (some (.ref p)))[i]? = some (some (.ref a)) := h
    rw [List.getElem?_set_self hiσ] at h
    cases h; rfl
  refine ⟨⟨by rw [List.length_set, List.length_set]; exact st.len, st.dom, st.tb, fun j e q => ?_, fun j s e q r => ?_, fun j k a h1 h2 h3 h4 => ?_⟩, fun a ⟨j, ⟨s, e, q, r⟩, ha⟩ => ?_, fun j e h => ?_⟩
  · rcases get_set_cases q with ⟨rfl, z⟩ | ⟨z, q⟩
    · cases z
    · rw [set_ne z]; exact st.sh j e q
  · by_cases n : j = i
    · subst n
      rw [List.getElem?_set_self hi] at q
      cases q; cases r
      exact ⟨p, by show (σ.set j (some (.ref p)))[j]? = _; rw [List.getElem?_set_self hiσ], hp, hv, hm⟩
    · rw [set_ne n] at q
      obtain ⟨p', h1, h2⟩ := st.ow j s e q r
      exact ⟨p', by show (σ.set i (some (.ref p)))[j]? = _; rw [set_ne n]; exact h1, h2⟩
  · by_cases n : j = i
    · by_cases m : k = i
      · exact n.trans m.symm
      · subst n
        cases atI h3
        exact absurd (atE m h4) (hn k (hol k h2 m))
    · by_cases m : k = i
      · subst m
        cases atI h4
        exact absurd (atE n h3) (hn j (hol j h1 n))
      · exact st.dis j k a (hol j h1 n) (hol k h2 m) (atE n h3) (atE m h4)
  · by_cases n : j = i
    · subst n; exact .inr (atI ha)
    · rw [set_ne n] at q
      exact .inl ⟨j, ⟨s, e, q, r⟩, atE n ha⟩
  · have n : j ≠ i := fun z => by
      subst z
      rw [hs] at h
      rcases hk with rfl | ⟨x, rfl⟩ | ⟨x, rfl⟩ <;> (rcases h with h | h <;> cases h)
    exact ⟨set_ne n, set_ne n⟩
end
end Eng

namespace Eng
open PySem PySem.Spec L2
open PyProof.Rows hiding St
section
variable {G : Gs} {Av Av1 Av2 : Addr → Prop} {S S1 S2 : SS} {σ σ1 σ2 : St} {H H1 H2 : Hp}

/-! ### targets -/
def Tg.slots : Tg → List Nat
  | .nm i => [i]
  | .nil => []
  | .cons a b => a.slots ++ b.slots
  | .tup l => l.slots
theorem SPost.refl (st : StOk G Av S σ H) : SPost G Av S σ H Av S σ H := (Post.refl st).s
def Only (σ σ' : St) (l : List Nat) : Prop := σ'.length = σ.length ∧ ∀ j, j ∉ l → σ'[j]? = σ[j]?
/-- the slots of S' behind S: shared ones at l -/
def OnlyS (S S' : SS) (l : List Nat) : Prop := S'.length = S.length ∧ ∀ j, (j ∉ l → S'[j]? = S[j]?) ∧ (S'[j]? = S[j]? ∨ ∃ d, S'[j]? = some (.sh d))
def tG (G : Gs) (tg : Tg) : TG := fun v σ H Q => ∃ Av S d S', StOk G Av S σ H ∧ Rep G Av H d v ∧ assign tg d S = some S' ∧ ∀ σ', SPost G Av S σ H Av S' σ' H → Only σ σ' tg.slots → OnlyS S S' tg.slots → Q σ' H
def tGs (G : Gs) (tg : Tg) : TGs := fun vs σ H Q => ∃ Av S ds S', StOk G Av S σ H ∧ Reps G Av H ds vs ∧ assign.assigns tg ds S = some S' ∧ ∀ σ', SPost G Av S σ H Av S' σ' H → Only σ σ' tg.slots → OnlyS S S' tg.slots → Q σ' H
variable {X : Cx} {W : WX} {e : Expr} {es : List Expr} {pos : Pos}
theorem g_name {i : Nat} {x : Str} (hN : X.N.Nodup) (hi : X.N[i]? = some x) (hx : Loc X.env.scope x) (hf : X.fn x = true ∨ X.env.scope.names.lookup x = some .local) : PG X (.Name x pos) (tG G (.nm i)) :=
  ⟨fun pins s σ H v u Q I r h => (pg_name hN hi hx hf).run pins s σ H v u Q I r (by
    obtain ⟨Av, S, d, S', st, hv, e, k⟩ := h
    have e : (if freeAt S i then some (S.set i (.sh d)) else none) = some S' := e
    split at e
    · rename_i hz
      cases e
      refine k _ (st.put hz hv) ⟨List.length_set, fun j n => set_ne fun z => n (by simp [Tg.slots, z])⟩ ⟨List.length_set, fun j => ⟨fun n => set_ne fun z => n (by simp [Tg.slots, z]), ?_⟩⟩
      by_cases z : j = i
      · subst z
        obtain ⟨s, hs, _⟩ := freeAt_get hz
        exact .inr ⟨d, set_eq hs⟩
      · exact .inl (set_ne z)
    · cases e)⟩
theorem g_tup {k : Nat} {l : Tg} {n : Nat} (hc : X.calm = true) (h : PGs X es (tGs G l)) (hn : (assignEach es X.env).length = n) (hl : ∀ ds S S', assign.assigns l ds S = some S' → ds.length = n) (hst : (assignEach es X.env).findIdx? (·.1) = none) : PG X (.Tuple es k pos) (tG G (.tup l)) :=
  ⟨fun pins s σ H v u Q I r h' => (pg_tup hc h hn hst).run pins s σ H v u Q I r (by
    obtain ⟨Av, S, d, S', st, hv, e, k⟩ := h'
    cases d with
    | tup ds =>
      obtain ⟨a, vs, rfl, h1, h2, h3⟩ := hv
      exact ⟨a, vs, rfl, SqT.of h2, by rw [h3.length]; exact hl _ _ _ e, Av, S, ds, S', st, h3, e, k⟩
    | _ => cases e)⟩
theorem g_nil : PGs X [] (tGs G .nil) :=
  ⟨fun pins s σ H vs us Q I r h => pgs_nil.run pins s σ H vs us Q I r (by
    obtain ⟨Av, S, ds, S', st, hv, e, k⟩ := h
    cases ds with
    | nil => cases e; exact ⟨hv, k σ (.refl st) ⟨rfl, fun _ _ => rfl⟩ ⟨rfl, fun _ => ⟨fun _ => rfl, .inl rfl⟩⟩⟩
    | cons _ _ => cases e)⟩
theorem g_cons {a b : Tg} (h1 : PG X e (tG G a)) (h2 : PGs X es (tGs G b)) (hs : (assignEach (e :: es) X.env).map (·.2) = PySem.assign e X.env :: (assignEach es X.env).map (·.2)) : PGs X (e :: es) (tGs G (.cons a b)) :=
  ⟨fun pins s σ H vs us Q I r h => (pgs_cons h1 h2 hs).run pins s σ H vs us Q I r (by
    obtain ⟨Av, S, ds, S', st, hv, e, k⟩ := h
    cases ds with
    | nil => cases e
    | cons d ds =>
      obtain ⟨v, r', rfl, hd, hds⟩ := hv
      obtain ⟨S1, e1, e2⟩ := Option.bind_eq_some_iff.mp (show (assign a d S).bind (assign.assigns b ds) = some S' from e)
      refine ⟨v, r', rfl, Av, S, d, S1, st, hd, e1, fun σ1 P1 o1 s1 => ⟨Av, S1, ds, S', P1.st, hds, e2, fun σ2 P2 o2 s2 => k σ2 (SPost.trans st P1 P2) ⟨o2.1.trans o1.1, fun j n => ?_⟩ ⟨s2.1.trans s1.1, fun j => ⟨fun n => ?_, ?_⟩⟩⟩⟩
      · simp only [Tg.slots, List.mem_append, not_or] at n
        rw [o2.2 j n.2, o1.2 j n.1]
      · simp only [Tg.slots, List.mem_append, not_or] at n
        rw [(s2.2 j).1 n.2, (s1.2 j).1 n.1]
      · rcases (s2.2 j).2 with z | z
        · rw [z]; exact (s1.2 j).2
        · exact .inr z)⟩
def Tg.len : Tg → Nat
  | .nil => 0
  | .cons _ b => b.len + 1
  | _ => 0
theorem assigns_len' : ∀ {l : Tg} {ds : List D} {S S' : SS}, assign.assigns l ds S = some S' → ds.length = l.len
  | .nil, ds, S, S', h => by
    cases ds with
    | nil => rfl
    | cons _ _ => cases h
  | .cons a b, ds, S, S', h => by
    cases ds with
    | nil => cases h
    | cons d ds =>
      obtain ⟨S1, _, e2⟩ := Option.bind_eq_some_iff.mp (show (assign a d S).bind (assign.assigns b ds) = some S' from h)
      show ds.length + 1 = b.len + 1
      rw [assigns_len' e2]
  | .nm _, ds, S, S', h => by cases ds <;> cases h
  | .tup _, ds, S, S', h => by cases ds <;> cases h

/-! ### a block's slots -/
theorem wipeS_length (S : SS) : ∀ l, (wipeS S l).length = S.length
  | [] => rfl
  | v :: vs => by unfold wipeS; rw [List.length_set, wipeS_length S vs]
theorem wipeS_out {S : SS} {j : Nat} : ∀ {l}, j ∉ l → (wipeS S l)[j]? = S[j]?
  | [], _ => rfl
  | v :: vs, n => by
    unfold wipeS
    rw [set_ne fun z => n (by simp [z])]
    exact wipeS_out fun z => n (by simp [z])
theorem wipeS_in {S : SS} {j : Nat} {s : SV} : ∀ {l}, j ∈ l → (wipeS S l)[j]? = some s → s = .no
  | v :: vs, h, e => by
    unfold wipeS at e
    rcases get_set_cases e with ⟨_, z⟩ | ⟨z, e⟩
    · exact z
    · exact wipeS_in ((List.mem_cons.mp h).resolve_left z) e
theorem wipe_out {σ : St} {j : Nat} : ∀ {l}, j ∉ l → (wipe σ l)[j]? = σ[j]?
  | [], _ => rfl
  | v :: vs, n => by
    unfold wipe
    rw [set_ne fun z => n (by simp [z])]
    exact wipe_out fun z => n (by simp [z])
theorem backS_length (T S : SS) : ∀ l, (backS T S l).length = S.length
  | [] => rfl
  | v :: vs => by unfold backS; rw [List.length_set, backS_length T S vs]
theorem backS_out {T S : SS} {j : Nat} : ∀ {l}, j ∉ l → (backS T S l)[j]? = S[j]?
  | [], _ => rfl
  | v :: vs, n => by
    unfold backS
    rw [set_ne fun z => n (by simp [z])]
    exact backS_out fun z => n (by simp [z])
theorem backS_in {T S : SS} {j : Nat} (hl : T.length = S.length) : ∀ {l}, j ∈ l → (backS T S l)[j]? = T[j]?
  | v :: vs, h => by
    unfold backS
    by_cases z : j = v
    · subst z
      by_cases hj : j < S.length
      · rw [List.getElem?_set_self (by rw [backS_length]; exact hj)]
        rw [List.getElem?_eq_getElem (by rw [hl]; exact hj)]; rfl
      · rw [List.getElem?_eq_none (by rw [List.length_set, backS_length]; omega), List.getElem?_eq_none (by omega)]
    · rw [set_ne z]
      exact backS_in hl ((List.mem_cons.mp h).resolve_left z)
theorem wipe_only {σ σ' : St} {own l : List Nat} (o : Only (wipe σ own) σ' l) (hs : ∀ j ∈ l, j ∈ own) : wipe σ' own = wipe σ own := by
  apply List.ext_getElem?
  intro j
  by_cases h : j ∈ own
  · have key : ∀ (τ : St) (vs : List Nat), j ∈ vs → j < τ.length → (wipe τ vs)[j]? = some none := by
      intro τ vs
      induction vs with
      | nil => intro h; cases h
      | cons v vs ih =>
        intro h hl
        unfold wipe
        by_cases z : j = v
        · subst z
          rw [List.getElem?_set_self (by rw [wipe_length]; exact hl)]
        · rw [set_ne z]
          exact ih ((List.mem_cons.mp h).resolve_left z) hl
    have ll : σ'.length = σ.length := o.1.trans (wipe_length σ own)
    by_cases hj : j < σ.length
    · rw [key σ' own h (by omega), key σ own h hj]
    · rw [List.getElem?_eq_none (by rw [wipe_length]; omega), List.getElem?_eq_none (by rw [wipe_length]; omega)]
  · rw [wipe_out h, o.2 j fun z => h (hs j z)]
/-- into a block -/
theorem StOk.inner (st : StOk G Av S σ H) (own : List Nat) : StOk G Av (wipeS S own) (wipe σ own) H := by
  have hol : ∀ {j s}, (wipeS S own)[j]? = some s → s ≠ .no → j ∉ own ∧ S[j]? = some s := fun {j s} e n => by
    by_cases h : j ∈ own
    · exact absurd (wipeS_in h e) n
    · exact ⟨h, by rw [wipeS_out h] at e; exact e⟩
  have hol2 : ∀ {j}, Holds (wipeS S own) j → Holds S j ∧ j ∉ own := fun {j} ⟨s, d, q, r⟩ => by
    obtain ⟨h, e⟩ := hol q (by rintro rfl; cases r)
    exact ⟨⟨s, d, e, r⟩, h⟩
  have at' : ∀ {j a}, j ∉ own → At (wipe σ own) j a → At σ j a := fun {j a} n h => by
    have h : (wipe σ own)[j]? = some (some (.ref a)) := h
    rw [wipe_out n] at h; exact h
  refine ⟨by rw [wipeS_length, wipe_length]; exact st.len, st.dom, st.tb, fun j d q => ?_, fun j s d q r => ?_, fun i j p h1 h2 h3 h4 => st.dis i j p (hol2 h1).1 (hol2 h2).1 (at' (hol2 h1).2 h3) (at' (hol2 h2).2 h4)⟩
  · obtain ⟨h, e⟩ := hol q (by intro z; cases z)
    rw [wipe_out h]; exact st.sh j d e
  · obtain ⟨h, e⟩ := hol q (by rintro rfl; cases r)
    obtain ⟨p, h1, h2⟩ := st.ow j s d e r
    exact ⟨p, by show (wipe σ own)[j]? = _; rw [wipe_out h]; exact h1, h2⟩
/-- out of a block: what stood in its slots stands there again -/
theorem Post.outer (st : StOk G Av S σ H) {own : List Nat} {S2 S5 : SS} {Av5 : Addr → Prop} {H5 : Hp} (e : Ext H H2)
    (o : Only (wipe σ own) σ2 own) (os : OnlyS (wipeS S own) S2 own) (st2 : StOk G Av S2 σ2 H2) (P : Post G Av S2 σ2 H2 Av5 S5 H5) : Post G Av S σ H Av5 (backS S S5 own) H5 := by
  have l2 : S2.length = S.length := os.1.trans (wipeS_length S own)
  have l5 : S5.length = S.length := by
    have h1 := P.st.len; have h2 := st2.len
    omega
  have σo : ∀ {j}, j ∉ own → σ2[j]? = σ[j]? := fun {j} n => by rw [o.2 j n, wipe_out n]
  have So : ∀ {j}, j ∉ own → S2[j]? = S[j]? := fun {j} n => by rw [(os.2 j).1 n, wipeS_out n]
  have S2no : ∀ {j s d}, j ∈ own → S2[j]? = some s → s.rt ≠ some d := fun {j s d} h q r => by
    rcases (os.2 j).2 with z | ⟨d', z⟩
    · rw [z] at q; have := wipeS_in h q; subst this; cases r
    · rw [z] at q; cases q; cases r
  have h2own : ∀ {j}, Holds S2 j → j ∉ own := fun {j} ⟨s, d, q, r⟩ h => S2no h q r
  have root2 : ∀ {a}, Root S2 σ2 a → Root S σ a := fun {a} ⟨j, ⟨s, d, q, r⟩, ha⟩ => by
    have n := h2own ⟨s, d, q, s.mu_rt r⟩
    refine ⟨j, ⟨s, d, by rw [← So n]; exact q, r⟩, ?_⟩
    show σ[j]? = _
    rw [← σo n]; exact ha
  have bin : ∀ {j}, j ∈ own → (backS S S5 own)[j]? = S[j]? := fun {j} h => backS_in l5.symm h
  have bout : ∀ {j}, j ∉ own → (backS S S5 own)[j]? = S5[j]? := fun {j} h => backS_out h
  have atσ : ∀ {j a}, j ∉ own → (At σ2 j a ↔ At σ j a) := fun {j a} n => by unfold At; rw [σo n]
  -- a root of S in the block's own slots is held
  have ownroot : ∀ {j p}, j ∈ own → Holds S j → At σ j p → ¬ Root S2 σ2 p := fun {j p} h hh ha ⟨k, hk, ak⟩ => by
    have n := h2own hk.holds
    obtain ⟨s, d, q, r⟩ := hk
    have : k = j := st.dis k j p ⟨s, d, by rw [← So n]; exact q, s.mu_rt r⟩ hh ((atσ n).mp ak) ha
    subst this
    exact n h
  have nonew : ∀ {a o}, H a = some o → H2 a = some o := fun {a o} h => e a o h
  refine ⟨fun a o q n t => P.frame a o (e a o q) (fun r => n (root2 r)) t, fun a o q => P.stay a o (e a o q), fun a q => ?_, fun a q n => P.held a q fun r => n (root2 r), fun j h => ?_, fun j h => ?_, fun j h => ?_, fun j d h => ?_, fun j d h => ?_, ?_⟩
  · rcases P.sub a q with z | z
    · exact .inl z
    · refine .inr ?_
      cases z' : H a with
      | none => rfl
      | some o => rw [e a o z'] at z; cases z
  · by_cases m : j ∈ own
    · obtain ⟨s, d, q, r⟩ := h; rw [bin m] at q; exact ⟨s, d, q, r⟩
    · obtain ⟨s, d, q, r⟩ := h
      rw [bout m] at q
      obtain ⟨s', d', q', r'⟩ := P.roots j ⟨s, d, q, r⟩
      exact ⟨s', d', by rw [← So m]; exact q', r'⟩
  · by_cases m : j ∈ own
    · obtain ⟨s, d, q, r⟩ := h; rw [bin m] at q; exact ⟨s, d, q, r⟩
    · obtain ⟨s, d, q, r⟩ := h
      rw [bout m] at q
      obtain ⟨s', d', q', r'⟩ := P.holds j ⟨s, d, q, r⟩
      exact ⟨s', d', by rw [← So m]; exact q', r'⟩
  · by_cases m : j ∈ own
    · obtain ⟨s, d, q, r⟩ := h; exact ⟨s, d, by rw [bin m]; exact q, r⟩
    · obtain ⟨s, d, q, r⟩ := h
      obtain ⟨s', d', q', r'⟩ := P.live j ⟨s, d, by rw [So m]; exact q, r⟩
      exact ⟨s', d', by rw [bout m]; exact q', r'⟩
  · by_cases m : j ∈ own
    · exact ⟨d, by rw [bin m]; exact h⟩
    · obtain ⟨d', q⟩ := P.ios j d (by rw [So m]; exact h)
      exact ⟨d', by rw [bout m]; exact q⟩
  · by_cases m : j ∈ own
    · rw [bin m]; exact h
    · rw [bout m]; exact P.lks j d (by rw [So m]; exact h)
  · have frame' : ∀ a o, H a = some o → ¬ Av a → NT o → H5 a = some o := fun a o q n t => P.frame a o (e a o q) (fun r => n (r.av st2)) t
    have sub' : ∀ a, Av5 a → Av a ∨ H a = none := fun a q => by
      rcases P.sub a q with z | z
      · exact .inl z
      · refine .inr ?_
        cases z' : H a with
        | none => rfl
        | some o => rw [e a o z'] at z; cases z
    have hol : ∀ {j}, Holds (backS S S5 own) j → (j ∈ own ∧ Holds S j) ∨ (j ∉ own ∧ Holds S5 j ∧ Holds S j) := fun {j} ⟨s, d, q, r⟩ => by
      by_cases m : j ∈ own
      · rw [bin m] at q; exact .inl ⟨m, s, d, q, r⟩
      · rw [bout m] at q
        obtain ⟨s', d', q', r'⟩ := P.holds j ⟨s, d, q, r⟩
        exact .inr ⟨m, ⟨s, d, q, r⟩, s', d', by rw [← So m]; exact q', r'⟩
    refine ⟨by rw [backS_length, l5]; exact st.len, P.st.dom, P.st.tb, fun j d q => ?_, fun j s d q r => ?_, fun i j p h1 h2 h3 h4 => ?_⟩
    · by_cases m : j ∈ own
      · rw [bin m] at q
        obtain ⟨v, h1, h2⟩ := st.sh j d q
        exact ⟨v, h1, h2.mono frame' sub'⟩
      · rw [bout m] at q
        rw [← σo m]; exact P.st.sh j d q
    · by_cases m : j ∈ own
      · rw [bin m] at q
        obtain ⟨p, h1, h2, h3, h4⟩ := st.ow j s d q r
        have nr := ownroot m ⟨s, d, q, r⟩ h1
        exact ⟨p, h1, P.held p h2 nr, h3.mono frame' sub' fun a o z q t => by cases z; exact P.frame _ o (e _ o q) nr t, h4⟩
      · rw [bout m] at q
        obtain ⟨p, h1, h2⟩ := P.st.ow j s d q r
        exact ⟨p, (atσ m).mp h1, h2⟩
    · have a1 := hol h1
      have a2 := hol h2
      exact st.dis i j p (a1.elim (·.2) (·.2.2)) (a2.elim (·.2) (·.2.2)) h3 h4
end
end Eng

namespace Eng
open PySem PySem.Spec L2
open PyProof.Rows hiding St
section
variable {G : Gs} {Av Av1 Av2 : Addr → Prop} {S S1 S2 : SS} {σ σ1 σ2 : St} {H H1 H2 : Hp} {Dd : Addr} {o : HO}

/-- an object that no slot has is written -/
theorem Vw.touch {d : D} {v : V} (h : Vw G Av H d v) (hD : Av Dd) (n : v ≠ .ref Dd) : Vw G Av (upd H Dd o) d v :=
  h.mono (fun a u q na _ => by rw [upd_ne (b := a) (fun z : a = Dd => na (z ▸ hD))]; exact q) (fun a q => .inl q) fun a u e q _ => by rw [upd_ne (b := a) (fun z : a = Dd => n (by rw [e, z]))]; exact q
theorem Rep.touch {d : D} {v : V} (h : Rep G Av H d v) (hD : Av Dd) : Rep G Av (upd H Dd o) d v :=
  h.mono (fun a u q na _ => by rw [upd_ne (b := a) (fun z : a = Dd => na (z ▸ hD))]; exact q) fun a q => .inl q
theorem Reps.touch {d : List D} {v : List V} (h : Reps G Av H d v) (hD : Av Dd) : Reps G Av (upd H Dd o) d v :=
  Reps.mono (fun a u q na _ => by rw [upd_ne (b := a) (fun z : a = Dd => na (z ▸ hD))]; exact q) (fun a q => .inl q) d h
theorem StOk.touch (st : StOk G Av S σ H) (hD : Av Dd) (hm : Mu o) (n : ∀ i, Holds S i → ¬ At σ i Dd) : StOk G Av S σ (upd H Dd o) := by
  refine ⟨st.len, fun a q => ?_, tabs_upd st.tb fun u e => by obtain ⟨w, e', m⟩ := st.dom _ hD; rw [e] at e'; cases e'; exact m, fun i d q => ?_, fun i s d q r => ?_, st.dis⟩
  · by_cases z : a = Dd
    · subst z; exact ⟨o, upd_same, hm⟩
    · rw [upd_ne z]; exact st.dom a q
  · obtain ⟨v, h1, h2⟩ := st.sh i d q
    exact ⟨v, h1, h2.touch hD⟩
  · obtain ⟨p, h1, h2, h3, h4⟩ := st.ow i s d q r
    exact ⟨p, h1, h2, h3.touch hD fun z => n i ⟨s, d, q, r⟩ (by cases z; exact h1), h4⟩
theorem Post.touch (st : StOk G Av S σ H) (P : Post G Av S σ H Av1 S1 H1) (hn : H Dd = none) (hD : Av1 Dd) (hm : Mu o) : Post G Av S σ H Av1 S1 (upd H1 Dd o) := by
  have ne : ∀ {a u}, H a = some u → a ≠ Dd := fun {a u} h z => by rw [z, hn] at h; cases h
  refine ⟨fun a u q n t => by rw [upd_ne (ne q)]; exact P.frame a u q n t, fun a u q => ?_, P.sub, P.held, P.roots, P.holds, P.live, P.ios, P.lks, P.st.touch hD hm (P.new_apart st hn)⟩
  rw [upd_ne (ne q)]; exact P.stay a u q

/-! ### what is walked -/
structure Wk (G : Gs) (J : It) (ds : List D) (Stay : (Addr → Prop) → SS → St → Hp → Prop) : Prop where
  go : ∀ Av S σ H i, Stay Av S σ H → i < ds.length → J.go i H
  stop : ∀ Av S σ H i, Stay Av S σ H → ds.length ≤ i → J.stop i H
  yld : ∀ Av S σ H i x H' d, StOk G Av S σ H → Stay Av S σ H → J.yld i H x H' → ds[i]? = some d → Ext H H' ∧ Rep G Av H' d x
  keep : ∀ Av S σ H Av' S' σ' H', StOk G Av S σ H → SPost G Av S σ H Av' S' σ' H' → Stay Av S σ H → Stay Av' S' σ' H'
  touch : ∀ Av S σ H D o, Stay Av S σ H → Av D → (∀ i, Holds S i → ¬ At σ i D) → Stay Av S σ (upd H D o)

variable (G : Gs) (W : WX)
def RdI (r : R (List D × Option Nat)) (Av : Addr → Prop) (S : SS) (σ : St) (H : Hp) (Rr : It → Hp → Prop) : Prop := match r with
  | .ok xu S' => ∀ Av' H' J Stay, Post G Av S σ H Av' S' H' → Wk G J xu.1 Stay → Stay Av' S' σ H' → (∀ i, xu.2 = some i → (∃ d, S[i]? = some (.ow d)) ∧ ∃ d, S'[i]? = some (.lk d)) → Rr J H'
  | .exc e S' => ∀ cls d H', XPost G Av S σ H e S' cls d H' → W cls d σ H'
  | .bad => False
def tI (f : SS → R (List D × Option Nat)) : TI := fun σ H Rr => ∃ Av S, StOk G Av S σ H ∧ RdI G W (f S) Av S σ H Rr
end
section
variable {G : Gs} {W : WX} {Av Av1 Av2 : Addr → Prop} {S S1 S2 : SS} {σ σ1 σ2 : St} {H H1 H2 : Hp} {Dd : Addr}

theorem Post.unlock {u : Option Nat} (P : Post G Av S σ H Av1 S1 H1) (hu : ∀ i, u = some i → ∃ d, S[i]? = some (.ow d)) : Post G Av S σ H Av1 (unlock S1 u) H1 := by
  cases u with
  | none => exact P
  | some i =>
    obtain ⟨d0, h0⟩ := hu i rfl
    show Post G Av S σ H Av1 (match S1[i]? with | some (.lk d) => S1.set i (.ow d) | _ => S1) H1
    split
    · rename_i d e
      have hl : i < S1.length := (List.getElem?_eq_some_iff.mp e).1
      have get : ∀ {j s}, (S1.set i (.ow d))[j]? = some s → (j = i ∧ s = .ow d) ∨ (j ≠ i ∧ S1[j]? = some s) := fun q => get_set_cases q
      have hol : ∀ {j}, Holds (S1.set i (.ow d)) j → Holds S1 j := fun {j} ⟨s, d', q, r⟩ => by
        rcases get q with ⟨rfl, rfl⟩ | ⟨_, q⟩
        · exact ⟨_, d, e, rfl⟩
        · exact ⟨s, d', q, r⟩
      refine ⟨P.frame, P.stay, P.sub, P.held, fun j ⟨s, d', q, r⟩ => ?_, fun j h => P.holds j (hol h), fun j h => ?_, fun j d' h => ?_, fun j d' h => ?_, ⟨by rw [List.length_set]; exact P.st.len, P.st.dom, P.st.tb, fun j d' q => ?_, fun j s d' q r => ?_, fun j k p h1 h2 => P.st.dis j k p (hol h1) (hol h2)⟩⟩
      · rcases get q with ⟨rfl, rfl⟩ | ⟨_, q⟩
        · exact ⟨_, d0, h0, rfl⟩
        · exact P.roots j ⟨s, d', q, r⟩
      · by_cases z : j = i
        · subst z; exact ⟨_, d, by rw [List.getElem?_set_self hl], rfl⟩
        · obtain ⟨s, d', q, r⟩ := P.live j h
          exact ⟨s, d', by rw [set_ne z]; exact q, r⟩
      · have z : j ≠ i := fun z => by subst z; rw [h0] at h; cases h
        rw [set_ne z]; exact P.ios j d' h
      · have z : j ≠ i := fun z => by subst z; rw [h0] at h; cases h
        rw [set_ne z]; exact P.lks j d' h
      · rcases get q with ⟨_, z⟩ | ⟨_, q⟩
        · cases z
        · exact P.st.sh j d' q
      · rcases get q with ⟨rfl, rfl⟩ | ⟨_, q⟩
        · cases r; exact P.st.ow j _ d e rfl
        · exact P.st.ow j s d' q r
    · exact P

/-- [elt for tg in it if ..] -/
theorem tri_comp {elt : KE} {tg : Tg} {it : SS → R (List D × Option Nat)} {ifs : KT} {own : List Nat} {Q : VK} (hs : ∀ j ∈ tg.slots, j ∈ own) (h : tE G W (kComp elt tg it ifs own) σ H Q) :
    tLc (tI G W it) (tG G tg) (tT G (fun _ _ _ _ => False) ifs) (tE G (fun _ _ _ _ => False) elt) own σ H Q := by
  obtain ⟨Av, S, st, h⟩ := h
  refine ⟨Av, S, st, ?_⟩
  unfold kComp at h
  cases ei : it S with
  | bad => rw [ei] at h; exact h
  | exc x S1 => rw [ei] at h; exact h
  | ok xu S1 =>
    rw [ei] at h
    have h : RdE G W (((loopC (turnC elt tg ifs own) xu.1 [] S1).bind fun ys S2 => .ok (.fr (.lst ys)) (unlock S2 xu.2)).noexc) Av S σ H Q := h
    intro Av1 H1 J Stay P1 wk stay hu Dd hD
    obtain ⟨ys, S2, el, h⟩ : ∃ ys S2, loopC (turnC elt tg ifs own) xu.1 [] S1 = .ok ys S2 ∧ RdE G W (.ok (.fr (.lst ys)) (unlock S2 xu.2)) Av S σ H Q := by
      cases e : loopC (turnC elt tg ifs own) xu.1 [] S1 with
      | ok ys S2 => rw [e] at h; exact ⟨ys, S2, rfl, h⟩
      | exc x S2 => rw [e] at h; exact h.elim
      | bad => rw [e] at h; exact h.elim
    generalize hn : xu.1.length = n
    let Wf : Nat → Nat → Hp → Prop := fun i m H => m = n - i ∧ i ≤ n ∧ ∃ Avi Si acc us, Post G Av1 S1 σ H1 Avi Si H ∧ Stay Avi Si σ H ∧ Avi Dd ∧ H Dd = some (.lst us) ∧ Reps G Avi H acc us ∧ loopC (turnC elt tg ifs own) (xu.1.drop i) acc Si = .ok ys S2
    refine ⟨Wf, ⟨n, ?_⟩, ?_⟩
    · -- the start
      have st1 := P1.st
      have Pe : Post G Av1 S1 σ H1 (fun a => Av1 a ∨ a = Dd) S1 (upd H1 Dd (.lst [])) := Post.ext st1 (ext_upd hD) (fun b q => q.elim .inl fun z => .inr (z ▸ hD)) (fun b q => q.elim (fun z => let ⟨o, w, m⟩ := st1.dom b z; ⟨o, ext_upd hD b o w, m⟩) fun z => ⟨.lst [], by rw [z]; exact upd_same, trivial⟩) fun b q => .inl q
      exact ⟨by omega, Nat.zero_le _, _, S1, [], [], Pe, wk.keep _ _ _ _ _ _ _ _ st1 Pe.s stay, .inr rfl, upd_same, rfl, el⟩
    · rintro i m Hi ⟨rfl, hi, Avi, Si, acc, us, Pi, si, aD, hDu, ru, li⟩
      by_cases hlt : i < n
      · -- a turn
        obtain ⟨d, hd⟩ : ∃ d, xu.1[i]? = some d := ⟨xu.1[i]'(by omega), List.getElem?_eq_getElem _⟩
        have hdrop : xu.1.drop i = d :: xu.1.drop (i + 1) := by
          rw [List.drop_eq_getElem_cons (by omega)]
          congr 1
          have := List.getElem?_eq_some_iff.mp hd
          exact this.2
        rw [hdrop] at li
        have li : (turnC elt tg ifs own d Si).bind (fun y S' => match y with
          | some y => if acc.length < sizeLine then loopC (turnC elt tg ifs own) (xu.1.drop (i + 1)) (acc ++ [y]) S' else .bad
          | none => loopC (turnC elt tg ifs own) (xu.1.drop (i + 1)) acc S') = .ok ys S2 := li
        refine .inr ⟨wk.go _ _ _ _ i si (by omega), Wf (i + 1) (n - (i + 1)), fun H' w => ⟨n - (i + 1), by omega, w⟩, fun x H' y => ?_⟩
        obtain ⟨eH, rx⟩ := wk.yld _ _ _ _ i x H' d Pi.st si y hd
        have sti := Pi.st
        have stH : StOk G Avi Si σ H' := sti.ext eH (fun a q => .inl q) (fun a q => let ⟨o, w, m⟩ := sti.dom a q; ⟨o, eH a o w, m⟩) fun a q => q
        cases ea : assign tg d (wipeS Si own) with
        | none =>
          have : turnC elt tg ifs own d Si = .bad := by unfold turnC; rw [ea]
          rw [this] at li; cases li
        | some S2' =>
          have et : turnC elt tg ifs own d Si = (ifs S2').bind fun b S3 => if b then (kShr elt S3).bind fun y S5 => .ok (some y) (backS Si S5 own) else .ok none (backS Si S3 own) := by unfold turnC; rw [ea]
          rw [et] at li
          refine ⟨Avi, wipeS Si own, d, S2', stH.inner own, rx, ea, fun σ2 Ps on os => ⟨wipe_only on hs, ?_⟩⟩
          have on' : L2.St → True := fun _ => trivial
          have onO : Only (wipe σ own) σ2 own := ⟨on.1, fun j nj => on.2 j fun z => nj (hs j z)⟩
          have osO : OnlyS (wipeS Si own) S2' own := ⟨os.1, fun j => ⟨fun nj => (os.2 j).1 fun z => nj (hs j z), (os.2 j).2⟩⟩
          refine ⟨Avi, S2', Ps.st, ?_⟩
          cases ef : ifs S2' with
          | bad => rw [ef] at li; cases li
          | exc x S3 => rw [ef] at li; cases li
          | ok b S3 =>
            rw [ef] at li
            intro Av3 H3 P3
            cases b with
            | false =>
              simp only [if_false, Bool.false_eq_true]
              have li : loopC (turnC elt tg ifs own) (xu.1.drop (i + 1)) acc (backS Si S3 own) = .ok ys S2 := li
              have Po := Post.outer sti eH onO osO Ps.st P3
              have Pn := Pi.trans Po
              have nr : ¬ Root Si σ Dd := fun ⟨k, hk, ak⟩ => Pi.new_apart P1.st hD k hk.holds ak
              exact ⟨rfl, by omega, Av3, _, acc, us, Pn, wk.keep _ _ _ _ _ _ _ _ sti Po.s si, Po.held Dd aD nr, Po.frame Dd _ hDu nr nt_lst, Po.reps sti ru, li⟩
            | true =>
              simp only [if_true]
              have li : ((kShr elt S3).bind fun y S5 => R.ok (some y) (backS Si S5 own)).bind (fun y S' => match y with
                | some y => if acc.length < sizeLine then loopC (turnC elt tg ifs own) (xu.1.drop (i + 1)) (acc ++ [y]) S' else .bad
                | none => loopC (turnC elt tg ifs own) (xu.1.drop (i + 1)) acc S') = .ok ys S2 := li
              refine ⟨Av3, S3, P3.st, ?_⟩
              cases ee : elt S3 with
              | bad => unfold kShr at li; rw [ee] at li; cases li
              | exc x S4 => unfold kShr at li; rw [ee] at li; cases li
              | ok rv S4 =>
                intro v H4 P4
                cases es : shr rv S4 with
                | bad => unfold kShr at li; rw [ee] at li; simp only [R.bind] at li; rw [es] at li; cases li
                | exc x S5 => exact (shr_exc es).elim
                | ok y' S5 =>
                  unfold kShr at li; rw [ee] at li
                  simp only [R.bind] at li
                  rw [es] at li
                  obtain ⟨Av5, P5, r5⟩ := (P4.shared P3.st es).ex
                  have Po := Post.outer sti eH onO osO Ps.st (P3.trans P5)
                  have nr : ¬ Root Si σ Dd := fun ⟨k, hk, ak⟩ => Pi.new_apart P1.st hD k hk.holds ak
                  have Pn := Pi.trans Po
                  have li : (if acc.length < sizeLine then loopC (turnC elt tg ifs own) (xu.1.drop (i + 1)) (acc ++ [y']) (backS Si S5 own) else .bad) = .ok ys S2 := li
                  have aD5 := Po.held Dd aD nr
                  split at li
                  · rename_i hz
                    refine ⟨us, Po.frame Dd _ hDu nr nt_lst, by rw [ru.length]; exact hz, rfl, by omega, Av5, _, acc ++ [y'], us ++ [v], Pn.touch P1.st hD aD5 trivial, wk.touch _ _ _ _ _ _ (wk.keep _ _ _ _ _ _ _ _ sti Po.s si) aD5 (Pn.new_apart P1.st hD), aD5, upd_same, (Reps.snoc (Po.reps sti ru) r5).touch aD5, li⟩
                  · cases li
      · -- the end
        have e : i = n := by omega
        subst e
        refine .inl ⟨wk.stop _ _ _ _ i si (by omega), ?_⟩
        rw [List.drop_eq_nil_of_le (by omega)] at li
        cases li
        have hu' : ∀ i, xu.2 = some i → ∃ d, S[i]? = some (.ow d) := fun i e => (hu i e).1
        have Pf := (P1.trans Pi).unlock hu'
        refine h (.ref Dd) Hi ⟨Avi, Pf, Dd, rfl, aD, P1.back_none hD, ⟨Dd, us, rfl, hDu, ru⟩, rfl⟩
end
end Eng

namespace Eng
open PySem PySem.Spec L2
open PyProof.Rows hiding St
section
variable {X : Cx} {G : Gs} {W : WX} {e l a b : Expr} {tg : Expr} {p q : KE} {pos pp : Pos}
/-- a list or a tuple that is walked -/
def iSeq (K : PySem.W.Frag) (tl : TE) : TI := fun σ H R => tl σ H fun x H1 => ∃ a, x = .ref a ∧ (((∃ xs, SqL K H1 a xs) ∧ R (Itl K a) H1) ∨ ((∃ xs, SqT K H1 a xs) ∧ R (Itt K a) H1))
theorem pi_seq {tl : TE} (hl : PE X l tl) : PI X tg l (iSeq X.K tl) := by
  constructor
  intro pins s σ H R inv want
  refine thn (hl.run pins s σ H _ inv want) ?_
  rintro v s1 ⟨x, H1, inv1, rel, a, rfl, both⟩
  cases rel
  -- a new object walks it
  have new : ∀ b ∈ [s1.heap.objs.size], FpOk X pins H1 b := by
    intro b mem
    cases List.mem_singleton.mp mem
    exact inv1.fpOk Nat.le.refl (inv1.hok.fresh Nat.le.refl)
  have keep : ∀ (o : Obj) (b : Addr) (u : Obj), s1.heap.get? b = some u → (s1.heap.push o).get? b = some u := fun o _ _ e => Heap.get?_push_of_some o e
  cases both with
  | inl z =>
    obtain ⟨its, _, at_a, _⟩ := inv1.list z.1.choose_spec
    exact wpAny_pyIter_list at_a.isList ⟨_, _, _, Itl X.K a, H1, rfl, inv1.kept (t' := s1.toks) (keep _), turn_list a _, ⟨_, Heap.get?_push_size _ rfl, rfl, rfl⟩, new, z.2⟩
  | inr z =>
    obtain ⟨its, _, at_a, _⟩ := inv1.tuple z.1.choose_spec
    exact wpAny_pyIter_tuple (show s1.heap.IsTuple a its.toArray from at_a) ⟨_, _, _, Itt X.K a, H1, rfl, inv1.kept (t' := s1.toks) (keep _), turn_tuple a _, ⟨_, Heap.get?_push_size _ rfl, rfl, rfl⟩, new, z.2⟩
theorem PI_imp {w w' : TI} (h : PI X tg e w') (k : ∀ σ H R, w σ H R → w' σ H R) : PI X tg e w := ⟨fun pins s σ H R I q => h.run pins s σ H R I (k σ H R q)⟩

/-- a shared list, tuple -/
theorem wk_lst (K : PySem.W.Frag) (ds : List D) (a : Addr) (vs : List V) : Wk G (Itl K a) ds (fun Av S σ H => ¬ Av a ∧ H a = some (.lst vs) ∧ Reps G Av H ds vs) where
  go := fun Av S σ H i ⟨_, h, r⟩ hi => by
    have := r.length
    exact ⟨vs, vs[i]'(by omega), SqL.of h, List.getElem?_eq_getElem _⟩
  stop := fun Av S σ H i ⟨_, h, r⟩ hi => ⟨vs, SqL.of h, by rw [r.length]; exact hi⟩
  yld := fun Av S σ H i x H' d _ ⟨_, h, r⟩ hy hd => by
    obtain ⟨rfl, hy⟩ := hy
    obtain ⟨v, h1, h2⟩ := r.get' hd
    have := hy vs (SqL.of h)
    rw [h1] at this; cases this
    exact ⟨fun _ _ q => q, h2⟩
  keep := fun Av S σ H Av' S' σ' H' st P ⟨n, h, r⟩ => by
    refine ⟨fun z => (P.sub a z).elim n (fun z => by rw [h] at z; cases z), P.frame a _ h (fun z => n (z.av st)) nt_lst, Reps.mono (fun b o q m t => P.frame b o q (fun z => m (z.av st)) t) P.sub ds r⟩
  touch := fun Av S σ H D o ⟨n, h, r⟩ hD _ => ⟨n, by rw [upd_ne (b := a) fun z : a = D => n (z ▸ hD)]; exact h, r.touch hD⟩
theorem wk_tup (K : PySem.W.Frag) (ds : List D) (a : Addr) (vs : List V) : Wk G (Itt K a) ds (fun Av S σ H => ¬ Av a ∧ H a = some (.tup vs) ∧ Reps G Av H ds vs) where
  go := fun Av S σ H i ⟨_, h, r⟩ hi => by
    have := r.length
    exact ⟨vs, vs[i]'(by omega), SqT.of h, List.getElem?_eq_getElem _⟩
  stop := fun Av S σ H i ⟨_, h, r⟩ hi => ⟨vs, SqT.of h, by rw [r.length]; exact hi⟩
  yld := fun Av S σ H i x H' d _ ⟨_, h, r⟩ hy hd => by
    obtain ⟨rfl, hy⟩ := hy
    obtain ⟨v, h1, h2⟩ := r.get' hd
    have := hy vs (SqT.of h)
    rw [h1] at this; cases this
    exact ⟨fun _ _ q => q, h2⟩
  keep := fun Av S σ H Av' S' σ' H' st P ⟨n, h, r⟩ => by
    refine ⟨fun z => (P.sub a z).elim n (fun z => by rw [h] at z; cases z), P.frame a _ h (fun z => n (z.av st)) nt_tup, Reps.mono (fun b o q m t => P.frame b o q (fun z => m (z.av st)) t) P.sub ds r⟩
  touch := fun Av S σ H D o ⟨n, h, r⟩ hD _ => ⟨n, by rw [upd_ne (b := a) fun z : a = D => n (z ▸ hD)]; exact h, r.touch hD⟩
/-- a slot's list, locked -/
theorem wk_lk (K : PySem.W.Frag) (ds : List D) (a : Addr) (vs : List V) (i0 : Nat) : Wk G (Itl K a) ds (fun Av S σ H => S[i0]? = some (.lk (.lst ds)) ∧ At σ i0 a ∧ H a = some (.lst vs) ∧ Reps G Av H ds vs) where
  go := fun Av S σ H i ⟨_, _, h, r⟩ hi => by
    have := r.length
    exact ⟨vs, vs[i]'(by omega), SqL.of h, List.getElem?_eq_getElem _⟩
  stop := fun Av S σ H i ⟨_, _, h, r⟩ hi => ⟨vs, SqL.of h, by rw [r.length]; exact hi⟩
  yld := fun Av S σ H i x H' d _ ⟨_, _, h, r⟩ hy hd => by
    obtain ⟨rfl, hy⟩ := hy
    obtain ⟨v, h1, h2⟩ := r.get' hd
    have := hy vs (SqL.of h)
    rw [h1] at this; cases this
    exact ⟨fun _ _ q => q, h2⟩
  keep := fun Av S σ H Av' S' σ' H' st P ⟨h0, h1, h, r⟩ => by
    obtain ⟨k1, k2⟩ := P.lks i0 _ h0
    have nr : ¬ Root S σ a := fun ⟨j, hj, aj⟩ => by
      have e := st.dis j i0 a hj.holds ⟨_, _, h0, rfl⟩ aj h1
      subst e
      obtain ⟨s, d, q, m⟩ := hj
      rw [h0] at q; cases q; cases m
    exact ⟨k1, by show σ'[i0]? = _; rw [k2]; exact h1, P.frame a _ h nr nt_lst, Reps.mono (fun b o q m t => P.frame b o q (fun z => m (z.av st)) t) P.sub ds r⟩
  touch := fun Av S σ H D o ⟨h0, h1, h, r⟩ hD hn => ⟨h0, h1, by rw [upd_ne (b := a) fun z : a = D => hn i0 ⟨_, _, h0, rfl⟩ (z ▸ h1)]; exact h, r.touch hD⟩
theorem rangeD_length (lo : Int) : ∀ n, (rangeD lo n).length = n
  | 0 => rfl
  | n + 1 => by unfold rangeD; rw [List.length_append, rangeD_length lo n]; rfl
theorem rangeD_get (lo : Int) : ∀ (n i : Nat), i < n → (rangeD lo n)[i]? = some (.int (lo + i))
  | 0, i, h => absurd h (Nat.not_lt_zero i)
  | n + 1, i, h => by
    unfold rangeD
    by_cases z : i < n
    · rw [List.getElem?_append_left (by rw [rangeD_length]; exact z)]; exact rangeD_get lo n i z
    · have : i = n := by omega
      subst this
      rw [List.getElem?_append_right (by rw [rangeD_length]; exact Nat.le_refl _), rangeD_length, Nat.sub_self]; rfl
theorem wk_rng (lo : Int) (n : Nat) : Wk G (Itr lo n) (rangeD lo n) (fun _ _ _ _ => True) where
  go := fun Av S σ H i _ hi => by rw [rangeD_length] at hi; exact hi
  stop := fun Av S σ H i _ hi => by rw [rangeD_length] at hi; exact hi
  yld := fun Av S σ H i x H' d _ _ hy hd => by
    obtain ⟨rfl, rfl⟩ := hy
    have hi : i < n := by
      have := (List.getElem?_eq_some_iff.mp hd).1
      rwa [rangeD_length] at this
    rw [rangeD_get lo n i hi] at hd
    cases hd
    exact ⟨fun _ _ q => q, (rfl : V.int (lo + i) = _)⟩
  keep := fun _ _ _ _ _ _ _ _ _ _ _ => True.intro
  touch := fun _ _ _ _ _ _ _ _ _ => True.intro

/-- an owned slot's list is locked -/
theorem Post.lock {Av : Addr → Prop} {S : SS} {σ : St} {H : Hp} (st : StOk G Av S σ H) {i : Nat} {d : D} (h : S[i]? = some (.ow d)) : Post G Av S σ H Av (S.set i (.lk d)) H := by
  have hl : i < S.length := (List.getElem?_eq_some_iff.mp h).1
  have get : ∀ {j s}, (S.set i (.lk d))[j]? = some s → (j = i ∧ s = .lk d) ∨ (j ≠ i ∧ S[j]? = some s) := fun q => get_set_cases q
  have hol : ∀ {j}, Holds (S.set i (.lk d)) j → Holds S j := fun {j} ⟨s, d', q, r⟩ => by
    rcases get q with ⟨rfl, rfl⟩ | ⟨_, q⟩
    · exact ⟨_, d, h, rfl⟩
    · exact ⟨s, d', q, r⟩
  refine ⟨fun a o q _ _ => q, fun a o q => ⟨o, q⟩, fun a q => .inl q, fun a q _ => q, fun j ⟨s, d', q, r⟩ => ?_, fun j q => hol q, fun j q => ?_, fun j d' q => ⟨d', ?_⟩, fun j d' q => ?_, ⟨by rw [List.length_set]; exact st.len, st.dom, st.tb, fun j d' q => ?_, fun j s d' q r => ?_, fun j k p h1 h2 => st.dis j k p (hol h1) (hol h2)⟩⟩
  · rcases get q with ⟨_, rfl⟩ | ⟨_, q⟩
    · cases r
    · exact ⟨s, d', q, r⟩
  · by_cases z : j = i
    · subst z; exact ⟨_, d, by rw [List.getElem?_set_self hl], rfl⟩
    · obtain ⟨s, d', q, r⟩ := q
      exact ⟨s, d', by rw [set_ne z]; exact q, r⟩
  · rw [set_ne (fun z => by subst z; rw [h] at q; cases q)]; exact q
  · rw [set_ne (fun z => by subst z; rw [h] at q; cases q)]; exact q
  · rcases get q with ⟨_, z⟩ | ⟨_, q⟩
    · cases z
    · exact st.sh j d' q
  · rcases get q with ⟨rfl, rfl⟩ | ⟨_, q⟩
    · cases r; exact st.ow j _ d h rfl
    · exact st.ow j s d' q r
/-- what a walk's items are, at an address -/
def Seqs (G : Gs) (sq : Hp → Addr → List V → Prop) (a : Addr) (ds : List D) (Stay : (Addr → Prop) → SS → St → Hp → Prop) : Prop := ∀ Av S σ H, Stay Av S σ H → ∃ vs, sq H a vs ∧ Reps G Av H ds vs
theorem items_wk {K : PySem.W.Frag} {Av : Addr → Prop} {S S1 S2 : SS} {σ : St} {H H1 : Hp} {rv : RV} {v : V} {xu : List D × Option Nat} (st : StOk G Av S σ H) (P : EPost G Av S σ H rv S1 v H1) (e : itemsOf rv S1 = .ok xu S2) :
    ∃ a Av2 Stay, v = .ref a ∧ Post G Av S σ H Av2 S2 H1 ∧ Stay Av2 S2 σ H1 ∧ (∀ i, xu.2 = some i → (∃ d, S[i]? = some (.ow d)) ∧ ∃ d, S2[i]? = some (.lk d)) ∧
      ((tpOf rv S1 = false ∧ Wk G (Itl K a) xu.1 Stay ∧ Seqs G (SqL K) a xu.1 Stay) ∨ (tpOf rv S1 = true ∧ Wk G (Itt K a) xu.1 Stay ∧ Seqs G (SqT K) a xu.1 Stay)) := by
  obtain ⟨Av1, P1, v1⟩ := P.vok st
  have none_u : ∀ {ds : List D} {T : SS} (i : Nat), (ds, (Option.none : Option Nat)).2 = some i → (∃ d, S[i]? = some (.ow d)) ∧ ∃ d, T[i]? = some (.lk d) := fun i z => nomatch z
  have lst : ∀ {ds : List D} {T : SS} {w : V}, Rep G Av1 H1 (.lst ds) w → Post G Av S σ H Av1 T H1 → ∃ a Av2 Stay, w = .ref a ∧ Post G Av S σ H Av2 T H1 ∧ Stay Av2 T σ H1 ∧ Wk G (Itl K a) ds Stay ∧ Seqs G (SqL K) a ds Stay := by
    rintro ds T w ⟨a, vs, rfl, n, h1, h2⟩ PT
    exact ⟨a, Av1, _, rfl, PT, ⟨n, h1, h2⟩, wk_lst K ds a vs, fun _ _ _ _ z => ⟨vs, SqL.of z.2.1, z.2.2⟩⟩
  have tup : ∀ {ds : List D} {T : SS} {w : V}, Rep G Av1 H1 (.tup ds) w → Post G Av S σ H Av1 T H1 → ∃ a Av2 Stay, w = .ref a ∧ Post G Av S σ H Av2 T H1 ∧ Stay Av2 T σ H1 ∧ Wk G (Itt K a) ds Stay ∧ Seqs G (SqT K) a ds Stay := by
    rintro ds T w ⟨a, vs, rfl, n, h1, h2⟩ PT
    exact ⟨a, Av1, _, rfl, PT, ⟨n, h1, h2⟩, wk_tup K ds a vs, fun _ _ _ _ z => ⟨vs, SqT.of z.2.1, z.2.2⟩⟩
  cases rv with
  | sh d =>
    cases d with
    | lst ds => cases e; obtain ⟨a, A, Y, q1, q2, q3, q4⟩ := lst v1 P1; exact ⟨a, A, Y, q1, q2, q3, none_u, .inl ⟨rfl, q4⟩⟩
    | tup ds => cases e; obtain ⟨a, A, Y, q1, q2, q3, q4⟩ := tup v1 P1; exact ⟨a, A, Y, q1, q2, q3, none_u, .inr ⟨rfl, q4⟩⟩
    | _ => cases e
  | fr d =>
    cases d with
    | lst ds => cases e; obtain ⟨a, A, Y, q1, q2, q3, q4⟩ := lst v1 P1; exact ⟨a, A, Y, q1, q2, q3, none_u, .inl ⟨rfl, q4⟩⟩
    | _ => cases e
  | br i =>
    obtain ⟨g1, g2⟩ := v1
    have e : Eng.lock S1 i = .ok xu S2 := e
    have et : tpOf (.br i) S1 = (match S1[i]? with
      | some (.sh (.tup _)) => true
      | _ => false) := rfl
    unfold Eng.lock at e
    split at e
    · rename_i ds e1
      cases e
      rw [e1] at et
      obtain ⟨a, k1, k2, ⟨a', vs, k3, k4, k5⟩, _⟩ := P1.st.ow i _ _ e1 rfl
      cases k3
      rw [show σ[i]? = some (some (.ref a)) from k1] at g1; cases g1
      obtain ⟨s0, d0, q0, m0⟩ := P1.roots i ⟨_, _, e1, rfl⟩
      have hS : ∃ d, S[i]? = some (.ow d) := by
        cases s0 with
        | ow d => exact ⟨d, q0⟩
        | io d => obtain ⟨d', z⟩ := P1.ios i d q0; rw [e1] at z; cases z
        | _ => cases m0
      refine ⟨a, Av1, _, rfl, P1.trans (Post.lock P1.st e1), ⟨set_eq e1, k1, k4, k5⟩, fun j z => ?_, .inl ⟨et, wk_lk K ds a vs i, fun _ _ _ _ z => ⟨vs, SqL.of z.2.2.1, z.2.2.2⟩⟩⟩
      cases z
      exact ⟨hS, _, set_eq e1⟩
    · rename_i ds e1
      cases e
      rw [e1] at et
      obtain ⟨v', k1, k2⟩ := P1.st.sh i _ e1
      rw [g1] at k1; cases k1
      obtain ⟨a, A, Y, q1, q2, q3, q4⟩ := lst k2 P1
      exact ⟨a, A, Y, q1, q2, q3, none_u, .inl ⟨et, q4⟩⟩
    · rename_i ds e1
      cases e
      rw [e1] at et
      obtain ⟨v', k1, k2⟩ := P1.st.sh i _ e1
      rw [g1] at k1; cases k1
      obtain ⟨a, A, Y, q1, q2, q3, q4⟩ := tup k2 P1
      exact ⟨a, A, Y, q1, q2, q3, none_u, .inr ⟨et, q4⟩⟩
    · rename_i ds e1
      cases e
      rw [e1] at et
      obtain ⟨a, k1, k2, ⟨a', vs, k3, k4, k5⟩, _⟩ := P1.st.ow i _ _ e1 rfl
      cases k3
      rw [show σ[i]? = some (some (.ref a)) from k1] at g1; cases g1
      exact ⟨a, Av1, _, rfl, P1, ⟨e1, k1, k4, k5⟩, none_u, .inl ⟨et, wk_lk K ds a vs i, fun _ _ _ _ z => ⟨vs, SqL.of z.2.2.1, z.2.2.2⟩⟩⟩
    · cases e
theorem items_exc {rv : RV} {S1 S2 : SS} {e : D} : itemsOf rv S1 ≠ .exc e S2 := by
  cases rv with
  | sh d => cases d <;> exact fun h => nomatch h
  | fr d => cases d <;> exact fun h => nomatch h
  | br i =>
    intro h
    have h : Eng.lock S1 i = .exc e S2 := h
    unfold Eng.lock at h
    split at h <;> cases h
theorem i_val (hl : PE X l (tE G W p)) : PI X tg l (tI G W (kItv p)) := PI_imp (pi_seq hl) fun σ H R ⟨Av, S, st, h⟩ => by
  refine ⟨Av, S, st, ?_⟩
  unfold kItv at h
  cases e : p S with
  | bad => rw [e] at h; exact h
  | exc x S1 => rw [e] at h; exact h
  | ok rv S1 =>
    rw [e] at h
    have h : RdI G W (itemsOf rv S1) Av S σ H R := h
    intro v H1 P
    cases ei : itemsOf rv S1 with
    | bad => rw [ei] at h; exact h.elim
    | exc x S2 => exact (items_exc ei).elim
    | ok xu S2 =>
      rw [ei] at h
      obtain ⟨a, Av2, Stay, rfl, P2, stay, hu, both⟩ := items_wk (K := X.K) st P ei
      rcases both with ⟨_, wk, sq⟩ | ⟨_, wk, sq⟩
      · exact ⟨a, rfl, .inl ⟨let ⟨vs, q, _⟩ := sq _ _ _ _ stay; ⟨vs, q⟩, h Av2 H1 _ _ P2 wk stay hu⟩⟩
      · exact ⟨a, rfl, .inr ⟨let ⟨vs, q, _⟩ := sq _ _ _ _ stay; ⟨vs, q⟩, h Av2 H1 _ _ P2 wk stay hu⟩⟩
theorem rngOk_some {i j : Int} (h : rngOk i j = true) : -(2 ^ 62) ≤ i ∧ i < 2 ^ 62 ∧ -(2 ^ 62) ≤ j ∧ j < 2 ^ 62 := by
  unfold rngOk at h
  simp only [decide_eq_true_eq, Bool.and_eq_true] at h
  exact ⟨h.1.1.1, h.1.1.2, h.1.2, h.2⟩
theorem i_rng1 (hg : Gl X "range") (hm : X.mg "range" = none) (ha : PE X a (tE G W p)) (hs : starEach [a] X.env = [(false, eval a X.env)]) : PI X tg (.Call (.Name "range" pp) [a] [] pos) (tI G W (kRng1 p)) :=
  PI_imp (pi_range1 hg hm (pa_cons ha pa_nil hs) hs) fun σ H R ⟨Av, S, st, h⟩ => by
    refine ⟨Av, S, st, ?_⟩
    unfold kRng1 at h
    cases e : p S with
    | bad => rw [e] at h; exact h
    | exc x S1 => rw [e] at h; exact h
    | ok rv S1 =>
      rw [e] at h
      have h : RdI G W (match deref S1 rv.vw with
        | some (.int j) => if rngOk 0 j then Eng.R.ok (rangeD 0 j.toNat, none) S1 else .bad
        | _ => .bad) Av S σ H R := h
      intro v H1 P
      obtain ⟨Av1, P1, v1⟩ := P.vok st
      split at h
      · rename_i j ej
        split at h
        · rename_i hz
          obtain ⟨z1, z2, z3, z4⟩ := rngOk_some hz
          cases (v1.vx P1.st ej).int
          exact ⟨j, rfl, z3, z4, h Av1 H1 _ _ P1 (wk_rng 0 j.toNat) True.intro fun i z => nomatch z⟩
        · exact h.elim
      · exact h.elim
theorem i_rng2 (hg : Gl X "range") (hm : X.mg "range" = none) (ha : PE X a (tE G W p)) (hb : PE X b (tE G W q)) (hs : starEach [a, b] X.env = [(false, eval a X.env), (false, eval b X.env)]) (hs2 : starEach [b] X.env = [(false, eval b X.env)]) :
    PI X tg (.Call (.Name "range" pp) [a, b] [] pos) (tI G W (kRng2 p q)) :=
  PI_imp (pi_range2 hg hm (pa_cons ha (pa_cons hb pa_nil hs2) (by rw [hs, hs2])) hs hs2) fun σ H R ⟨Av, S, st, h⟩ => by
    refine ⟨Av, S, st, ?_⟩
    unfold kRng2 at h
    cases e : p S with
    | bad => rw [e] at h; exact h
    | exc x S1 => rw [e] at h; exact h
    | ok rv S1 =>
      rw [e] at h
      intro v H1 P
      obtain ⟨Av1, P1, v1⟩ := P.vok st
      refine ⟨Av1, S1, P1.st, ?_⟩
      have h : RdI G W ((q S1).bind fun t S2 => match deref S2 rv.vw, deref S2 t.vw with
        | some (.int i), some (.int j) => if rngOk i j then Eng.R.ok (rangeD i (j - i).toNat, none) S2 else .bad
        | _, _ => .bad) Av S σ H R := h
      cases e2 : q S1 with
      | bad => rw [e2] at h; exact h
      | exc x S2 => rw [e2] at h; exact fun c d H' z => h c d H' (z.trans P1)
      | ok t S2 =>
        rw [e2] at h
        intro u H2 Q2
        obtain ⟨Av2, P2, u2⟩ := Q2.vok P1.st
        have h : RdI G W (match deref S2 rv.vw, deref S2 t.vw with
          | some (.int i), some (.int j) => if rngOk i j then Eng.R.ok (rangeD i (j - i).toNat, none) S2 else .bad
          | _, _ => .bad) Av S σ H R := h
        split at h
        · rename_i i j ei ej
          split at h
          · rename_i hz
            obtain ⟨z1, z2, z3, z4⟩ := rngOk_some hz
            cases ((v1.on P1.st P2).vx P2.st ei).int
            cases (u2.vx P2.st ej).int
            exact ⟨i, j, rfl, ⟨z1, z2, z3, z4⟩, h Av2 H2 _ _ (P1.trans P2) (wk_rng i (j - i).toNat) True.intro fun i z => nomatch z⟩
          · exact h.elim
        · exact h.elim
end
end Eng

namespace Eng
open PySem PySem.Spec L2
open PyProof.Rows hiding St
section
variable {X : Cx} {G : Gs} {W : WX} {e l a b : Expr} {p q : KE} {pos pp : Pos}
theorem enum_len : ∀ (i : Nat) (ds : List D), (enumD i ds).length = ds.length
  | _, [] => rfl
  | i, d :: ds => by unfold enumD; rw [List.length_cons, enum_len (i + 1) ds, List.length_cons]
theorem enum_get : ∀ (i : Nat) (ds : List D) (j : Nat) (x : D), (enumD i ds)[j]? = some x → ∃ d, ds[j]? = some d ∧ x = .tup [.int ((i + j : Nat) : Int), d]
  | _, [], j, x, h => by simp [enumD] at h
  | i, d :: ds, 0, x, h => by
    unfold enumD at h
    have h : some (D.tup [.int (i : Nat), d]) = some x := h
    cases h
    exact ⟨d, rfl, rfl⟩
  | i, d :: ds, j + 1, x, h => by
    unfold enumD at h
    obtain ⟨d', h1, h2⟩ := enum_get (i + 1) ds j x (show (enumD (i + 1) ds)[j]? = some x from h)
    refine ⟨d', h1, ?_⟩
    rw [h2, show i + 1 + j = i + (j + 1) by omega]
theorem rep_pair {Av : Addr → Prop} {H : Hp} {T : Addr} {d e : D} {x y : V} (n : H T = none) (hT : ¬ Av T) (h1 : Rep G Av H d x) (h2 : Rep G Av H e y) : Rep G Av (upd H T (.tup [x, y])) (.tup [d, e]) (.ref T) :=
  ⟨T, [x, y], rfl, hT, upd_same, x, [y], rfl, h1.mono (fun a o q _ _ => ext_upd n a o q) (fun a q => .inl q), y, [], rfl, h2.mono (fun a o q _ _ => ext_upd n a o q) (fun a q => .inl q), rfl⟩
theorem wk_enum {K : PySem.W.Frag} {a : Addr} {ds : List D} {Stay : (Addr → Prop) → SS → St → Hp → Prop} (wk : Wk G (Itl K a) ds Stay) (sq : Seqs G (SqL K) a ds Stay) : Wk G (Ite K a) (enumD 0 ds) Stay where
  go := fun Av S σ H i s hi => by
    obtain ⟨vs, h1, h2⟩ := sq _ _ _ _ s
    rw [enum_len, ← h2.length] at hi
    exact ⟨vs, vs[i], h1, List.getElem?_eq_getElem _⟩
  stop := fun Av S σ H i s hi => by
    obtain ⟨vs, h1, h2⟩ := sq _ _ _ _ s
    rw [enum_len, ← h2.length] at hi
    exact ⟨vs, h1, hi⟩
  yld := fun Av S σ H i x H' d st s hy hd => by
    obtain ⟨vs, h1, h2⟩ := sq _ _ _ _ s
    obtain ⟨T, y, rfl, n, rfl, hy⟩ := hy
    obtain ⟨d', k1, rfl⟩ := enum_get 0 ds i d hd
    obtain ⟨v, g1, g2⟩ := h2.get' k1
    rw [hy vs h1] at g1
    cases g1
    have nT : ¬ Av T := fun z => by obtain ⟨o, w, _⟩ := st.dom T z; rw [n] at w; cases w
    rw [Nat.zero_add]
    exact ⟨ext_upd n, rep_pair n nT rfl g2⟩
  keep := wk.keep
  touch := wk.touch
theorem i_enum {elts : List Expr} {kk : Nat} {tpos : Pos} (hg : Gl X "enumerate") (hm : X.mg "enumerate" = none) (ha : PE X a (tE G W p)) (hs : starEach [a] X.env = [(false, eval a X.env)]) : PI X (.Tuple elts kk tpos) (.Call (.Name "enumerate" pp) [a] [] pos) (tI G W (kEnum p)) :=
  PI_imp (pi_enum hg hm (pa_cons ha pa_nil hs) hs) fun σ H R ⟨Av, S, st, h⟩ => by
    refine ⟨Av, S, st, ?_⟩
    unfold kEnum at h
    cases e : p S with
    | bad => rw [e] at h; exact h
    | exc x S1 => rw [e] at h; exact h
    | ok rv S1 =>
      rw [e] at h
      intro v H1 P
      have h : RdI G W (if tpOf rv S1 then .bad else (itemsOf rv S1).bind fun xu S2 => .ok (enumD 0 xu.1, xu.2) S2) Av S σ H R := h
      split at h
      · exact h.elim
      · rename_i ht
        cases ei : itemsOf rv S1 with
        | bad => rw [ei] at h; exact h.elim
        | exc x S2 => exact (items_exc ei).elim
        | ok xu S2 =>
          rw [ei] at h
          obtain ⟨a', Av2, Stay, rfl, P2, stay, hu, both⟩ := items_wk (K := X.K) st P ei
          rcases both with ⟨_, wk, sq⟩ | ⟨z, _⟩
          · exact ⟨a', _, rfl, (sq _ _ _ _ stay).choose_spec.1, h Av2 H1 _ _ P2 (wk_enum wk sq) stay hu⟩
          · exact absurd z ht
/-! ### zip -/
theorem zip_len : ∀ (ds es : List D), (zipD ds es).length = min ds.length es.length
  | [], es => by simp [zipD]
  | _ :: _, [] => by simp [zipD]
  | d :: ds, e :: es => by simp [zipD, zip_len ds es] <;> omega
theorem zip_get' : ∀ (ds es : List D) (j : Nat) (x : D), (zipD ds es)[j]? = some x → ∃ d e, ds[j]? = some d ∧ es[j]? = some e ∧ x = .tup [d, e]
  | [], es, j, x, h => by simp [zipD] at h
  | _ :: _, [], j, x, h => by simp [zipD] at h
  | d :: ds, e :: es, 0, x, h => by
    have h : some (D.tup [d, e]) = some x := h
    cases h
    exact ⟨d, e, rfl, rfl, rfl⟩
  | d :: ds, e :: es, j + 1, x, h => zip_get' ds es j x h
theorem wk_zipL (K : PySem.W.Frag) (ds es : List D) (a b : Addr) (vs us : List V) : Wk G (Itz K a b) (zipD ds es) (fun Av S σ H => (¬ Av a ∧ H a = some (.lst vs) ∧ Reps G Av H ds vs) ∧ ¬ Av b ∧ H b = some (.lst us) ∧ Reps G Av H es us) where
  go := fun Av S σ H i ⟨⟨_, h1, r1⟩, _, h2, r2⟩ hi => by
    rw [zip_len, ← r1.length, ← r2.length] at hi
    exact ⟨vs, us, vs[i]'(by omega), us[i]'(by omega), SqL.of h1, SqL.of h2, List.getElem?_eq_getElem _, List.getElem?_eq_getElem _⟩
  stop := fun Av S σ H i ⟨⟨_, h1, r1⟩, _, h2, r2⟩ hi => by
    rw [zip_len, ← r1.length, ← r2.length] at hi
    exact ⟨vs, us, SqL.of h1, SqL.of h2, by omega⟩
  yld := fun Av S σ H i x H' d st ⟨⟨_, h1, r1⟩, _, h2, r2⟩ hy hd => by
    obtain ⟨T, x', y', rfl, n, rfl, g1, g2⟩ := hy
    obtain ⟨d', e', k1, k2, rfl⟩ := zip_get' ds es i d hd
    obtain ⟨v, q1, q2⟩ := r1.get' k1
    obtain ⟨u, q3, q4⟩ := r2.get' k2
    rw [g1 vs (SqL.of h1)] at q1; cases q1
    rw [g2 us (SqL.of h2)] at q3; cases q3
    exact ⟨ext_upd n, rep_pair n (fun z => by obtain ⟨o, w, _⟩ := st.dom T z; rw [n] at w; cases w) q2 q4⟩
  keep := fun Av S σ H Av' S' σ' H' st P ⟨s1, s2⟩ => ⟨(wk_lst (G := G) K ds a vs).keep Av S σ H Av' S' σ' H' st P s1, (wk_lst (G := G) K es b us).keep Av S σ H Av' S' σ' H' st P s2⟩
  touch := fun Av S σ H D o ⟨s1, s2⟩ hD hn => ⟨(wk_lst (G := G) K ds a vs).touch Av S σ H D o s1 hD hn, (wk_lst (G := G) K es b us).touch Av S σ H D o s2 hD hn⟩
theorem wk_zipT (K : PySem.W.Frag) (ds es : List D) (a b : Addr) (vs us : List V) : Wk G (RZ.ItzT K a b) (zipD ds es) (fun Av S σ H => (¬ Av a ∧ H a = some (.tup vs) ∧ Reps G Av H ds vs) ∧ ¬ Av b ∧ H b = some (.tup us) ∧ Reps G Av H es us) where
  go := fun Av S σ H i ⟨⟨_, h1, r1⟩, _, h2, r2⟩ hi => by
    rw [zip_len, ← r1.length, ← r2.length] at hi
    exact ⟨vs, us, vs[i]'(by omega), us[i]'(by omega), SqT.of h1, SqT.of h2, List.getElem?_eq_getElem _, List.getElem?_eq_getElem _⟩
  stop := fun Av S σ H i ⟨⟨_, h1, r1⟩, _, h2, r2⟩ hi => by
    rw [zip_len, ← r1.length, ← r2.length] at hi
    exact ⟨vs, us, SqT.of h1, SqT.of h2, by omega⟩
  yld := fun Av S σ H i x H' d st ⟨⟨_, h1, r1⟩, _, h2, r2⟩ hy hd => by
    obtain ⟨T, x', y', rfl, n, rfl, g1, g2⟩ := hy
    obtain ⟨d', e', k1, k2, rfl⟩ := zip_get' ds es i d hd
    obtain ⟨v, q1, q2⟩ := r1.get' k1
    obtain ⟨u, q3, q4⟩ := r2.get' k2
    rw [g1 vs (SqT.of h1)] at q1; cases q1
    rw [g2 us (SqT.of h2)] at q3; cases q3
    exact ⟨ext_upd n, rep_pair n (fun z => by obtain ⟨o, w, _⟩ := st.dom T z; rw [n] at w; cases w) q2 q4⟩
  keep := fun Av S σ H Av' S' σ' H' st P ⟨s1, s2⟩ => ⟨(wk_tup (G := G) K ds a vs).keep Av S σ H Av' S' σ' H' st P s1, (wk_tup (G := G) K es b us).keep Av S σ H Av' S' σ' H' st P s2⟩
  touch := fun Av S σ H D o ⟨s1, s2⟩ hD hn => ⟨(wk_tup (G := G) K ds a vs).touch Av S σ H D o s1 hD hn, (wk_tup (G := G) K es b us).touch Av S σ H D o s2 hD hn⟩
theorem i_zip {elts : List Expr} {kk : Nat} {tpos : Pos} (hg : Gl X "zip") (hm : X.mg "zip" = none) (ha : PE X a (tE G W p)) (hb : PE X b (tE G W q)) (hs : starEach [a, b] X.env = (false, eval a X.env) :: starEach [b] X.env) (hs2 : starEach [b] X.env = (false, eval b X.env) :: starEach [] X.env) (hpl : (backTo pos (starEach [b] X.env)).any (·.1) = false) :
    PI X (.Tuple elts kk tpos) (.Call (.Name "zip" pp) [a, b] [] pos) (tI G W (kZip (kShr p) (kShr q))) :=
  PI_imp (RZ.pi_zipA hg hm (pa_cons (s_shr ha) (pa_cons (s_shr hb) pa_nil hs2) hs) hs hpl) fun σ H R ⟨Av, S, st, h⟩ => by
    refine ⟨Av, S, st, ?_⟩
    unfold kZip at h
    cases e1 : kShr p S with
    | bad => rw [e1] at h; exact h
    | exc x S1 => rw [e1] at h; exact h
    | ok d S1 =>
      rw [e1] at h
      intro Av1 v H1 P1 r1
      refine ⟨Av1, S1, P1.st, ?_⟩
      have h : RdI G W ((kShr q S1).bind fun e S2 => match seqSh d, seqSh e with
        | some (b, ds), some (c, es) => if b = c then Eng.R.ok (zipD ds es, Option.none) S2 else .bad
        | _, _ => .bad) Av S σ H R := h
      cases e2 : kShr q S1 with
      | bad => rw [e2] at h; exact h
      | exc x S2 => rw [e2] at h; exact fun c d H' z => h c d H' (z.trans P1)
      | ok e' S2 =>
        rw [e2] at h
        intro Av2 u H2 P2 r2
        have r1 := P2.rep P1.st r1
        have h : RdI G W (match seqSh d, seqSh e' with
          | some (b, ds), some (c, es) => if b = c then Eng.R.ok (zipD ds es, Option.none) S2 else .bad
          | _, _ => .bad) Av S σ H R := h
        cases d with
        | lst ds =>
          cases e' with
          | lst es =>
            obtain ⟨a', vs, rfl, n1, g1, g2⟩ := r1
            obtain ⟨b', us, rfl, n2, g3, g4⟩ := r2
            exact ⟨a', b', vs, us, rfl, .inl ⟨SqL.of g1, SqL.of g3, h Av2 H2 _ _ (P1.trans P2) (wk_zipL X.K ds es a' b' vs us) ⟨⟨n1, g1, g2⟩, n2, g3, g4⟩ fun i z => nomatch z⟩⟩
          | _ => exact h.elim
        | tup ds =>
          cases e' with
          | tup es =>
            obtain ⟨a', vs, rfl, n1, g1, g2⟩ := r1
            obtain ⟨b', us, rfl, n2, g3, g4⟩ := r2
            exact ⟨a', b', vs, us, rfl, .inr ⟨SqT.of g1, SqT.of g3, h Av2 H2 _ _ (P1.trans P2) (wk_zipT X.K ds es a' b' vs us) ⟨⟨n1, g1, g2⟩, n2, g3, g4⟩ fun i z => nomatch z⟩⟩
          | _ => exact h.elim
        | _ => cases e' <;> exact h.elim
end
end Eng

namespace Eng
open PySem PySem.Spec L2
open PyProof.Rows hiding St

/-! ### an owned object changes -/
section
variable {G : Gs} {Av Av1 Av2 : Addr → Prop} {S S1 S2 S' : SS} {σ σ1 σ2 : St} {H H1 H2 : Hp}
theorem setAt_get {i : Nat} {d : D} (e : setAt S i d = some S') : (∃ s, (S[i]? = some s ∧ s.mu.isSome = true) ∧ ((∃ d0, s = .ow d0 ∧ S' = S.set i (.ow d)) ∨ (∃ d0, s = .io d0 ∧ S' = S.set i (.io d)))) := by
  unfold setAt at e
  split at e
  · rename_i d0 h; cases e; exact ⟨_, ⟨h, rfl⟩, .inl ⟨d0, rfl, rfl⟩⟩
  · rename_i d0 h; cases e; exact ⟨_, ⟨h, rfl⟩, .inr ⟨d0, rfl, rfl⟩⟩
  · cases e
theorem Post.mutate (st : StOk G Av S σ H) {i : Nat} {d' : D} {p : Addr} {o : HO} (e : setAt S i d' = some S') (hp : At σ i p) (hv : Vw G Av (upd H p o) d' (.ref p)) (hm : MutD d' = true) : Post G Av S σ H Av S' (upd H p o) := by
  obtain ⟨s, ⟨hs, hmu⟩, hk⟩ := setAt_get e
  obtain ⟨d0, hmu⟩ := Option.isSome_iff_exists.mp hmu
  have own : Owns S i := ⟨s, d0, hs, hmu⟩
  obtain ⟨p', h1, hAv, _⟩ := st.ow i s d0 hs (s.mu_rt hmu)
  cases h1.inj hp
  obtain ⟨s', e', rt', mu', io'⟩ : ∃ s', S' = S.set i s' ∧ s'.rt = some d' ∧ s'.mu = some d' ∧ ((∃ x, s = .io x) → ∃ x, s' = .io x) := by
    rcases hk with ⟨x, rfl, rfl⟩ | ⟨x, rfl, rfl⟩
    · exact ⟨_, rfl, rfl, rfl, fun ⟨_, z⟩ => nomatch z⟩
    · exact ⟨_, rfl, rfl, rfl, fun _ => ⟨_, rfl⟩⟩
  subst e'
  have nlk : ∀ x, s ≠ .lk x := fun x z => by subst z; cases hmu
  have root : Root S σ p := ⟨i, own, hp⟩
  have ne : ∀ {a}, ¬ Root S σ a → a ≠ p := fun n z => n (z ▸ root)
  have get : ∀ {j x}, (S.set i s')[j]? = some x → (j = i ∧ x = s') ∨ (j ≠ i ∧ S[j]? = some x) := fun q => get_set_cases q
  have hol : ∀ {j}, Holds (S.set i s') j → Holds S j := fun {j} ⟨x, y, q, r⟩ => by
    rcases get q with ⟨rfl, _⟩ | ⟨_, q⟩
    · exact own.holds
    · exact ⟨x, y, q, r⟩
  have keep : ∀ {d v}, Rep G Av H d v → Rep G Av (upd H p o) d v := fun h => h.touch hAv
  refine ⟨fun a u q n _ => by rw [upd_ne (ne n)]; exact q, fun a u q => ?_, fun a q => .inl q, fun a q _ => q, fun j ⟨x, y, q, r⟩ => ?_, fun j h => hol h, fun j h => ?_, fun j x q => ?_, fun j x q => ?_, ⟨by rw [List.length_set]; exact st.len, fun a q => ?_, tabs_upd st.tb (fun u e => by obtain ⟨w, e', m⟩ := st.dom _ hAv; rw [e] at e'; cases e'; exact m), fun j x q => ?_, fun j x y q r => ?_, fun j k a h1 h2 => st.dis j k a (hol h1) (hol h2)⟩⟩
  · by_cases z : a = p
    · subst z; exact ⟨o, upd_same⟩
    · exact ⟨u, by rw [upd_ne z]; exact q⟩
  · rcases get q with ⟨rfl, _⟩ | ⟨_, q⟩
    · exact own
    · exact ⟨x, y, q, r⟩
  · by_cases z : j = i
    · subst z; exact ⟨s', d', set_eq hs, s'.rt_dat rt'⟩
    · obtain ⟨x, y, q, r⟩ := h; exact ⟨x, y, by rw [set_ne z]; exact q, r⟩
  · by_cases z : j = i
    · subst z
      rw [hs] at q; cases q
      obtain ⟨x', rfl⟩ := io' ⟨x, rfl⟩
      exact ⟨x', set_eq hs⟩
    · exact ⟨x, by rw [set_ne z]; exact q⟩
  · have z : j ≠ i := fun z => by subst z; rw [hs] at q; cases q; exact nlk x rfl
    rw [set_ne z]; exact q
  · by_cases z : a = p
    · subst z
      obtain ⟨w, e1, m⟩ := hv.muN hm
      exact ⟨w, e1, m⟩
    · rw [upd_ne z]; exact st.dom a q
  · rcases get q with ⟨_, z⟩ | ⟨_, q⟩
    · subst z; cases rt'
    · obtain ⟨v, h1, h2⟩ := st.sh j x q
      exact ⟨v, h1, keep h2⟩
  · by_cases z : j = i
    · subst z
      rw [set_eq hs] at q; cases q
      rw [rt'] at r; cases r
      exact ⟨p, hp, hAv, hv, hm⟩
    · rw [set_ne z] at q
      obtain ⟨a, h1, h2, h3, h4⟩ := st.ow j x y q r
      exact ⟨a, h1, h2, h3.touch hAv fun w => z (st.dis j i p ⟨x, y, q, r⟩ own.holds (by cases w; exact h1) hp), h4⟩

/-! ### a value that is carried, to be stored -/
def CVOk (G : Gs) (Av : Addr → Prop) (S : SS) (σ : St) (H : Hp) (v : V) (rv : RV) : Prop := match rv with
  | RV.sh d => Rep G Av H d v
  | .fr d => ∃ p, v = .ref p ∧ Av p ∧ (∀ i, Holds S i → ¬ At σ i p) ∧ Vw G Av H d v ∧ MutD d = true
  | .br _ => False
theorem CVOk.on {v : V} {rv : RV} (h : CVOk G Av S σ H v rv) (st : StOk G Av S σ H) (P : Post G Av S σ H Av1 S1 H1) : CVOk G Av1 S1 σ H1 v rv := by
  cases rv with
  | sh d => exact P.rep st h
  | fr d =>
    obtain ⟨p, rfl, h1, h2, h3, h4⟩ := h
    have nr : ¬ Root S σ p := fun ⟨i, hi, ai⟩ => h2 i hi.holds ai
    exact ⟨p, rfl, P.held p h1 nr, fun i hi => h2 i (P.holds i hi), P.vw st h3 fun a e => by cases e; exact nr, h4⟩
  | br i => exact h.elim
/-- it is stored in a free slot -/
theorem CVOk.put {v : V} {rv : RV} {i : Nat} (h : CVOk G Av S σ H v rv) (st : StOk G Av S σ H) (hf : freeAt S i = true) : StOk G Av (S.set i rv.sv) (σ.set i (some v)) H ∧ (∀ a, Root (S.set i rv.sv) (σ.set i (some v)) a → Root S σ a ∨ (v = .ref a ∧ ∃ d, rv = .fr d)) ∧
    (∀ (j : Nat) e, S[j]? = some (.io e) ∨ S[j]? = some (.lk e) → (S.set i rv.sv)[j]? = S[j]? ∧ (σ.set i (some v))[j]? = σ[j]?) := by
  have ni : ∀ (j : Nat) e, S[j]? = some (.io e) ∨ S[j]? = some (.lk e) → j ≠ i := fun j e h z => by
    subst z
    obtain ⟨s, hs, hk⟩ := freeAt_get hf
    rw [hs] at h
    rcases hk with rfl | ⟨x, rfl⟩ | ⟨x, rfl⟩ <;> (rcases h with h | h <;> cases h)
  cases rv with
  | sh d =>
    have P := st.put hf h
    have hfr : ∀ a o, H a = some o → H a = none → False := fun a o z w => by rw [z] at w; cases w
    refine ⟨P.st, fun a r => ?_, fun j e z => ⟨set_ne (ni j e z), set_ne (ni j e z)⟩⟩
    rcases P.roots a r with z | z
    · exact .inl z
    · obtain ⟨o, w, _⟩ := P.st.dom a (r.av P.st)
      exact (hfr a o w z).elim
  | fr d =>
    obtain ⟨p, rfl, h1, h2, h3, h4⟩ := h
    obtain ⟨q1, q2, q3⟩ := st.putO hf h3 h4 h1 h2
    exact ⟨q1, fun a r => (q2 a r).imp id fun z => ⟨by rw [z], d, rfl⟩, q3⟩
  | br j => exact h.elim
end
section
variable {G : Gs} {W : WX} {Av Av1 Av2 : Addr → Prop} {S S1 S2 S' : SS} {σ σ1 σ2 : St} {H H1 H2 : Hp} {D : Ends}
theorem EPost.cap {rv r : RV} {v : V} (st : StOk G Av S σ H) (p : EPost G Av S σ H rv S1 v H1) (e : Eng.cap rv S1 = .ok r S2) : ∃ Av', Post G Av S σ H Av' S2 H1 ∧ CVOk G Av' S2 σ H1 v r := by
  cases rv with
  | sh d => cases e; obtain ⟨Av', P, q⟩ := p.ex; exact ⟨Av', P, q⟩
  | fr d =>
    cases e
    obtain ⟨Av', P, a, rfl, h1, h2, h3, h4⟩ := p.ex
    exact ⟨Av', P, a, rfl, h1, P.new_apart st h2, h3, h4⟩
  | br i =>
    cases es : shr (.br i) S1 with
    | ok d S3 =>
      have e : (shr (.br i) S1).bind (fun d S1 => .ok (.sh d) S1) = R.ok r S2 := e
      rw [es] at e
      cases e
      obtain ⟨Av', P, q⟩ := (p.shared st es).ex
      exact ⟨Av', P, q⟩
    | exc x S3 => exact (shr_exc es).elim
    | bad =>
      have e : (shr (.br i) S1).bind (fun d S1 => .ok (.sh d) S1) = R.ok r S2 := e
      rw [es] at e; cases e
theorem cap_exc {rv : RV} {S S' : SS} {e : Eng.D} : Eng.cap rv S ≠ .exc e S' := by
  cases rv with
  | sh d => exact fun h => nomatch h
  | fr d => exact fun h => nomatch h
  | br i =>
    intro h
    have h : (shr (.br i) S).bind (fun d S1 => .ok (RV.sh d) S1) = R.exc e S' := h
    cases es : shr (.br i) S with
    | ok d S3 => rw [es] at h; cases h
    | exc x S3 => exact (shr_exc es).elim
    | bad => rw [es] at h; cases h

/-! ### what a statement does -/
/-- behind a raise -/
structure SXPost (G : Gs) (Av : Addr → Prop) (S : SS) (σ : St) (H : Hp) (e : Eng.D) (S' : SS) (σ' : St) (cls : Value) (dx : Option Addr) (H' : Hp) : Prop where
  ex : ∃ Av', SPost G Av S σ H Av' S' σ' H' ∧ ∃ c ns ds, e = .exo c ns ds ∧ cls = .ref (G.c c) ∧ ∃ a vs, dx = some a ∧ ¬ Av' a ∧ H' a = some (.xd (ns.zip vs)) ∧ ns.length = vs.length ∧ Reps G Av' H' ds vs
/-- what is handed back -/
def RtOk (G : Gs) (Av : Addr → Prop) (S : SS) (σ : St) (H : Hp) (Av' : Addr → Prop) (S' : SS) (σ' : St) (H' : Hp) (fr : Bool) (d : Eng.D) (v : V) : Prop :=
  if fr then ∃ p, v = .ref p ∧ Av' p ∧ (Root S σ p ∨ H p = none) ∧ (∀ i, Holds S' i → ¬ At σ' i p) ∧ Vw G Av' H' d v ∧ MutD d = true else Rep G Av' H' d v
variable (G W) in
def RdS (r : F) (Av : Addr → Prop) (S : SS) (σ : St) (H : Hp) (D : Ends) : Prop := match r with
  | .nx S' => ∀ Av' σ' H', SPost G Av S σ H Av' S' σ' H' → D.nx σ' H'
  | .bk S' => ∀ Av' σ' H', SPost G Av S σ H Av' S' σ' H' → D.bk σ' H'
  | .ct S' => ∀ Av' σ' H', SPost G Av S σ H Av' S' σ' H' → D.ct σ' H'
  | .rt fr d S' => ∀ Av' σ' v H', SPost G Av S σ H Av' S' σ' H' → RtOk G Av S σ H Av' S' σ' H' fr d v → D.rt v H'
  | .exc e S' => ∀ cls d σ' H', SXPost G Av S σ H e S' σ' cls d H' → W cls d σ' H'
  | .bad => False
variable (G W) in
def tS (f : SS → F) : TS := fun D σ H => ∃ Av S, StOk G Av S σ H ∧ RdS G W (f S) Av S σ H D
theorem SXPost.trans (st : StOk G Av S σ H) {e : Eng.D} {S2 : SS} {c : Value} {d : Option Addr} (p : SPost G Av S σ H Av1 S1 σ1 H1) (q : SXPost G Av1 S1 σ1 H1 e S2 σ2 c d H2) : SXPost G Av S σ H e S2 σ2 c d H2 := by
  obtain ⟨Av2, P, r⟩ := q.ex
  exact ⟨Av2, SPost.trans st p P, r⟩
theorem RtOk.trans (p : SPost G Av S σ H Av1 S1 σ1 H1) {fr : Bool} {d : Eng.D} {v : V} (r : RtOk G Av1 S1 σ1 H1 Av2 S2 σ2 H2 fr d v) : RtOk G Av S σ H Av2 S2 σ2 H2 fr d v := by
  unfold RtOk at *
  cases fr with
  | false => exact r
  | true =>
    simp only [if_true] at *
    obtain ⟨a, h1, h2, h3, h4⟩ := r
    refine ⟨a, h1, h2, ?_, h4⟩
    rcases h3 with z | z
    · exact p.roots a z
    · exact .inr (p.back_none z)
theorem RdS.trans (st : StOk G Av S σ H) {r : F} (p : SPost G Av S σ H Av1 S1 σ1 H1) (h : RdS G W r Av S σ H D) : RdS G W r Av1 S1 σ1 H1 D := by
  cases r with
  | nx S' => exact fun Av' σ' H' q => h Av' σ' H' (SPost.trans st p q)
  | bk S' => exact fun Av' σ' H' q => h Av' σ' H' (SPost.trans st p q)
  | ct S' => exact fun Av' σ' H' q => h Av' σ' H' (SPost.trans st p q)
  | rt fr d S' => exact fun Av' σ' v H' q r => h Av' σ' v H' (SPost.trans st p q) (r.trans p)
  | exc e S' => exact fun c d σ' H' q => h c d σ' H' (q.trans st p)
  | bad => exact h
theorem XPost.s {e : Eng.D} {S' : SS} {c : Value} {d : Option Addr} {H' : Hp} (x : XPost G Av S σ H e S' c d H') : SXPost G Av S σ H e S' σ c d H' := by
  obtain ⟨Av', P, r⟩ := x.ex
  exact ⟨Av', P.s, r⟩
theorem tS_bind {p : KE} {f : RV → SS → F} {Q' : VK} (st : StOk G Av S σ H) (h : RdS G W ((p S).toF f) Av S σ H D)
    (k : ∀ rv S1 v H1, EPost G Av S σ H rv S1 v H1 → RdS G W (f rv S1) Av S σ H D → Q' v H1) : tE G W p σ H Q' := by
  refine ⟨Av, S, st, ?_⟩
  cases e : p S with
  | ok rv S1 => rw [e] at h; exact fun v H1 q => k rv S1 v H1 q h
  | exc x S1 => rw [e] at h; exact fun c d H' q => h c d σ H' q.s
  | bad => rw [e] at h; exact h
theorem tS_bindT {p : KT} {f : Bool → SS → F} {Q' : Bool → Hp → Prop} (st : StOk G Av S σ H) (h : RdS G W ((p S).toF f) Av S σ H D)
    (k : ∀ b S1 Av1 H1, Post G Av S σ H Av1 S1 H1 → RdS G W (f b S1) Av S σ H D → Q' b H1) : tT G W p σ H Q' := by
  refine ⟨Av, S, st, ?_⟩
  cases e : p S with
  | ok b S1 => rw [e] at h; exact fun Av1 H1 q => k b S1 Av1 H1 q h
  | exc x S1 => rw [e] at h; exact fun c d H' q => h c d σ H' q.s
  | bad => rw [e] at h; exact h
theorem tS_bind1 {γ : Type} {E : ER γ} {p : SS → R γ} {f : γ → SS → F} {Q' : VK} (st : StOk G Av S σ H) (h : RdS G W ((p S).toF f) Av S σ H D)
    (k : ∀ x S1 Av1 v H1, Post G Av S σ H Av1 S1 H1 → E Av1 S1 σ H1 x v → RdS G W (f x S1) Av S σ H D → Q' v H1) : t1 G W E p σ H Q' := by
  refine ⟨Av, S, st, ?_⟩
  cases e : p S with
  | ok rv S1 => rw [e] at h; exact fun Av1 v H1 q r => k rv S1 Av1 v H1 q r h
  | exc x S1 => rw [e] at h; exact fun c d H' q => h c d σ H' q.s
  | bad => rw [e] at h; exact h
end
end Eng

namespace Eng
open PySem PySem.Spec L2
open PyProof.Rows hiding St
section
variable {X : Cx} {G : Gs} {W : WX} {e a b c o i : Expr} {st : Stmt} {rest body : List Stmt} {pos pp : Pos} {p q : KE} {t : KT} {f g : SS → F}

theorem PS_imp {t t' : TS} (h : PS X st t') (k : ∀ D σ H, t D σ H → t' D σ H) : PS X st t := ⟨fun pins s σ H D I w => h.run pins s σ H D I (k D σ H w)⟩
theorem PSs_imp {t t' : TS} (h : PSs X rest t') (k : ∀ D σ H, t D σ H → t' D σ H) : PSs X rest t := ⟨fun pins s σ H D I w => h.run pins s σ H D I (k D σ H w)⟩
theorem b_nil : PSs X [] (tS G W fun S => .nx S) := PSs_imp pss_nil fun D σ H ⟨Av, S, st, h⟩ => h Av σ H (SPost.refl st)
theorem b_cons (h1 : PS X st (tS G W f)) (h2 : PSs X rest (tS G W g)) : PSs X (st :: rest) (tS G W fun S => (f S).seq g) := PSs_imp (pss_cons h1 h2) fun D σ H ⟨Av, S, st0, h⟩ => by
  have h : RdS G W ((f S).seq g) Av S σ H D := h
  refine ⟨Av, S, st0, ?_⟩
  cases e : f S with
  | nx S1 => rw [e] at h; exact fun Av1 σ1 H1 P => ⟨Av1, S1, P.st, h.trans st0 P⟩
  | bk S1 => rw [e] at h; exact h
  | ct S1 => rw [e] at h; exact h
  | rt fr d S1 => rw [e] at h; exact h
  | exc x S1 => rw [e] at h; exact h
  | bad => rw [e] at h; exact h
theorem b_pass : PS X (.Pass pos) (tS G W fun S => .nx S) := PS_imp ps_pass fun D σ H ⟨Av, S, st, h⟩ => h Av σ H (SPost.refl st)
theorem b_brk : PS X (.Break pos) (tS G W fun S => .bk S) := PS_imp ps_break fun D σ H ⟨Av, S, st, h⟩ => h Av σ H (SPost.refl st)
theorem b_cnt : PS X (.Continue pos) (tS G W fun S => .ct S) := PS_imp ps_continue fun D σ H ⟨Av, S, st, h⟩ => h Av σ H (SPost.refl st)
theorem b_never : PS X st (tS G W fun _ => .bad) := PS_imp ps_never fun D σ H ⟨Av, S, st, h⟩ => h
theorem b_retn : PS X (.Return none pos) (tS G W fun S => .rt false .non S) := PS_imp ps_retN fun D σ H ⟨Av, S, st, h⟩ => h Av σ .non H (SPost.refl st) (show RtOk G Av S σ H Av S σ H false .non .non from (rfl : V.non = V.non))
theorem b_expr (he : PE X e (tE G W p)) (hs : swapsWith e none pos.line X.env = pure false) : PS X (.Expr e pos) (tS G W fun S => (p S).toF fun _ S1 => .nx S1) := PS_imp (ps_expr he hs) fun D σ H ⟨Av, S, st, h⟩ =>
  tS_bind st h fun rv S1 v H1 P h1 => let ⟨Av1, P1, _⟩ := P.ex; h1 Av1 σ H1 P1.s
theorem b_if {t : KT} (hc : PT X c (tT G W t)) {a b : List Stmt} (ha : PSs X a (tS G W f)) (hb : PSs X b (tS G W g)) : PS X (.If c a b pos) (tS G W fun S => (t S).toF fun k S1 => if k then f S1 else g S1) := PS_imp (ps_if hc ha hb) fun D σ H ⟨Av, S, st, h⟩ =>
  tS_bindT st h fun k S1 Av1 H1 P h1 => by
    have h1 := h1.trans st P.s
    cases k with
    | true => exact ⟨Av1, S1, P.st, h1⟩
    | false => exact ⟨Av1, S1, P.st, h1⟩
theorem b_ret (he : PE X e (tE G W p)) : PS X (.Return (some e) pos) (tS G W fun S => (p S).toF retV) := PS_imp (ps_ret he) fun D σ H ⟨Av, S, st, h⟩ =>
  tS_bind st h fun rv S1 v H1 P h1 => by
    obtain ⟨Av1, P1, q⟩ := P.ex
    cases rv with
    | sh d => exact h1 Av1 σ v H1 P1.s q
    | fr d =>
      obtain ⟨a, rfl, g1, g2, g3, g4⟩ := q
      exact h1 Av1 σ _ H1 P1.s ⟨a, rfl, g1, .inr g2, P1.new_apart st g2, g3, g4⟩
    | br j =>
      obtain ⟨g1, g2⟩ := q
      have h1 : RdS G W (match S1[j]? with
        | some (.ow d) => F.rt true d (S1.set j .no)
        | some (.sh d) => .rt false d S1
        | _ => .bad) Av S σ H D := h1
      split at h1
      · rename_i d ej
        obtain ⟨a, k1, k2, k3, k4⟩ := P1.st.ow j _ d ej rfl
        rw [show σ[j]? = some (some (.ref a)) from k1] at g1; cases g1
        -- the slot is emptied
        have get : ∀ {k s}, (S1.set j .no)[k]? = some s → (k = j ∧ s = .no) ∨ (k ≠ j ∧ S1[k]? = some s) := fun q => get_set_cases q
        have hol : ∀ {k}, Holds (S1.set j .no) k → Holds S1 k ∧ k ≠ j := fun {k} ⟨s, d', q, r⟩ => by
          rcases get q with ⟨_, rfl⟩ | ⟨n, q⟩
          · cases r
          · exact ⟨⟨s, d', q, r⟩, n⟩
        have st2 : StOk G Av1 (S1.set j .no) σ H1 := ⟨by rw [List.length_set]; exact P1.st.len, P1.st.dom, P1.st.tb, fun k d' q => by
            rcases get q with ⟨_, z⟩ | ⟨_, q⟩
            · cases z
            · exact P1.st.sh k d' q, fun k s d' q r => by
            rcases get q with ⟨_, rfl⟩ | ⟨_, q⟩
            · cases r
            · exact P1.st.ow k s d' q r, fun k l a' h1 h2 => P1.st.dis k l a' (hol h1).1 (hol h2).1⟩
        have ps := P1.s
        refine h1 Av1 σ _ H1 ⟨ps.frame, ps.stay, ps.sub, ps.held, fun a' ⟨k, ⟨s, d', q, r⟩, ha⟩ => ?_, fun k d' q => ?_, fun k d' q => ?_, st2⟩ ⟨a, rfl, k2, ?_, fun k hk ak => (hol hk).2 (P1.st.dis k j a (hol hk).1 ⟨_, d, ej, rfl⟩ ak k1), k3, k4⟩
        · rcases get q with ⟨_, rfl⟩ | ⟨_, q⟩
          · cases r
          · exact ps.roots a' ⟨k, ⟨s, d', q, r⟩, ha⟩
        · obtain ⟨⟨x, w1⟩, w2⟩ := ps.ios k d' q
          have n : k ≠ j := fun z => by subst z; rw [ej] at w1; cases w1
          exact ⟨⟨x, (set_ne n).trans w1⟩, w2⟩
        · obtain ⟨w1, w2⟩ := ps.lks k d' q
          have n : k ≠ j := fun z => by subst z; rw [ej] at w1; cases w1
          exact ⟨(set_ne n).trans w1, w2⟩
        · exact ps.roots a ⟨j, ⟨_, d, ej, rfl⟩, k1⟩
      · rename_i d ej
        obtain ⟨v', k1, k2⟩ := P1.st.sh j d ej
        rw [g1] at k1; cases k1
        exact h1 Av1 σ _ H1 P1.s k2
      · exact h1.elim

/-! ### names take values -/
theorem put_post {Av Av1 : Addr → Prop} {S S1 : SS} {σ : St} {H H1 : Hp} {v : V} {rv : RV} {j : Nat} (st : StOk G Av S σ H) (P : Post G Av S σ H Av1 S1 H1) (h : CVOk G Av1 S1 σ H1 v rv) (hn : ∀ a d, v = .ref a → rv = .fr d → Root S σ a ∨ H a = none) (hf : freeAt S1 j = true) :
    SPost G Av S σ H Av1 (S1.set j rv.sv) (σ.set j (some v)) H1 := by
  obtain ⟨q1, q2, q3⟩ := h.put P.st hf
  refine ⟨P.frame, P.stay, P.sub, P.held, fun a r => ?_, fun k d q => ?_, fun k d q => ?_, q1⟩
  · rcases q2 a r with z | ⟨z, d, e⟩
    · exact .inl (P.root z)
    · exact hn a d z e
  · obtain ⟨d', e⟩ := P.ios k d q
    obtain ⟨k1, k2⟩ := q3 k d' (.inl e)
    exact ⟨⟨d', by rw [k1]; exact e⟩, k2⟩
  · have e := P.lks k d q
    obtain ⟨k1, k2⟩ := q3 k d (.inr e)
    exact ⟨by rw [k1]; exact e, k2⟩
/-- a captured value: a fresh one is new -/
theorem cap_new {Av Av1 : Addr → Prop} {S S1 S2 : SS} {σ : St} {H H1 : Hp} {rv r : RV} {v : V} (p : EPost G Av S σ H rv S1 v H1) (e : Eng.cap rv S1 = .ok r S2) : ∀ a d, v = .ref a → r = .fr d → Root S σ a ∨ H a = none := fun a d hv hr => by
  subst hr
  cases rv with
  | sh d' => cases e
  | fr d' =>
    cases e
    obtain ⟨Av', P, a', rfl, h1, h2, h3⟩ := p.ex
    cases hv
    exact .inr h2
  | br i =>
    have e : (shr (.br i) S1).bind (fun d S1 => .ok (RV.sh d) S1) = R.ok (.fr d) S2 := e
    cases es : shr (.br i) S1 with
    | ok d S3 => rw [es] at e; cases e
    | exc x S3 => exact (shr_exc es).elim
    | bad => rw [es] at e; cases e
theorem tri_set {j : Nat} {D : Ends} {σ : St} {H : Hp} (h : tS G W (fun S => (p S).toF fun r S1 => asgV (.nm j) r S1) D σ H) : tE G W p σ H fun y H1 => gName j y σ H1 D.nx := by
  obtain ⟨Av, S, st, h⟩ := h
  refine tS_bind st h fun rv S1 v H1 P h1 => ?_
  have h1 : RdS G W ((Eng.cap rv S1).toF fun r S1 => if freeAt S1 j then .nx (S1.set j r.sv) else .bad) Av S σ H D := h1
  cases ec : Eng.cap rv S1 with
  | ok r S2 =>
    rw [ec] at h1
    have h1 : RdS G W (if freeAt S2 j then F.nx (S2.set j r.sv) else .bad) Av S σ H D := h1
    obtain ⟨Av2, P2, cv⟩ := P.cap st ec
    split at h1
    · rename_i hf
      exact h1 Av2 _ H1 (put_post st P2 cv (cap_new (Av1 := Av2) P ec) hf)
    · exact h1.elim
  | exc x S2 => exact (cap_exc ec).elim
  | bad => rw [ec] at h1; exact h1.elim
theorem b_set {j : Nat} {x : Str} (hN : X.N.Nodup) (hi : X.N[j]? = some x) (hx : Loc X.env.scope x) (he : PE X e (tE G W p)) (hs : swapsWith e (some (.Name x pp)) pos.line X.env = pure false) (hf : X.fn x = true ∨ X.env.scope.names.lookup x = some .local) :
    PS X (.Assign [.Name x pp] e pos) (tS G W fun S => (p S).toF fun r S1 => asgV (.nm j) r S1) := PS_imp (ps_set hN hi hx he hs hf) fun D σ H => tri_set
theorem b_asgT {l : Tg} {tg : Expr} (he : PE X e (tE G W p)) (hg : PG X tg (tG G (.tup l))) (hs : swapsWithSole [tg] e pos.line X.env = pure false) (hw : swappedStores [tg] e X.env = pure none) (h1 : (assignEach [tg] X.env).map (·.2) = [PySem.assign tg X.env]) :
    PS X (.Assign [tg] e pos) (tS G W fun S => (p S).toF fun r S1 => asgV (.tup l) r S1) := PS_imp (ps_asg he hg hs hw h1) fun D σ H ⟨Av, S, st, h⟩ =>
  tS_bind st h fun rv S1 v H1 P h1 => by
    have h1 : RdS G W ((shr rv S1).toF fun d S1 => match Eng.assign (.tup l) d S1 with
      | some S2 => .nx S2
      | none => .bad) Av S σ H D := h1
    cases es : shr rv S1 with
    | ok d S2 =>
      rw [es] at h1
      have h1 : RdS G W (match Eng.assign (.tup l) d S2 with
        | some S2 => F.nx S2
        | none => .bad) Av S σ H D := h1
      obtain ⟨Av2, P2, q⟩ := (P.shared st es).ex
      cases ea : Eng.assign (.tup l) d S2 with
      | none => rw [ea] at h1; exact h1.elim
      | some S3 =>
        rw [ea] at h1
        exact ⟨Av2, S2, d, S3, P2.st, q, ea, fun σ' Q _ _ => h1 Av2 σ' H1 (SPost.trans st P2.s Q)⟩
    | exc x S2 => exact (shr_exc es).elim
    | bad => rw [es] at h1; exact h1.elim
theorem RVOk.on {Av0 Av Av1 : Addr → Prop} {S0 S S1 : SS} {σ : St} {H0 H H1 : Hp} {v : V} {rv : RV} (st0 : StOk G Av0 S0 σ H0) (P0 : Post G Av0 S0 σ H0 Av S H) (q : RVOk G Av S σ H0 H v rv) (P : Post G Av S σ H Av1 S1 H1) : RVOk G Av1 S1 σ H0 H1 v rv := by
  cases rv with
  | sh d => exact P.rep P0.st q
  | fr d =>
    obtain ⟨a', rfl, g1, g2, g3, g4⟩ := q
    have nr : ¬ Root S σ a' := fun ⟨l, hl, al⟩ => P0.new_apart st0 g2 l hl.holds al
    exact ⟨a', rfl, P.held a' g1 nr, g2, P.vw P0.st g3 fun b e => by cases e; exact nr, g4⟩
  | br l => exact ⟨q.1, P.live l q.2⟩
theorem RVOk.cap {Av0 Av : Addr → Prop} {S0 S S1 : SS} {σ : St} {H0 H : Hp} {v : V} {rv r : RV} (st0 : StOk G Av0 S0 σ H0) (P0 : Post G Av0 S0 σ H0 Av S H) (q : RVOk G Av S σ H0 H v rv) (e : Eng.cap rv S = .ok r S1) : ∃ Av1, Post G Av S σ H Av1 S1 H ∧ CVOk G Av1 S1 σ H v r := by
  cases rv with
  | sh d => cases e; exact ⟨Av, Post.refl P0.st, q⟩
  | fr d =>
    cases e
    obtain ⟨a', rfl, g1, g2, g3, g4⟩ := q
    exact ⟨Av, Post.refl P0.st, a', rfl, g1, P0.new_apart st0 g2, g3, g4⟩
  | br i =>
    have E : EPost G Av S σ H (.br i) S v H := ⟨Av, Post.refl P0.st, q⟩
    exact E.cap P0.st e
/-- x, y = a, b -/
theorem b_par {j k : Nat} {x y : Str} {px py pt : Pos} {kt k2 : Nat} {pt2 : Pos} (hc : X.calm = true) (hN : X.N.Nodup) (hi : X.N[j]? = some x) (hj : X.N[k]? = some y) (hij : j ≠ k) (hx : X.env.scope.names.lookup x = some .local) (hy : X.env.scope.names.lookup y = some .local)
    (ha : PE X a (tE G W p)) (hb : PE X b (tE G W q)) (hsa : starEach [a, b] X.env = (false, eval a X.env) :: starEach [b] X.env) (hsb : starEach [b] X.env = (false, eval b X.env) :: starEach [] X.env)
    (hw : swappedStores [.Tuple [.Name x px, .Name y py] kt pt] (.Tuple [a, b] k2 pt2) X.env = pure (some [x, y])) (hs : swapsWithSole [.Tuple [.Name x px, .Name y py] kt pt] (.Tuple [a, b] k2 pt2) pos.line X.env = pure false) :
    PS X (.Assign [.Tuple [.Name x px, .Name y py] kt pt] (.Tuple [a, b] k2 pt2) pos) (tS G W fun S => (p S).toF fun r S1 => (q S1).toF fun t S2 => parV j k r t S2) :=
  PS_imp (ps_par hc hN hi hj hij hx hy (pa_cons ha (pa_cons hb pa_nil hsb) hsa) hw hs) fun D σ H ⟨Av, S, st, h⟩ =>
    tS_bind st h fun r S1 v H1 P h1 => by
      -- the first value is carried as it is
      obtain ⟨Av1, P1, q1⟩ := P.ex
      refine ⟨Av1, S1, P1.st, ?_⟩
      cases eq : q S1 with
      | bad => rw [eq] at h1; exact h1
      | exc x S2 => rw [eq] at h1; exact fun c d H' z => h1 c d σ H' (z.trans P1).s
      | ok t S2 =>
      rw [eq] at h1
      intro u H2 Q
      have h2 : RdS G W ((Eng.cap r S2).toF fun r S1 => (Eng.cap t S1).toF fun t S2 => if freeAt S2 j && freeAt S2 k && j != k then .nx ((S2.set j r.sv).set k t.sv) else .bad) Av S σ H D := h1
      obtain ⟨Av2, P2, q2⟩ := Q.ex
      have R1 := RVOk.on st P1 q1 P2
      have R2 : RVOk G Av2 S2 σ H H2 u t := by
        cases t with
        | sh d => exact q2
        | fr d => obtain ⟨a', g0, g1, g2, g3⟩ := q2; exact ⟨a', g0, g1, P1.back_none g2, g3⟩
        | br l => exact q2
      have apart : ∀ a d d', v = .ref a → r = .fr d → u = .ref a → t = .fr d' → False := fun a d d' e1 e2 e3 e4 => by
        subst e2; subst e4
        obtain ⟨a1, g0, g1, _⟩ := q1
        obtain ⟨a2, k0, k1, k2, _⟩ := q2
        rw [e1] at g0; cases g0
        rw [e3] at k0; cases k0
        obtain ⟨o, w, _⟩ := P1.st.dom a g1
        rw [w] at k2; cases k2
      have P12 := P1.trans P2
      cases ec : Eng.cap r S2 with
      | exc x S3 => exact (cap_exc ec).elim
      | bad => rw [ec] at h2; exact h2.elim
      | ok r' S3 =>
        rw [ec] at h2
        have h2 : RdS G W ((Eng.cap t S3).toF fun t S2 => if freeAt S2 j && freeAt S2 k && j != k then .nx ((S2.set j r'.sv).set k t.sv) else .bad) Av S σ H D := h2
        obtain ⟨Av3, P3, c1⟩ := R1.cap st P12 ec
        have R3 := RVOk.on st P12 R2 P3
        have P13 := P12.trans P3
        cases et : Eng.cap t S3 with
        | exc x S4 => exact (cap_exc et).elim
        | bad => rw [et] at h2; exact h2.elim
        | ok t' S4 =>
          rw [et] at h2
          have h2 : RdS G W (if freeAt S4 j && freeAt S4 k && j != k then F.nx ((S4.set j r'.sv).set k t'.sv) else .bad) Av S σ H D := h2
          obtain ⟨Av4, P4, c2⟩ := R3.cap st P13 et
          have c1 := c1.on P3.st P4
          have PF := P13.trans P4
          split at h2
          · rename_i hz
            simp only [Bool.and_eq_true, bne_iff_ne] at hz
            obtain ⟨⟨f1, f2⟩, _⟩ := hz
            have capfr : ∀ {rv : RV} {Sx Sy : SS} {d}, Eng.cap rv Sx = .ok (.fr d) Sy → rv = .fr d := fun {rv Sx Sy d} e => by
              cases rv with
              | sh d' => cases e
              | fr d' => cases e; rfl
              | br l =>
                have e : (shr (.br l) Sx).bind (fun d S1 => .ok (RV.sh d) S1) = Eng.R.ok (.fr d) Sy := e
                cases es : shr (.br l) Sx with
                | ok d S3 => rw [es] at e; cases e
                | exc x S3 => exact (shr_exc es).elim
                | bad => rw [es] at e; cases e
            have new1 : ∀ a d, v = .ref a → r' = .fr d → H a = none := fun a d hv hr => by
              subst hr
              have e := capfr ec
              subst e
              obtain ⟨a', g0, _, g2, _⟩ := R1
              rw [hv] at g0; cases g0; exact g2
            have new2 : ∀ a d, u = .ref a → t' = .fr d → H a = none := fun a d hv hr => by
              subst hr
              have e := capfr et
              subst e
              obtain ⟨a', g0, _, g2, _⟩ := R2
              rw [hv] at g0; cases g0; exact g2
            -- the first store, then the second one
            obtain ⟨s1, s2, s3⟩ := c1.put P4.st f1
            have fk : freeAt (S4.set j r'.sv) k = true := by unfold freeAt; rw [set_ne (Ne.symm hij)]; exact f2
            have c2' : CVOk G Av4 (S4.set j r'.sv) (σ.set j (some v)) H2 u t' := by
              cases t' with
              | sh d => exact c2
              | br l => exact c2.elim
              | fr d =>
                obtain ⟨a', eu, g1, g2, g3, g4⟩ := c2
                refine ⟨a', eu, g1, fun l hl al => ?_, g3, g4⟩
                obtain ⟨sv, dv, ql, rl⟩ := hl
                by_cases z : l = j
                · subst z
                  obtain ⟨sf, hsf, _⟩ := freeAt_get f1
                  rw [set_eq hsf] at ql
                  cases ql
                  have hi : l < σ.length := by rw [← P4.st.len]; exact (List.getElem?_eq_some_iff.mp hsf).1
                  have al : (σ.set l (some v))[l]? = some (some (.ref a')) := al
                  rw [List.getElem?_set_self hi] at al
                  cases al
                  cases r' with
                  | sh d' => cases rl
                  | br m => exact c1.elim
                  | fr d' => exact apart a' d' d rfl (capfr ec) eu (capfr et)
                · rw [set_ne z] at ql
                  have al : (σ.set j (some v))[l]? = some (some (.ref a')) := al
                  rw [set_ne z] at al
                  exact g2 l ⟨sv, dv, ql, rl⟩ al
            obtain ⟨t1, t2, t3⟩ := c2'.put s1 fk
            refine ⟨v, u, rfl, h2 Av4 _ H2 ⟨PF.frame, PF.stay, PF.sub, PF.held, fun a r => ?_, fun l d q => ?_, fun l d q => ?_, t1⟩⟩
            · rcases t2 a r with z | ⟨z, d, e⟩
              · rcases s2 a z with z | ⟨z, d, e⟩
                · exact .inl (PF.root z)
                · exact .inr (new1 a d z e)
              · exact .inr (new2 a d z e)
            · obtain ⟨d', e⟩ := PF.ios l d q
              obtain ⟨k1, k2⟩ := s3 l d' (.inl e)
              obtain ⟨k3, k4⟩ := t3 l d' (.inl (k1.trans e))
              exact ⟨⟨d', k3.trans (k1.trans e)⟩, k4.trans k2⟩
            · have e := PF.lks l d q
              obtain ⟨k1, k2⟩ := s3 l d (.inr e)
              obtain ⟨k3, k4⟩ := t3 l d (.inr (k1.trans e))
              exact ⟨k3.trans (k1.trans e), k4.trans k2⟩
          · exact h2.elim
end
end Eng

namespace Eng
open PySem PySem.Spec L2
open PyProof.Rows hiding St
section
variable {X : Cx} {G : Gs} {W : WX} {e a b c o i : Expr} {rest body : List Stmt} {pos pp : Pos} {p q : KE} {t : KT} {f g : SS → F}

/-! ### x[i] = e -/
theorem b_setix {j : Nat} {x : Str} {ix : Expr} {apos xpos : Pos} (hN : X.N[j]? = some x) (hv : Vis X.env.scope x) (hd : (x == ("__debug__" : Str)) = false) (hcd : (x == ("__classdict__" : Str)) = false)
    (he : PE X e (tE G W p)) (hi : PE X ix (tE G W q)) (hs : swapsWithSole [.Subscript (.Name x xpos) ix apos] e pos.line X.env = pure false) (hw : swappedStores [.Subscript (.Name x xpos) ix apos] e X.env = pure none)
    (h1 : (assignEach [.Subscript (.Name x xpos) ix apos] X.env).map (·.2) = [PySem.assign (.Subscript (.Name x xpos) ix apos) X.env])
    (ha : ∀ v, PySem.assign (.Subscript (.Name x xpos) ix apos) X.env v = (do
      let ov ← holding [v] (eval (.Name x xpos) X.env)
      let iv ← holding [v, ov] (eval ix X.env)
      standAt apos
      holding [v, ov, iv] (setItem ov iv v)
      release [v, ov, iv] [])) :
    PS X (.Assign [.Subscript (.Name x xpos) ix apos] e pos) (tS G W fun S => ((kShr p) S).toF fun y S1 => if ((S1[j]?).bind SV.dat).isSome then ((kVw q) S1).toF fun k S2 => (match (S2[j]?).bind SV.mu, deref S2 k with
      | some d, some n => (match (setixD d n y).bind (setAt S2 j) with
        | some S3 => .nx S3
        | none => .bad)
      | _, _ => .bad) else .bad) :=
  PS_imp (ps_asg (s_shr he) (pg_sub (pe_var hN hv hd hcd) (s_vw hi) set_list ha) hs hw h1) fun D σ H ⟨Av, S, st, h⟩ =>
    tS_bind1 st h fun y S1 Av1 v H1 P1 ry h1 => by
      have h1 : RdS G W (if ((S1[j]?).bind SV.dat).isSome then ((kVw q) S1).toF fun k S2 => (match (S2[j]?).bind SV.mu, deref S2 k with
        | some d, some n => (match (setixD d n y).bind (setAt S2 j) with
          | some S3 => .nx S3
          | none => .bad)
        | _, _ => .bad) else .bad) Av S σ H D := h1
      split at h1
      · rename_i hl
        obtain ⟨d0, hd0⟩ := Option.isSome_iff_exists.mp hl
        obtain ⟨w, hw1, _⟩ := P1.st.view (show dAt S1 j = some d0 from hd0)
        refine ⟨w, hw1, ?_⟩
        refine tS_bind1 P1.st (h1.trans st P1.s) fun k S2 Av2 u H2 P2 rk h2 => ?_
        have h2 := h2.trans P1.st P2.s
        split at h2
        · rename_i d n e1 e2
          obtain ⟨sv, hsv, hm⟩ := Option.bind_eq_some_iff.mp e1
          have vn := VOk.vx rk P2.st e2
          cases e3 : (setixD d n y).bind (setAt S2 j) with
          | none => rw [e3] at h2; exact h2.elim
          | some S3 =>
            rw [e3] at h2
            obtain ⟨d', e4, e5⟩ := Option.bind_eq_some_iff.mp e3
            obtain ⟨r, k1, k2, k3, k4⟩ := P2.st.ow j sv d hsv (sv.mu_rt hm)
            rw [show σ[j]? = some (some (.ref r)) from k1] at hw1
            cases hw1
            cases d with
            | lst ds =>
              cases n with
              | int m =>
                obtain ⟨jj, e6, rfl⟩ := Option.map_eq_some_iff.mp (show (ixN ds.length m).map (fun n => Eng.D.lst (ds.set n y)) = some d' from e4)
                cases vn.int
                obtain ⟨r', vs, e7, g1, g2⟩ := k3
                cases e7
                refine ⟨r, vs, m, jj, rfl, rfl, g1, by rw [g2.length]; exact e6, ?_⟩
                have ry2 := P2.rep P1.st ry
                exact h2 Av2 σ _ (Post.mutate P2.st e5 k1 ⟨r, _, rfl, upd_same, (g2.set jj ry2).touch k2⟩ rfl).s
              | _ => cases e4
            | _ => cases e4
        · exact h2.elim
      · exact h1.elim
/-! ### x.f = e -/
theorem put_zip {G : Gs} {Av : Addr → Prop} {H : Hp} {fn : Str} {d : D} {v : V} : ∀ (ns : List Str) (ds : List D) (vs : List V), ns.length = vs.length → Reps G Av H ds vs → Rep G Av H d v →
    ∃ vs', putF fn v (ns.zip vs) = (putN fn ns).zip vs' ∧ (putN fn ns).length = vs'.length ∧ Reps G Av H (putD fn d ns ds) vs'
  | [], ds, vs, hl, r, q => by
    have : vs = [] := List.length_eq_zero_iff.mp hl.symm
    subst this
    exact ⟨[v], rfl, rfl, v, [], rfl, q, rfl⟩
  | n :: ns, ds, vs, hl, r, q => by
    cases vs with
    | nil => cases hl
    | cons w vs =>
      cases ds with
      | nil => cases (show w :: vs = [] from r)
      | cons e ds =>
        obtain ⟨w', r', e1, h1, h2⟩ := r
        cases e1
        have hl : ns.length = vs.length := by simpa using hl
        by_cases z : n = fn
        · refine ⟨v :: vs, ?_, ?_, ?_⟩
          · show (if n = fn then (n, v) :: ns.zip vs else (n, w) :: putF fn v (ns.zip vs)) = (if n = fn then n :: ns else n :: putN fn ns).zip (v :: vs)
            rw [if_pos z, if_pos z]; rfl
          · show (if n = fn then n :: ns else n :: putN fn ns).length = _
            rw [if_pos z]; simp [hl]
          · show Reps G Av H (if n = fn then d :: ds else e :: putD fn d ns ds) _
            rw [if_pos z]; exact ⟨v, vs, rfl, q, h2⟩
        · obtain ⟨vs', k1, k2, k3⟩ := put_zip ns ds vs hl h2 q
          refine ⟨w :: vs', ?_, ?_, ?_⟩
          · show (if n = fn then (n, v) :: ns.zip vs else (n, w) :: putF fn v (ns.zip vs)) = (if n = fn then n :: ns else n :: putN fn ns).zip (w :: vs')
            rw [if_neg z, if_neg z, k1]; rfl
          · show (if n = fn then n :: ns else n :: putN fn ns).length = _
            rw [if_neg z]; simp [k2]
          · show Reps G Av H (if n = fn then d :: ds else e :: putD fn d ns ds) _
            rw [if_neg z]; exact ⟨w, vs', rfl, h1, k3⟩
theorem b_setf {j : Nat} {x fn : Str} {ci : Nat} {apos xpos : Pos} (hN : X.N[j]? = some x) (hv : Vis X.env.scope x) (hd : (x == ("__debug__" : Str)) = false) (hcd : (x == ("__classdict__" : Str)) = false)
    (he : PE X e (tE G W p)) (hc : Cls X.K (G.c ci)) (hn : NoAttr X.K (G.c ci) fn) (hs : swapsWith e (some (.Attribute (.Name x xpos) fn apos)) pos.line X.env = pure false) :
    PS X (.Assign [.Attribute (.Name x xpos) fn apos] e pos) (tS G W fun S => ((kShr p) S).toF fun y S1 => (match (S1[j]?).bind SV.mu with
      | some d => (match (setfD fn ci y d).bind (setAt S1 j) with
        | some S2 => .nx S2
        | none => .bad)
      | none => .bad)) :=
  PS_imp (ps_fld (pe_var hN hv hd hcd) (s_shr he) hs) fun D σ H ⟨Av, S, st, h⟩ =>
    tS_bind1 st h fun y S1 Av1 v H1 P1 ry h1 => by
      have hh := h1.trans st P1.s
      clear h1
      split at hh
      · rename_i d e1
        obtain ⟨sv, hsv, hm⟩ := Option.bind_eq_some_iff.mp e1
        obtain ⟨r, k1, k2, k3, k4⟩ := P1.st.ow j sv d hsv (sv.mu_rt hm)
        refine ⟨.ref r, k1, ?_⟩
        cases e3 : (setfD fn ci y d).bind (setAt S1 j) with
        | none => rw [e3] at hh; exact hh.elim
        | some S2 =>
          rw [e3] at hh
          obtain ⟨d', e4, e5⟩ := Option.bind_eq_some_iff.mp e3
          cases d with
          | obj c' ns ds =>
            have e4' : (if c' = ci ∧ ns.length = ds.length ∧ ns.length < 1000 then some (Eng.D.obj c' (putN fn ns) (putD fn y ns ds)) else none) = some d' := e4
            by_cases hz : c' = ci ∧ ns.length = ds.length ∧ ns.length < 1000
            · rw [if_pos hz] at e4'
              obtain ⟨rfl, z1, z2⟩ := hz
              obtain rfl := Option.some.inj e4'
              obtain ⟨r', dx, vs, e7, g1, g2, g3⟩ := k3
              cases e7
              obtain ⟨vs', q1, q2, q3⟩ := put_zip (fn := fn) ns ds vs g2 g3 ry
              refine ⟨r, _, dx, _, rfl, g1, hc, hn, by rw [List.length_zip]; omega, ?_⟩
              exact hh Av1 σ _ (Post.mutate P1.st e5 k1 ⟨r, dx, vs', rfl, by rw [upd_same, q1], q2, q3.touch k2⟩ rfl).s
            · rw [if_neg hz] at e4'; cases e4'
          | _ => cases e4
      · exact hh.elim

/-! ### while -/
theorem RdS.mono {r : F} {Av : Addr → Prop} {S : SS} {σ : St} {H : Hp} {D D' : Ends} (h : RdS G W r Av S σ H D) (h1 : ∀ σ H, D.nx σ H → D'.nx σ H) (h2 : ∀ σ H, D.bk σ H → D'.bk σ H) (h3 : ∀ σ H, D.ct σ H → D'.ct σ H) (h4 : ∀ v H, D.rt v H → D'.rt v H) : RdS G W r Av S σ H D' := by
  cases r with
  | nx S' => exact fun Av' σ' H' q => h1 _ _ (h Av' σ' H' q)
  | bk S' => exact fun Av' σ' H' q => h2 _ _ (h Av' σ' H' q)
  | ct S' => exact fun Av' σ' H' q => h3 _ _ (h Av' σ' H' q)
  | rt fr d S' => exact fun Av' σ' v H' q r => h4 _ _ (h Av' σ' v H' q r)
  | exc e S' => exact h
  | bad => exact h
theorem b_whl {fuel : Nat} (hp : PassesOwn (model X.prog X.w) X.A X.env X.xe) (hc : PT X c (tT G W t)) (hb : PSs X body (tS G W f)) : PS X (.While c body [] pos) (tS G W (whlF t f fuel)) :=
  PS_imp (ps_while hp hc hb) fun D σ H ⟨Av, S, st, h⟩ => by
    refine ⟨fun m σ H => ∃ Av S, StOk G Av S σ H ∧ RdS G W (whlF t f m S) Av S σ H D, ⟨fuel, Av, S, st, h⟩, ?_⟩
    rintro m σ H ⟨Av, S, st, h⟩
    cases m with
    | zero => exact h.elim
    | succ n =>
      have h : RdS G W ((t S).toF fun k S1 => if k then (match f S1 with
        | .nx S2 => whlF t f n S2
        | .ct S2 => whlF t f n S2
        | .bk S2 => .nx S2
        | r => r) else .nx S1) Av S σ H D := h
      refine tS_bindT st h fun b S1 Av1 H1 P h1 => ?_
      have h1 := h1.trans st P.s
      cases b with
      | false => exact h1 Av1 σ H1 (SPost.refl P.st)
      | true =>
        simp only [if_true] at h1 ⊢
        refine ⟨fun σ H => ∃ Av S, StOk G Av S σ H ∧ RdS G W (whlF t f n S) Av S σ H D, fun σ' H' w => ⟨n, Nat.lt_succ_self n, w⟩, Av1, S1, P.st, ?_⟩
        cases e : f S1 with
        | nx S2 => rw [e] at h1; exact fun Av2 σ2 H2 Q => ⟨Av2, S2, Q.st, h1.trans P.st Q⟩
        | ct S2 => rw [e] at h1; exact fun Av2 σ2 H2 Q => ⟨Av2, S2, Q.st, h1.trans P.st Q⟩
        | bk S2 => rw [e] at h1; exact h1
        | rt fr d S2 => rw [e] at h1; exact h1
        | exc x S2 => rw [e] at h1; exact h1
        | bad => rw [e] at h1; exact h1

/-! ### for -/
/-- a slot that was locked for the loop is its own again -/
theorem SPost.unlock {Av Av1 : Addr → Prop} {S S1 : SS} {σ σ1 : St} {H H1 : Hp} {u : Option Nat} (P : SPost G Av S σ H Av1 S1 σ1 H1) (hu : ∀ i, u = some i → (∃ d, S1[i]? = some (.lk d)) → (∃ d, S[i]? = some (.ow d)) ∧ σ1[i]? = σ[i]?) : SPost G Av S σ H Av1 (unlock S1 u) σ1 H1 := by
  cases u with
  | none => exact P
  | some i =>
    show SPost G Av S σ H Av1 (match S1[i]? with | some (.lk d) => S1.set i (.ow d) | _ => S1) σ1 H1
    split
    · rename_i d e
      obtain ⟨⟨d0, h0⟩, hσ⟩ := hu i rfl ⟨d, e⟩
      have get : ∀ {j s}, (S1.set i (.ow d))[j]? = some s → (j = i ∧ s = .ow d) ∨ (j ≠ i ∧ S1[j]? = some s) := fun q => get_set_cases q
      have hol : ∀ {j}, Holds (S1.set i (.ow d)) j → Holds S1 j := fun {j} ⟨s, d', q, r⟩ => by
        rcases get q with ⟨rfl, rfl⟩ | ⟨_, q⟩
        · exact ⟨_, d, e, rfl⟩
        · exact ⟨s, d', q, r⟩
      refine ⟨P.frame, P.stay, P.sub, P.held, fun a ⟨j, ⟨s, d', q, r⟩, ha⟩ => ?_, fun j d' h => ?_, fun j d' h => ?_, ⟨by rw [List.length_set]; exact P.st.len, P.st.dom, P.st.tb, fun j d' q => ?_, fun j s d' q r => ?_, fun j k p h1 h2 => P.st.dis j k p (hol h1) (hol h2)⟩⟩
      · rcases get q with ⟨rfl, rfl⟩ | ⟨_, q⟩
        · exact .inl ⟨j, ⟨_, d0, h0, rfl⟩, by show σ[j]? = _; rw [← hσ]; exact ha⟩
        · exact P.roots a ⟨j, ⟨s, d', q, r⟩, ha⟩
      · have z : j ≠ i := fun z => by subst z; rw [h0] at h; cases h
        rw [set_ne z]; exact P.ios j d' h
      · have z : j ≠ i := fun z => by subst z; rw [h0] at h; cases h
        rw [set_ne z]; exact P.lks j d' h
      · rcases get q with ⟨_, z⟩ | ⟨_, q⟩
        · cases z
        · exact P.st.sh j d' q
      · rcases get q with ⟨rfl, rfl⟩ | ⟨_, q⟩
        · cases r; exact P.st.ow j _ d e rfl
        · exact P.st.ow j s d' q r
    · exact P
/-- only a normal end unlocks -/
theorem RdS.unl {Av Av1 : Addr → Prop} {S S1 : SS} {σ σ1 : St} {H H1 : Hp} {D : Ends} {r : F} {u : Option Nat} (st : StOk G Av S σ H) (h : RdS G W (unlockF u r) Av S σ H D) (P : SPost G Av S σ H Av1 S1 σ1 H1)
    (hu : ∀ i, u = some i → (∃ d, S[i]? = some (.ow d)) ∧ ∃ d, S1[i]? = some (.lk d) ∧ σ1[i]? = σ[i]?) : RdS G W r Av1 S1 σ1 H1 D := by
  cases r with
  | nx S' =>
    intro Av' σ' H' Q
    refine h Av' σ' H' ((SPost.trans st P Q).unlock fun i e hlk => ?_)
    obtain ⟨h1, d, h2, h3⟩ := hu i e
    exact ⟨h1, (Q.lks i d h2).2.trans h3⟩
  | bk S' => exact h.trans st P
  | ct S' => exact h.trans st P
  | rt fr d S' => exact h.trans st P
  | exc e S' => exact h.trans st P
  | bad => exact h
theorem b_for {tg : Tg} {tgE : Expr} {it : SS → R (List Eng.D × Option Nat)} (hp : PassesOwn (model X.prog X.w) X.A X.env X.xe) (hc : X.calm = true) (hi : PI X tgE i (tI G W it)) (hg : PG X tgE (tG G tg)) (hb : PSs X body (tS G W f))
    (hs : ∀ x, foldedSetIterable i X.env x = pure x) : PS X (.For tgE i body [] pos) (tS G W fun S => (it S).toF fun xu S1 => unlockF xu.2 (forF tg f xu.1 S1)) :=
  PS_imp (ps_for hp hc hi hg hb hs) fun D σ H ⟨Av, S, st, h⟩ => by
    refine ⟨Av, S, st, ?_⟩
    have h : RdS G W ((it S).toF fun xu S1 => unlockF xu.2 (forF tg f xu.1 S1)) Av S σ H D := h
    cases ei : it S with
    | bad => rw [ei] at h; exact h
    | exc x S1 => rw [ei] at h; exact fun c d H' q => h c d σ H' q.s
    | ok xu S1 =>
      rw [ei] at h
      have h : RdS G W (unlockF xu.2 (forF tg f xu.1 S1)) Av S σ H D := h
      intro Av1 H1 J Stay P1 wk stay hu
      have h1 : RdS G W (forF tg f xu.1 S1) Av1 S1 σ H1 D := RdS.unl st h P1.s fun k e => let ⟨a, d, b⟩ := hu k e; ⟨a, d, b, rfl⟩
      refine ⟨fun k m σ H => m = xu.1.length - k ∧ k ≤ xu.1.length ∧ ∃ Av S, StOk G Av S σ H ∧ Stay Av S σ H ∧ RdS G W (forF tg f (xu.1.drop k) S) Av S σ H D, ⟨xu.1.length, by omega, Nat.zero_le _, Av1, S1, P1.st, stay, h1⟩, ?_⟩
      rintro k m σ H ⟨rfl, hk, Av, S, st, stay, h⟩
      by_cases hlt : k < xu.1.length
      · obtain ⟨d, hd⟩ : ∃ d, xu.1[k]? = some d := ⟨xu.1[k]'(by omega), List.getElem?_eq_getElem _⟩
        have hdrop : xu.1.drop k = d :: xu.1.drop (k + 1) := by
          rw [List.drop_eq_getElem_cons (by omega)]
          congr 1
          exact (List.getElem?_eq_some_iff.mp hd).2
        rw [hdrop] at h
        have h : RdS G W (match Eng.assign tg d S with
          | none => .bad
          | some S1 => match f S1 with
            | .nx S2 => forF tg f (xu.1.drop (k + 1)) S2
            | .ct S2 => forF tg f (xu.1.drop (k + 1)) S2
            | .bk S2 => .nx S2
            | r => r) Av S σ H D := h
        refine .inr ⟨wk.go _ _ _ _ k stay hlt, fun σ H => ∃ Av S, StOk G Av S σ H ∧ Stay Av S σ H ∧ RdS G W (forF tg f (xu.1.drop (k + 1)) S) Av S σ H D, fun σ' H' w => ⟨_, by omega, rfl, by omega, w⟩, fun x H' y => ?_⟩
        obtain ⟨eH, rx⟩ := wk.yld _ _ _ _ k x H' d st stay y hd
        have PH : Post G Av S σ H Av S H' := Post.ext st eH (fun a q => .inl q) (fun a q => let ⟨o, w, m⟩ := st.dom a q; ⟨o, eH a o w, m⟩) fun a q => q
        have stay' := wk.keep _ _ _ _ _ _ _ _ st PH.s stay
        have h := h.trans st PH.s
        cases ea : Eng.assign tg d S with
        | none => rw [ea] at h; exact h.elim
        | some S2 =>
          rw [ea] at h
          refine ⟨Av, S, d, S2, PH.st, rx, ea, fun σ2 Ps on os => ?_⟩
          have h := h.trans PH.st Ps
          have stay2 := wk.keep _ _ _ _ _ _ _ _ PH.st Ps stay'
          refine ⟨Av, S2, Ps.st, ?_⟩
          cases e : f S2 with
          | nx S3 => simp only [e] at h; exact fun Av2 σ2 H2 Q => ⟨Av2, S3, Q.st, wk.keep _ _ _ _ _ _ _ _ Ps.st Q stay2, h.trans Ps.st Q⟩
          | ct S3 => simp only [e] at h; exact fun Av2 σ2 H2 Q => ⟨Av2, S3, Q.st, wk.keep _ _ _ _ _ _ _ _ Ps.st Q stay2, h.trans Ps.st Q⟩
          | bk S3 => simp only [e] at h; exact h
          | rt fr d S3 => simp only [e] at h; exact h
          | exc x S3 => simp only [e] at h; exact h
          | bad => simp only [e] at h; exact h
      · have e : k = xu.1.length := by omega
        subst e
        refine .inl ⟨wk.stop _ _ _ _ _ stay (Nat.le_refl _), ?_⟩
        rw [List.drop_eq_nil_of_le (Nat.le_refl _)] at h
        exact h Av σ H (SPost.refl st)
end
end Eng

namespace Eng
open PySem PySem.Spec L2
open PyProof.Rows hiding St
/-! ### several names take several values -/
def ErC (G : Gs) : ER RV := fun Av S σ H r v => CVOk G Av S σ H v r
theorem lastsC {G : Gs} : Lasts G (ErC G) := fun h st P => CVOk.on h st P
def ApartC (rs : List RV) (vs : List V) : Prop := ∀ (i j : Nat) (a : Addr) (d e : D), rs[i]? = some (.fr d) → rs[j]? = some (.fr e) → vs[i]? = some (.ref a) → vs[j]? = some (.ref a) → i = j
def NewC (H : Hp) (rs : List RV) (vs : List V) : Prop := ∀ (i : Nat) (a : Addr) (d : D), rs[i]? = some (.fr d) → vs[i]? = some (.ref a) → H a = none
section
variable (G : Gs) (W : WX)
def RdC (r : R (List RV)) (Av : Addr → Prop) (S : SS) (σ : St) (H : Hp) (Q : List V → Hp → Prop) : Prop := match r with
  | .ok rs S' => ∀ Av' vs H', Post G Av S σ H Av' S' H' → Ers (ErC G) Av' S' σ H' rs vs → ApartC rs vs → NewC H rs vs → Q vs H'
  | .exc e S' => ∀ cls d H', XPost G Av S σ H e S' cls d H' → W cls d σ H'
  | .bad => False
def tCp (f : SS → R (List RV)) : TA := fun σ H Q => ∃ Av S, StOk G Av S σ H ∧ RdC G W (f S) Av S σ H Q
end
section
variable {X : Cx} {G : Gs} {W : WX} {e : Expr} {es : List Expr} {p : KE}
theorem sc_nil : PA X [] (tCp G W kNil) := PA_imp pa_nil fun σ H Q ⟨Av, S, st, h⟩ => h Av [] H (Post.refl st) rfl (fun i j a d e z => by simp at z) (fun i a d z => by simp at z)
theorem cap_fr {rv : RV} {S S1 : SS} {d : D} (e : Eng.cap rv S = .ok (.fr d) S1) : rv = .fr d := by
  cases rv with
  | sh d' => cases e
  | fr d' => cases e; rfl
  | br l =>
    have e : (shr (.br l) S).bind (fun d S1 => .ok (RV.sh d) S1) = Eng.R.ok (.fr d) S1 := e
    cases es : shr (.br l) S with
    | ok d S3 => rw [es] at e; cases e
    | exc x S3 => exact (shr_exc es).elim
    | bad => rw [es] at e; cases e
theorem sc_cons {q : SS → R (List RV)} (ha : PE X e (tE G W p)) (hr : PA X es (tCp G W q)) (hs : starEach (e :: es) X.env = (false, eval e X.env) :: starEach es X.env) : PA X (e :: es) (tCp G W (kCap p q)) :=
  PA_imp (pa_cons ha hr hs) fun σ H Q ⟨Av, S, st, h⟩ => by
    refine ⟨Av, S, st, ?_⟩
    unfold kCap at h
    cases e1 : p S with
    | bad => rw [e1] at h; exact h
    | exc x S1 => rw [e1] at h; exact h
    | ok rv S1 =>
      rw [e1] at h
      intro v H1 P
      have h : RdC G W ((Eng.cap rv S1).bind fun r S2 => (q S2).bind fun rs S3 => Eng.R.ok (r :: rs) S3) Av S σ H Q := h
      cases ec : Eng.cap rv S1 with
      | bad => rw [ec] at h; exact h.elim
      | exc x S2 => exact (cap_exc ec).elim
      | ok r S2 =>
        rw [ec] at h
        obtain ⟨Av1, P1, cv⟩ := P.cap st ec
        have new : ∀ a d, r = .fr d → v = .ref a → H a = none := fun a d z w => by
          subst z
          have := cap_fr ec
          subst this
          obtain ⟨_, _, a', e', _, g2, _⟩ := P.ex
          rw [w] at e'; cases e'; exact g2
        refine ⟨Av1, S2, P1.st, ?_⟩
        have h : RdC G W ((q S2).bind fun rs S3 => Eng.R.ok (r :: rs) S3) Av S σ H Q := h
        cases e2 : q S2 with
        | bad => rw [e2] at h; exact h
        | exc x S3 => rw [e2] at h; exact fun c d H' z => h c d H' (z.trans P1)
        | ok rs S3 =>
          rw [e2] at h
          intro Av2 vs H2 P2 ers ap nw
          have old : ∀ a d, r = .fr d → v = .ref a → ∃ o, H1 a = some o := fun a d z w => by
            subst z
            obtain ⟨a', e', g1, _⟩ := cv
            rw [w] at e'; cases e'
            exact (P1.st.dom a g1).imp fun _ z => z.1
          refine h Av2 (v :: vs) H2 (P1.trans P2) ⟨v, vs, rfl, cv.on P1.st P2, ers⟩ ?_ ?_
          · intro i j a d e z1 z2 w1 w2
            cases i with
            | zero =>
              cases j with
              | zero => rfl
              | succ j =>
                obtain ⟨o, y⟩ := old a d (Option.some.inj z1) (Option.some.inj w1)
                rw [nw j a e z2 w2] at y; cases y
            | succ i =>
              cases j with
              | zero =>
                obtain ⟨o, y⟩ := old a e (Option.some.inj z2) (Option.some.inj w2)
                rw [nw i a d z1 w1] at y; cases y
              | succ j => rw [ap i j a d e z1 z2 w1 w2]
          · intro i a d z w
            cases i with
            | zero => exact new a d (Option.some.inj z) (Option.some.inj w)
            | succ i => exact P1.back_none (nw i a d z w)
def setL : List Nat → List V → St → St
  | i :: is, v :: vs, σ => setL is vs (σ.set i (some v))
  | _, _, σ => σ
theorem free_set {S : SS} {i j : Nat} {s : SV} (n : j ≠ i) (h : freeAt S j = true) : freeAt (S.set i s) j = true := by
  unfold freeAt at *
  rw [set_ne n]; exact h
theorem putL_ok {Av Av1 : Addr → Prop} {S : SS} {σ : St} {H H1 : Hp} : ∀ (is : List Nat) (rs : List RV) (vs : List V) (T : SS) (τ : St), SPost G Av S σ H Av1 T τ H1 → Ers (ErC G) Av1 T τ H1 rs vs → ApartC rs vs → NewC H rs vs → is.Nodup → (∀ i ∈ is, freeAt T i = true) → rs.length = is.length →
    SPost G Av S σ H Av1 (putL is rs T) (setL is vs τ) H1
  | [], [], vs, T, τ, P, _, _, _, _, _, _ => by cases vs <;> exact P
  | [], _ :: _, _, _, _, _, _, _, _, _, _, h => by cases h
  | _ :: _, [], _, _, _, _, _, _, _, _, _, h => by cases h
  | i :: is, r :: rs, vs, T, τ, P, ers, ap, nw, nd, fr, hl => by
    obtain ⟨v, vs', rfl, cv, ers⟩ := ers
    have cv : CVOk G Av1 T τ H1 v r := cv
    have fi := fr i (by simp)
    obtain ⟨s1, s2, s3⟩ := cv.put P.st fi
    obtain ⟨ni, nd⟩ := List.nodup_cons.mp nd
    have keep : ∀ {rs : List RV} {vs : List V}, (∀ (k : Nat) (a : Addr) (d : D), rs[k]? = some (RV.fr d) → vs[k]? = some (V.ref a) → ∀ d' : D, ¬ (r = RV.fr d' ∧ v = V.ref a)) → Ers (ErC G) Av1 T τ H1 rs vs → Ers (ErC G) Av1 (T.set i r.sv) (τ.set i (some v)) H1 rs vs := by
      intro rs
      induction rs with
      | nil => intro vs _ z; exact z
      | cons r' rs ih =>
        rintro vs hn ⟨u, us, rfl, c, rest⟩
        refine ⟨u, us, rfl, ?_, ih (fun k a d z w => hn (k + 1) a d z w) rest⟩
        cases r' with
        | sh d => exact c
        | br l => exact c.elim
        | fr d =>
          obtain ⟨a, rfl, g1, g2, g3, g4⟩ := (show CVOk G Av1 T τ H1 u (.fr d) from c)
          refine ⟨a, rfl, g1, fun l hl al => ?_, g3, g4⟩
          obtain ⟨sv, dv, ql, rl⟩ := hl
          by_cases z : l = i
          · subst z
            obtain ⟨sf, hsf, _⟩ := freeAt_get fi
            rw [set_eq hsf] at ql
            cases ql
            have hi : l < τ.length := by rw [← P.st.len]; exact (List.getElem?_eq_some_iff.mp hsf).1
            have al : (τ.set l (some v))[l]? = some (some (.ref a)) := al
            rw [List.getElem?_set_self hi] at al
            cases al
            cases r with
            | sh d' => cases rl
            | br m => exact cv
            | fr d' => exact hn 0 a d rfl rfl d' ⟨rfl, rfl⟩
          · rw [set_ne z] at ql
            have al : (τ.set i (some v))[l]? = some (some (.ref a)) := al
            rw [set_ne z] at al
            exact g2 l ⟨sv, dv, ql, rl⟩ al
    have P' : SPost G Av S σ H Av1 (T.set i r.sv) (τ.set i (some v)) H1 := by
      refine ⟨P.frame, P.stay, P.sub, P.held, fun a ra => ?_, fun l d q => ?_, fun l d q => ?_, s1⟩
      · rcases s2 a ra with z | ⟨z, d, e⟩
        · exact P.roots a z
        · exact .inr (nw 0 a d (by rw [e]; rfl) (by rw [z]; rfl))
      · obtain ⟨⟨d', e⟩, e2⟩ := P.ios l d q
        obtain ⟨k1, k2⟩ := s3 l d' (.inl e)
        exact ⟨⟨d', k1.trans e⟩, k2.trans e2⟩
      · obtain ⟨e, e2⟩ := P.lks l d q
        obtain ⟨k1, k2⟩ := s3 l d (.inr e)
        exact ⟨k1.trans e, k2.trans e2⟩
    exact putL_ok is rs vs' _ _ P' (keep (fun k a d z w d' y => by
      have := ap 0 (k + 1) a d' d (by rw [y.1]; rfl) z (by rw [y.2]; rfl) w
      cases this) ers) (fun a b c d e z1 z2 w1 w2 => by
      have := ap (a + 1) (b + 1) c d e z1 z2 w1 w2
      omega) (fun k a d z w => nw (k + 1) a d z w) nd (fun j hj => free_set (fun z => ni (z ▸ hj)) (fr j (by simp [hj]))) (by simpa using hl)
/-- x, y, z = a, b, c -/
theorem b_par3 {i j l : Nat} {x y z : Str} {a b c : Expr} {px py pz pt pos : Pos} {kt k2 : Nat} {pt2 : Pos} {q : SS → R (List RV)} (hc : X.calm = true) (hN : X.N.Nodup) (hi : X.N[i]? = some x) (hj : X.N[j]? = some y) (hl : X.N[l]? = some z) (hij : i ≠ j) (hil : i ≠ l) (hjl : j ≠ l)
    (hx : X.env.scope.names.lookup x = some .local) (hy : X.env.scope.names.lookup y = some .local) (hz : X.env.scope.names.lookup z = some .local) (ha : PA X [a, b, c] (tCp G W q))
    (hw : swappedStores [.Tuple [.Name x px, .Name y py, .Name z pz] kt pt] (.Tuple [a, b, c] k2 pt2) X.env = pure (some [x, y, z])) :
    PS X (.Assign [.Tuple [.Name x px, .Name y py, .Name z pz] kt pt] (.Tuple [a, b, c] k2 pt2) pos) (tS G W fun S => (q S).toF fun rs S1 => if [i, j, l].Nodup ∧ ([i, j, l].all fun i => freeAt S1 i) = true ∧ rs.length = [i, j, l].length then .nx (putL [i, j, l] rs S1) else .bad) :=
  PS_imp (ps_par3 hc hN hi hj hl hij hil hjl hx hy hz ha hw) fun D σ H ⟨Av, S, st, h⟩ => by
    refine ⟨Av, S, st, ?_⟩
    have h : RdS G W ((q S).toF fun rs S1 => if [i, j, l].Nodup ∧ ([i, j, l].all fun i => freeAt S1 i) = true ∧ rs.length = [i, j, l].length then .nx (putL [i, j, l] rs S1) else .bad) Av S σ H D := h
    cases e : q S with
    | bad => rw [e] at h; exact h
    | exc x S1 => rw [e] at h; exact fun c d H' z => h c d σ H' z.s
    | ok rs S1 =>
      rw [e] at h
      intro Av1 vs H1 P ers ap nw
      have h : RdS G W (if [i, j, l].Nodup ∧ ([i, j, l].all fun i => freeAt S1 i) = true ∧ rs.length = [i, j, l].length then .nx (putL [i, j, l] rs S1) else .bad) Av S σ H D := h
      split at h
      · rename_i hz
        have fin := h Av1 _ H1 (putL_ok [i, j, l] rs vs S1 σ P.s ers ap nw hz.1 (fun k hk => List.all_eq_true.mp hz.2.1 k hk) hz.2.2)
        have hlen : rs.length = 3 := hz.2.2
        obtain ⟨r1, r2, r3, rfl⟩ : ∃ r1 r2 r3, rs = [r1, r2, r3] := by
          match rs, hlen with
          | [a, b, c], _ => exact ⟨a, b, c, rfl⟩
        obtain ⟨u, t1, rfl, _, v, t2, rfl, _, w, t3, rfl, _, e0⟩ := ers
        have e0 : t3 = [] := e0
        subst e0
        exact ⟨u, v, w, rfl, fin⟩
      · exact h.elim
end
end Eng

namespace Eng
open PySem PySem.Spec L2
open PyProof.Rows hiding St
section
variable {X : Cx} {G : Gs} {W : WX} {a b c e : Expr} {es : List Expr} {pos p2 pp : Pos} {p q o : KE} {x : Str}

/-! ### methods that change a list -/
def MM.nm : MM → String
  | .append => "append" | .pop => "pop" | .popAt => "pop" | .insert => "insert" | .extend => "extend" | .reverse => "reverse" | .update => "update" | .setdefault => "setdefault" | .remove => "remove" | .dpop => "pop"
def rMm (G : Gs) (f : Eng.D → List Eng.D → Option (Eng.D × Eng.D)) : V → List V → Hp → VK → Prop := fun x xs H Q => ∃ (Av : Addr → Prop) (d : Eng.D) (ds : List Eng.D) (y d' : Eng.D) (r : Addr), x = .ref r ∧ Av r ∧ Vw G Av H d x ∧ Reps G Av H ds xs ∧ f d ds = some (y, d') ∧
  ∀ v o, Rep G Av H y v → Vw G Av (upd H r o) d' (.ref r) → MutD d' = true → Q v (upd H r o)
theorem o_append : MtR X "list.append" (rMm G (mmD .append)) := by
  rintro pins s σ H x xs v us Q I rx rv ⟨Av, d, ds, y, d', r, rfl, hr, hd, hds, e, k⟩
  refine mt_append pins s σ H _ xs v us Q I rx rv ?_
  cases d with
  | lst zs =>
    cases ds with
    | nil => cases e
    | cons w ws =>
      cases ws with
      | cons _ _ => cases e
      | nil =>
        have e : (if zs.length < sizeLine then some (Eng.D.non, Eng.D.lst (zs ++ [w])) else none) = some (y, d') := e
        split at e
        · rename_i hz
          cases e
          obtain ⟨r', vs, e1, h1, h2⟩ := hd
          cases e1
          obtain ⟨u, _, rfl, hu, rfl⟩ := hds
          exact ⟨r, vs, u, rfl, rfl, h1, by rw [h2.length]; exact hz, k .non _ rfl ⟨r, _, rfl, upd_same, (h2.snoc hu).touch hr⟩ rfl⟩
        · cases e
  | _ => cases e
theorem o_pop : MtR X "list.pop" (rMm G (mmD .pop)) := by
  rintro pins s σ H x xs v us Q I rx rv ⟨Av, d, ds, y, d', r, rfl, hr, hd, hds, e, k⟩
  refine mt_pop pins s σ H _ xs v us Q I rx rv ?_
  cases d with
  | lst zs =>
    cases ds with
    | cons w ws => cases e
    | nil =>
      have e : (zs[zs.length - 1]?).map (fun y => (y, Eng.D.lst zs.dropLast)) = some (y, d') := e
      obtain ⟨z, e1, e2⟩ := Option.map_eq_some_iff.mp e
      cases e2
      obtain ⟨r', vs, e3, h1, h2⟩ := hd
      cases e3
      obtain ⟨u, g1, g2⟩ := h2.get' e1
      refine ⟨r, vs, u, rfl, hds, h1, by rw [h2.length]; exact g1, k u _ g2 ⟨r, _, rfl, upd_same, ?_⟩ rfl⟩
      have := h2.take (zs.length - 1)
      rw [List.dropLast_eq_take, List.dropLast_eq_take, h2.length]
      exact this.touch hr
  | _ => cases e
theorem o_popAt : MtR X "list.pop" (rMm G (mmD .popAt)) := by
  rintro pins s σ H x xs v us Q I rx rv ⟨Av, d, ds, y, d', r, rfl, hr, hd, hds, e, k⟩
  refine mt_popAt pins s σ H _ xs v us Q I rx rv ?_
  cases d with
  | lst zs =>
    cases ds with
    | nil => cases e
    | cons w ws =>
      cases w with
      | int i =>
        cases ws with
        | cons _ _ => cases e
        | nil =>
          have e : (if decide (-(2 ^ 63) ≤ i) && decide (i < 2 ^ 63) then (seqIndex? i zs.length).bind fun k => (zs[k]?).map fun y => (y, Eng.D.lst (zs.eraseIdx k)) else none) = some (y, d') := e
          split at e
          · rename_i hz
            simp only [decide_eq_true_eq, Bool.and_eq_true] at hz
            obtain ⟨j, e1, e⟩ := Option.bind_eq_some_iff.mp e
            obtain ⟨z, e2, e3⟩ := Option.map_eq_some_iff.mp e
            cases e3
            obtain ⟨r', vs, e4, h1, h2⟩ := hd
            cases e4
            obtain ⟨u, _, rfl, hu, rfl⟩ := hds
            cases (show u = .int i from hu)
            obtain ⟨u, g1, g2⟩ := h2.get' e2
            exact ⟨r, vs, i, j, u, rfl, rfl, h1, hz.1, hz.2, by rw [h2.length]; exact e1, g1, k u _ g2 ⟨r, _, rfl, upd_same, (h2.eraseIdx j).touch hr⟩ rfl⟩
          · cases e
      | _ => cases e
  | _ => cases e
theorem o_reverse : MtR X "list.reverse" (rMm G (mmD .reverse)) := by
  rintro pins s σ H x xs v us Q I rx rv ⟨Av, d, ds, y, d', r, rfl, hr, hd, hds, e, k⟩
  refine mt_reverse pins s σ H _ xs v us Q I rx rv ?_
  cases d with
  | lst zs =>
    cases ds with
    | cons w ws => cases e
    | nil =>
      cases e
      obtain ⟨r', vs, e3, h1, h2⟩ := hd
      cases e3
      exact ⟨r, vs, rfl, hds, h1, k .non _ rfl ⟨r, _, rfl, upd_same, h2.reverse.touch hr⟩ rfl⟩
  | _ => cases e
theorem o_extend : MtR X "list.extend" (rMm G (mmD .extend)) := by
  rintro pins s σ H x xs v us Q I rx rv ⟨Av, d, ds, y, d', r, rfl, hr, hd, hds, e, k⟩
  refine mt_extend pins s σ H _ xs v us Q I rx rv ?_
  cases d with
  | lst zs =>
    cases ds with
    | nil => cases e
    | cons w ws =>
      cases w with
      | lst ys =>
        cases ws with
        | cons _ _ => cases e
        | nil =>
          have e : (if zs.length + ys.length ≤ sizeLine then some (Eng.D.non, Eng.D.lst (zs ++ ys)) else none) = some (y, d') := e
          split at e
          · rename_i hz
            cases e
            obtain ⟨r', vs, e1, h1, h2⟩ := hd
            cases e1
            obtain ⟨u, _, rfl, ⟨b, ws, rfl, nb, g1, g2⟩, rfl⟩ := hds
            exact ⟨r, b, vs, ws, rfl, rfl, h1, g1, by rw [h2.length, g2.length]; exact hz, k .non _ rfl ⟨r, _, rfl, upd_same, (h2.append g2).touch hr⟩ rfl⟩
          · cases e
      | _ => cases e
  | _ => cases e
theorem tri_mm {K : PySem.W.Frag} {f : Eng.D → List Eng.D → Option (Eng.D × Eng.D)} {i : Nat} {g : SS → R (List Eng.D)} {σ : St} {H : Hp} {Q : VK} (h : tE G W (kMm isSeqL f i g) σ H Q) :
    ∃ v, σ[i]? = some (some v) ∧ tyV K "list" v H ∧ tL G W (ErD G) g σ H fun vs H1 => rMm G f v vs H1 Q := by
  obtain ⟨Av, S, st, h⟩ := h
  unfold kMm at h
  split at h
  · rename_i d0 e0
    split at h
    · rename_i hm
      obtain ⟨v, h1, h2, _⟩ := st.view (show dAt S i = some d0 from e0)
      refine ⟨v, h1, ?_, Av, S, st, ?_⟩
      · cases d0 with
        | lst zs =>
          obtain ⟨a, vs, rfl, h3, _⟩ := h2
          exact .inl ⟨rfl, _, SqL.of h3⟩
        | _ => cases hm
      · cases e : g S with
        | bad => rw [e] at h; exact h
        | exc x S1 => rw [e] at h; exact h
        | ok ds S1 =>
          rw [e] at h
          intro Av1 vs H1 P1 r1
          have h := h.trans P1
          simp only [R.bind] at h
          split at h
          · rename_i d e1
            split at h
            · rename_i y d' e2
              split at h
              · rename_i S2 e3
                obtain ⟨sv, hsv, hmu⟩ := Option.bind_eq_some_iff.mp e1
                obtain ⟨r, k1, k2, k3, k4⟩ := P1.st.ow i sv d hsv (sv.mu_rt hmu)
                rw [show σ[i]? = some (some (.ref r)) from k1] at h1
                cases h1
                refine ⟨Av1, d, ds, y, d', r, rfl, k2, k3, r1.reps, e2, fun v o ry hv hm' => ?_⟩
                exact h v _ ⟨Av1, Post.mutate P1.st e3 k1 hv hm', ry.touch k2⟩
              · exact h.elim
            · exact h.elim
          · exact h.elim
    · exact h.elim
  · exact h.elim
def MM.id : MM → String
  | .append => "list.append" | .pop => "list.pop" | .popAt => "list.pop" | .insert => "list.insert" | .extend => "list.extend" | .reverse => "list.reverse" | .update => "dict.update" | .setdefault => "dict.setdefault" | .remove => "list.remove" | .dpop => "dict.pop"
def MM.ok : MM → Bool
  | .append => true | .pop => true | .popAt => true | .extend => true | .reverse => true
  | _ => false
theorem o_mm {m : MM} (h : m.ok = true) : MtR X m.id (rMm G (mmD m)) := by
  cases m with
  | append => exact o_append
  | pop => exact o_pop
  | popAt => exact o_popAt
  | extend => exact o_extend
  | reverse => exact o_reverse
  | _ => cases h
theorem mm_slot {m : MM} (h : m.ok = true) : PySem.Slot "list" (Str.ofString m.nm) m.id ∧ typeOf (.builtin m.id) = pure (.type "method_descriptor") := by
  cases m with
  | append => exact ⟨PySem.F.slot_list_append, PySem.F.type_list_append⟩
  | pop => exact ⟨PySem.F.slot_list_pop, PySem.F.type_list_pop⟩
  | popAt => exact ⟨PySem.F.slot_list_pop, PySem.F.type_list_pop⟩
  | extend => exact ⟨PySem.F.slot_list_extend, PySem.F.type_list_extend⟩
  | reverse => exact ⟨PySem.F.slot_list_reverse, PySem.F.type_list_reverse⟩
  | _ => cases h
/-- x.m(..) -/
theorem s_mm0 {m : MM} {i : Nat} {g : SS → R (List Eng.D)} {apos cpos : Pos} (hok : m.ok = true) (hN : X.N[i]? = some x) (hv : Vis X.env.scope x) (hd : (x == ("__debug__" : Str)) = false) (hcd : (x == ("__classdict__" : Str)) = false) (hl : (apos.endLine == cpos.line) = true)
    (hb : attributeBase (.Name x pp) (Str.ofString m.nm) X.env (eval (.Name x pp) X.env) = eval (.Name x pp) X.env) (hg : g = kNil) :
    PE X (.Call (.Attribute (.Name x pp) (Str.ofString m.nm) apos) [] [] cpos) (tE G W (kMm isSeqL (mmD m) i g)) := by
  subst hg
  refine PE_imp (pe_bm0 PySem.F.plainAttrs_list (mm_slot hok).1 (mm_slot hok).2 (o_mm (G := G) hok) (pe_var hN hv hd hcd) hb hl) fun σ H Q h => ?_
  obtain ⟨v, h1, h2, Av, S, st, h3⟩ := tri_mm (K := X.K) h
  exact ⟨v, h1, h2, h3 Av [] H (Post.refl st) rfl⟩
theorem s_mm {m : MM} {i : Nat} {g : SS → R (List Eng.D)} {apos cpos : Pos} (hok : m.ok = true) (hN : X.N[i]? = some x) (hv : Vis X.env.scope x) (hd : (x == ("__debug__" : Str)) = false) (hcd : (x == ("__classdict__" : Str)) = false) (hl : (apos.endLine == cpos.line) = true)
    (hb : attributeBase (.Name x pp) (Str.ofString m.nm) X.env (eval (.Name x pp) X.env) = eval (.Name x pp) X.env) (ha : PA X (e :: es) (tL G W (ErD G) g))
    (hfew : ((backTo cpos (starEach (e :: es) X.env)).all (fun x => !x.1) && (backToKw cpos (keywordEach [] X.env)).all (fun x => x.1.isSome)
      && decide ((e :: es).length + ([] : List Keyword).length + (if ([] : List Keyword).isEmpty then 0 else 1) < 30)) = true)
    (hs : starEach (e :: es) X.env = (false, eval e X.env) :: starEach es X.env) (hpl : (backTo cpos (starEach es X.env)).any (·.1) = false) :
    PE X (.Call (.Attribute (.Name x pp) (Str.ofString m.nm) apos) (e :: es) [] cpos) (tE G W (kMm isSeqL (mmD m) i g)) :=
  PE_imp (pe_bm PySem.F.plainAttrs_list (mm_slot hok).1 (mm_slot hok).2 (o_mm (G := G) hok) (pe_var hN hv hd hcd) ha hb hfew hl hs hpl) fun σ H Q h => tri_mm (K := X.K) h

/-! ### isinstance -/
def Ty.ok : Ty → Bool
  | .cls _ _ => false
  | _ => true
theorem isT_kit {K : PySem.W.Frag} {d : Eng.D} {t : Ty} {r : Bool} (h : isT d t = some r) (ht : t.ok = true) : ∃ n, tyD d = some n ∧ PySem.W.kitOne K (.type n) (.type t.nm) = some r := by
  cases d with
  | scr _ => cases h
  | exo _ _ _ => cases h
  | obj _ _ _ => cases h
  | _ =>
    refine ⟨_, rfl, kit_ty ?_⟩
    cases t with
    | cls _ _ => cases ht
    | _ => cases h; decide +kernel
theorem vx_ty {K : PySem.W.Frag} {Av : Addr → Prop} {H : Hp} {d : Eng.D} {v : V} {n : String} (h : Vx G Av H d v) (e : tyD d = some n) : TyX K H v (.type n) := by
  refine .base ?_
  cases d with
  | non => cases e; cases (show v = .non from h.1); exact .non
  | bl b => cases e; cases (show v = .bl b from h.1); exact .bl b
  | int b => cases e; cases (show v = .int b from h.1); exact .int b
  | str b => cases e; cases (show v = .str b from h.1); exact .str b
  | lst ds => cases e; obtain ⟨a, vs, rfl, h1, _⟩ := h.1; exact .lst h1
  | tup ds => cases e; obtain ⟨a, vs, rfl, h1, _⟩ := h.1; exact .tup h1
  | dic ks ds =>
    cases e
    obtain ⟨a, vs, rfl, h1, _⟩ := h.1
    rcases h1 with ⟨kk, _, _, h3⟩ | ⟨kk, _, _, h3⟩
    · exact .dK h3
    · exact .dT h3
  | obj _ _ _ => cases e
  | scr _ => cases e
  | exo _ _ _ => cases e
theorem Ty.boot {t : Ty} (h : t.ok = true) : bootBuiltins (Str.ofString t.nm) = some (.type t.nm) ∧ Str.ofString t.nm ≠ "__name__" ∧ (Str.ofString t.nm == ("__debug__" : Str)) = false := by
  cases t with
  | cls _ _ => cases h
  | _ => refine ⟨?_, ?_, ?_⟩ <;> decide +kernel
theorem s_tyName {t : Ty} {pt : Pos} (h : t.ok = true) (hg : Gl X (Str.ofString t.nm)) (hm : X.mg (Str.ofString t.nm) = none) : PE X (.Name (Str.ofString t.nm) pt) (tC (.ty t.nm)) :=
  pe_bltn hg hm (Ty.boot h).1 (show RelV (.ty t.nm) (.type t.nm) from rfl) (Ty.boot h).2.1 (Ty.boot h).2.2
theorem s_isi1 {t : Ty} {pn pt : Pos} (ht : t.ok = true) (hg : Gl X "isinstance") (hm : X.mg "isinstance" = none) (hgt : Gl X (Str.ofString t.nm)) (hmt : X.mg (Str.ofString t.nm) = none) (ha : PE X a (tE G W p))
    (hs1 : starEach [a, .Name (Str.ofString t.nm) pt] X.env = (false, eval a X.env) :: starEach [.Name (Str.ofString t.nm) pt] X.env) (hpl : (backTo pos (starEach [.Name (Str.ofString t.nm) pt] X.env)).any (·.1) = false) :
    PE X (.Call (.Name "isinstance" pn) [a, .Name (Str.ofString t.nm) pt] [] pos) (tE G W (kUn (isTs [t]) p)) :=
  PE_imp (pe_callB call_isi hg hm (by decide +kernel) (pa_cons ha (pa_cons (s_tyName ht hgt hmt) pa_nil rfl) hs1) (by decide +kernel) (by decide +kernel) hs1 hpl) fun σ H Q ⟨Av, S, st, h⟩ =>
    tE_bind st h fun r S1 v H1 P1 h1 => by
      obtain ⟨Av1, P1, v1⟩ := P1.vok st
      obtain ⟨ro, e, h1⟩ := prim_some (h1.trans P1)
      obtain ⟨d, e1, e⟩ := Option.bind_eq_some_iff.mp e
      have vd := v1.vx P1.st e1
      have e : (match isT d t with | some true => some (bo true) | some false => isTs [] d | none => none) = some ro := e
      cases ei : isT d t with
      | none => rw [ei] at e; cases e
      | some r =>
        obtain ⟨n, e2, e3⟩ := isT_kit (K := X.K) ei ht
        have er : ro = bo r := by rw [ei] at e; cases r <;> (cases e; rfl)
        subst er
        exact ⟨v, .ty t.nm, _, _, r, rfl, .ty _, vx_ty vd e2, e3, h1 (.bl r) H1 ⟨Av1, Post.refl P1.st, (rfl : V.bl r = V.bl r)⟩⟩
end
end Eng

namespace Eng
open PySem PySem.Spec L2
open PyProof.Rows hiding St

/-! ### what a def promises -/
section
variable (G : Gs) (Av : Addr → Prop) (H : Hp)
def Args : List Bool → List D → List V → Prop
  | [], [], vs => vs = []
  | m :: ms, d :: ds, vs => ∃ v r, vs = v :: r ∧ (if m then (∃ p, v = .ref p ∧ Av p) ∧ Vw G Av H d v ∧ MutD d = true else Rep G Av H d v) ∧ Args ms ds r
  | _, _, _ => False
def Outs : List Bool → List V → List D → Prop
  | [], _, ds => ds = []
  | true :: ms, vs, ds => ∃ v vr d r, vs = v :: vr ∧ ds = d :: r ∧ Vw G Av H d v ∧ MutD d = true ∧ Outs ms vr r
  | false :: ms, vs, ds => ∃ v vr, vs = v :: vr ∧ Outs ms vr ds
end
def IoDis (ms : List Bool) (vs : List V) : Prop := ∀ (i j : Nat) (v : V), ms[i]? = some true → ms[j]? = some true → vs[i]? = some v → vs[j]? = some v → i = j
def IoAt (ms : List Bool) (vs : List V) (a : Addr) : Prop := ∃ i : Nat, ms[i]? = some true ∧ vs[i]? = some (.ref a)
structure CPost (G : Gs) (Av : Addr → Prop) (ms : List Bool) (vs : List V) (H : Hp) (Av' : Addr → Prop) (H' : Hp) (outs : List D) : Prop where
  frame : ∀ a o, H a = some o → ¬ IoAt ms vs a → NT o → H' a = some o
  stay : ∀ a o, H a = some o → ∃ o', H' a = some o'
  sub : ∀ a, Av' a → Av a ∨ H a = none
  held : ∀ a, Av a → Av' a
  dom : ∀ a, Av' a → ∃ o, H' a = some o ∧ Mu o
  tabs : Tabs G H'
  outs : Outs G Av' H' ms vs outs
def RvC (G : Gs) (Av' : Addr → Prop) (H H' : Hp) (fr : Bool) (d : D) (v : V) : Prop :=
  if fr then ∃ p, v = .ref p ∧ Av' p ∧ H p = none ∧ Vw G Av' H' d v ∧ MutD d = true else Rep G Av' H' d v
def XcOk (G : Gs) (Av' : Addr → Prop) (H' : Hp) (e : D) (cls : Value) (dx : Option Addr) : Prop :=
  ∃ c ns ds, e = .exo c ns ds ∧ cls = .ref (G.c c) ∧ ∃ a vs, dx = some a ∧ ¬ Av' a ∧ H' a = some (.xd (ns.zip vs)) ∧ ns.length = vs.length ∧ Reps G Av' H' ds vs
def spG (G : Gs) (sg : FSig) : Sp := fun vs H Q E => ∃ Av ds, ((∀ a, Av a → ∃ o, H a = some o ∧ Mu o) ∧ Tabs G H) ∧ Args G Av H sg.md ds vs ∧ IoDis sg.md vs ∧ match sg.m ds with
  | .ok fr d outs => ∀ Av' v H', CPost G Av sg.md vs H Av' H' outs → RvC G Av' H H' fr d v → Q v H'
  | .exc e outs => ∀ Av' cls dx H', CPost G Av sg.md vs H Av' H' outs → XcOk G Av' H' e cls dx → E cls dx H'
  | .bad => False

/-! ### the callee -/
def initS : List Bool → List D → SS
  | m :: ms, d :: ds => (if m then .io d else .sh d) :: initS ms ds
  | _, _ => []
def slotsOf (n : Nat) (ms : List Bool) (ds : List D) : SS := initS ms ds ++ List.replicate (n - ds.length) .no
def outsS : List Bool → SS → Option (List D)
  | [], _ => some []
  | true :: ms, .io d :: S => (outsS ms S).map fun r => d :: r
  | false :: ms, _ :: S => outsS ms S
  | _, _ => none
def runS (n : Nat) (ms : List Bool) (b : SS → F) (ds : List D) : FO := if ms.length = ds.length then (match b (slotsOf n ms ds) with
    | .nx S => (match outsS ms S with
      | some o => .ok false .non o
      | none => .bad)
    | .rt fr d S => (match outsS ms S with
      | some o => .ok fr d o
      | none => .bad)
    | .exc e S => (match outsS ms S with
      | some o => .exc e o
      | none => .bad)
    | _ => .bad) else .bad
section
variable {G : Gs} {Av Av' : Addr → Prop} {H H' : Hp}
theorem Args.len : ∀ {ms : List Bool} {ds : List D} {vs : List V}, Args G Av H ms ds vs → vs.length = ms.length ∧ ds.length = ms.length
  | [], [], vs, h => by cases (show vs = [] from h); exact ⟨rfl, rfl⟩
  | m :: ms, d :: ds, vs, ⟨v, r, e, _, h⟩ => by
    obtain ⟨h1, h2⟩ := Args.len h
    subst e
    exact ⟨by simp [h1], by simp [h2]⟩
  | [], _ :: _, _, h => h.elim
  | _ :: _, [], _, h => h.elim
theorem Args.get : ∀ {ms : List Bool} {ds : List D} {vs : List V} {i : Nat} {s : SV}, Args G Av H ms ds vs → (initS ms ds)[i]? = some s →
    ∃ v, vs[i]? = some v ∧ ((∃ d p, s = .io d ∧ ms[i]? = some true ∧ v = .ref p ∧ Av p ∧ Vw G Av H d v ∧ MutD d = true) ∨ ∃ d, s = .sh d ∧ Rep G Av H d v)
  | [], [], vs, i, s, h, e => by simp [initS] at e
  | m :: ms, d :: ds, vs, 0, s, ⟨v, r, e1, h1, h2⟩, e => by
    subst e1
    have e : some (if m then SV.io d else .sh d) = some s := e
    cases e
    refine ⟨v, rfl, ?_⟩
    cases m with
    | true =>
      obtain ⟨⟨p, q1, q2⟩, q3, q4⟩ := (if_pos rfl : (if true = true then _ else _) = _) ▸ h1
      exact .inl ⟨d, p, rfl, rfl, q1, q2, q3, q4⟩
    | false => exact .inr ⟨d, rfl, h1⟩
  | m :: ms, d :: ds, vs, i + 1, s, ⟨v, r, e1, h1, h2⟩, e => by
    subst e1
    exact Args.get (ms := ms) h2 (show (initS ms ds)[i]? = some s from e)
  | [], _ :: _, _, _, _, h, _ => h.elim
  | _ :: _, [], _, _, _, h, _ => h.elim
theorem Args.io : ∀ {ms : List Bool} {ds : List D} {vs : List V} {i : Nat}, Args G Av H ms ds vs → ms[i]? = some true → ∃ d, (initS ms ds)[i]? = some (.io d)
  | [], _, _, _, _, e => by simp at e
  | m :: ms, d :: ds, vs, 0, _, e => by
    have e : some m = some true := e
    cases e
    exact ⟨d, rfl⟩
  | m :: ms, d :: ds, vs, i + 1, ⟨v, r, e1, h1, h2⟩, e => Args.io (ms := ms) h2 (show ms[i]? = some true from e)
  | _ :: _, [], _, _, h, _ => h.elim
theorem initS_len : ∀ {ms : List Bool} {ds : List D}, ms.length = ds.length → (initS ms ds).length = ds.length
  | [], [], _ => rfl
  | m :: ms, d :: ds, h => by
    have h : ms.length = ds.length := by simpa using h
    show (initS ms ds).length + 1 = ds.length + 1
    rw [initS_len h]
  | [], _ :: _, h => by cases h
  | _ :: _, [], h => by cases h
theorem slots_get {n : Nat} {ms : List Bool} {ds : List D} {i : Nat} {s : SV} (hl : ms.length = ds.length) (e : (slotsOf n ms ds)[i]? = some s) : (initS ms ds)[i]? = some s ∨ s = .no := by
  unfold slotsOf at e
  by_cases hi : i < (initS ms ds).length
  · rw [List.getElem?_append_left hi] at e; exact .inl e
  · rw [List.getElem?_append_right (by omega), List.getElem?_replicate] at e
    split at e <;> cases e
    exact .inr rfl
theorem slots_io {n : Nat} {ms : List Bool} {ds : List D} {i : Nat} {s : SV} (e : (initS ms ds)[i]? = some s) : (slotsOf n ms ds)[i]? = some s := by
  unfold slotsOf
  rw [List.getElem?_append_left (List.getElem?_eq_some_iff.mp e).1]; exact e
theorem start_get {n : Nat} {vs : List V} {i : Nat} {v : V} (e : vs[i]? = some v) : (vs.map some ++ List.replicate n none)[i]? = some (some v) := by
  have hi := (List.getElem?_eq_some_iff.mp e).1
  rw [List.getElem?_append_left (by simpa using hi), List.getElem?_map, e]; rfl
theorem start_ok {N : List Str} {ms : List Bool} {ds : List D} {vs : List V} (dm : (∀ a, Av a → ∃ o, H a = some o ∧ Mu o) ∧ Tabs G H) (ha : Args G Av H ms ds vs) (hd : IoDis ms vs) (hn : vs.length ≤ N.length) : StOk G Av (slotsOf N.length ms ds) (L2.start N vs) H := by
  obtain ⟨l1, l2⟩ := ha.len
  have hol : ∀ {i}, Holds (slotsOf N.length ms ds) i → ms[i]? = some true ∧ ∃ v, vs[i]? = some v := fun {i} ⟨s, d, q, r⟩ => by
    rcases slots_get l2.symm q with q | rfl
    · obtain ⟨v, h1, ⟨d', p, rfl, h2, _⟩ | ⟨d', rfl, _⟩⟩ := ha.get q
      · exact ⟨h2, v, h1⟩
      · cases r
    · cases r
  refine ⟨?_, dm.1, dm.2, fun i d q => ?_, fun i s d q r => ?_, fun i j p h1 h2 a1 a2 => ?_⟩
  · unfold slotsOf L2.start
    rw [List.length_append, List.length_append, List.length_map, List.length_replicate, List.length_replicate, initS_len l2.symm]
    omega
  · rcases slots_get l2.symm q with q | z
    · obtain ⟨v, h1, ⟨d', p, z, _⟩ | ⟨d', z, h2⟩⟩ := ha.get q
      · cases z
      · cases z; exact ⟨v, start_get h1, h2⟩
    · cases z
  · rcases slots_get l2.symm q with q | rfl
    · obtain ⟨v, h1, ⟨d', p, rfl, h2, rfl, h3, h4, h5⟩ | ⟨d', rfl, _⟩⟩ := ha.get q
      · cases r
        exact ⟨p, start_get h1, h3, h4, h5⟩
      · cases r
    · cases r
  · obtain ⟨m1, v, e1⟩ := hol h1
    obtain ⟨m2, w, e2⟩ := hol h2
    have f1 : At (L2.start N vs) i p := a1
    have g1 := start_get (n := N.length - vs.length) e1
    have g2 := start_get (n := N.length - vs.length) e2
    rw [show (vs.map some ++ List.replicate (N.length - vs.length) none)[i]? = some (some (.ref p)) from a1] at g1
    rw [show (vs.map some ++ List.replicate (N.length - vs.length) none)[j]? = some (some (.ref p)) from a2] at g2
    cases g1; cases g2
    exact hd i j _ m1 m2 e1 e2
theorem outs_of : ∀ {ms : List Bool} {vs : List V} {S : SS} {outs : List D}, vs.length = ms.length → outsS ms S = some outs → (∀ (i : Nat) (d : D), ms[i]? = some true → S[i]? = some (.io d) → ∃ v, vs[i]? = some v ∧ Vw G Av' H' d v ∧ MutD d = true) → Outs G Av' H' ms vs outs
  | [], vs, S, outs, _, e, _ => by cases e; exact rfl
  | true :: ms, [], _, _, l, _, _ => by cases l
  | false :: ms, [], _, _, l, _, _ => by cases l
  | true :: ms, v :: vs, [], outs, l, e, _ => by cases e
  | true :: ms, v :: vs, s :: S, outs, l, e, h => by
    cases s with
    | io d =>
      obtain ⟨r, e1, rfl⟩ := Option.map_eq_some_iff.mp (show (outsS ms S).map (fun r => d :: r) = some outs from e)
      obtain ⟨v', h1, h2, h3⟩ := h 0 d rfl rfl
      have h1 : some v = some v' := h1
      cases h1
      exact ⟨v, vs, d, r, rfl, rfl, h2, h3, outs_of (by simpa using l) e1 fun i d a b => h (i + 1) d a b⟩
    | _ => cases e
  | false :: ms, v :: vs, [], outs, l, e, _ => by cases e
  | false :: ms, v :: vs, s :: S, outs, l, e, h => ⟨v, vs, rfl, outs_of (by simpa using l) (show outsS ms S = some outs from e) fun i d a b => h (i + 1) d a b⟩
theorem callee_post {N : List Str} {ms : List Bool} {ds : List D} {vs : List V} {S' : SS} {σ' : St} {outs : List D} (ha : Args G Av H ms ds vs) (P : SPost G Av (slotsOf N.length ms ds) (L2.start N vs) H Av' S' σ' H') (e : outsS ms S' = some outs) : CPost G Av ms vs H Av' H' outs := by
  obtain ⟨l1, l2⟩ := ha.len
  have root : ∀ {a}, Root (slotsOf N.length ms ds) (L2.start N vs) a → IoAt ms vs a ∧ ∃ (i : Nat) (d : D), S'[i]? = some (.io d) ∧ At σ' i a := fun {a} ⟨i, ⟨s, d, q, r⟩, hat⟩ => by
    rcases slots_get l2.symm q with q' | rfl
    · obtain ⟨v, h1, ⟨d', p, rfl, h2, rfl, _⟩ | ⟨d', rfl, _⟩⟩ := ha.get q'
      · have g1 := start_get (n := N.length - vs.length) h1
        rw [show (vs.map some ++ List.replicate (N.length - vs.length) none)[i]? = some (some (.ref a)) from hat] at g1
        cases g1
        obtain ⟨⟨d2, h3⟩, h4⟩ := P.ios i d' q
        exact ⟨⟨i, h2, h1⟩, i, d2, h3, by show σ'[i]? = _; rw [h4]; exact hat⟩
      · cases r
    · cases r
  refine ⟨fun a o h n t => P.frame a o h (fun r => n (root r).1) t, P.stay, P.sub, fun a h => ?_, P.st.dom, P.st.tb, outs_of l1 e fun i d hm q => ?_⟩
  · by_cases r : Root (slotsOf N.length ms ds) (L2.start N vs) a
    · obtain ⟨_, i, d, h1, h2⟩ := root r
      obtain ⟨p, h3, h4, _⟩ := P.st.ow i _ d h1 rfl
      cases h3.inj h2
      exact h4
    · exact P.held a h r
  · obtain ⟨d0, e0⟩ := ha.io hm
    obtain ⟨v, h1, ⟨d', p, z, h2, rfl, _⟩ | ⟨d', z, _⟩⟩ := ha.get e0
    · obtain ⟨_, h4⟩ := P.ios i d0 (slots_io e0)
      obtain ⟨p', h5, h6, h7, h8⟩ := P.st.ow i _ d q rfl
      have g1 := start_get (n := N.length - vs.length) h1
      have h5 : σ'[i]? = some (some (.ref p')) := h5
      rw [h4] at h5
      rw [show (vs.map some ++ List.replicate (N.length - vs.length) none)[i]? = some (some (.ref p')) from h5] at g1
      cases g1
      exact ⟨_, h1, h7, h8⟩
    · cases z
theorem callee_ret {N : List Str} {ms : List Bool} {ds : List D} {vs : List V} {S' : SS} {σ' : St} {fr : Bool} {d : D} {v : V} (ha : Args G Av H ms ds vs) (P : SPost G Av (slotsOf N.length ms ds) (L2.start N vs) H Av' S' σ' H') (r : RtOk G Av (slotsOf N.length ms ds) (L2.start N vs) H Av' S' σ' H' fr d v) : RvC G Av' H H' fr d v := by
  unfold RtOk at r
  unfold RvC
  cases fr with
  | false => exact r
  | true =>
    simp only [if_true] at r ⊢
    obtain ⟨p, h1, h2, h3, h4, h5⟩ := r
    refine ⟨p, h1, h2, ?_, h5⟩
    rcases h3 with ⟨i, ⟨s, d', q, rr⟩, hat⟩ | z
    · rcases slots_get ha.len.2.symm q with q' | rfl
      · obtain ⟨v', k1, ⟨d2, p2, rfl, k2, rfl, _⟩ | ⟨d2, rfl, _⟩⟩ := ha.get q'
        · obtain ⟨⟨d3, k3⟩, k4⟩ := P.ios i d2 q
          exact (h4 i ⟨_, d3, k3, rfl⟩ (by show σ'[i]? = _; rw [k4]; exact hat)).elim
        · cases rr
      · cases rr
    · exact z
end
end Eng

namespace Eng
open PySem PySem.Spec L2
open PyProof.Rows hiding St

/-! ### the rule of a def, where the guards are known -/
structure FnG (P : Program) (w : World) (K : PySem.W.Frag) (mg : Str → Option Value) (base : Heap) (k : Nat) (f : Addr) (fd : FuncData) (ps : List Str) (sp : Sp) : Prop where
  len : ∀ vs H Q E, sp vs H Q E → vs.length = ps.length
  run : ∀ (A : Around) (outer : List Env) (s : Shared) (H : Hp) (args : PySem.Args) (us : List Value) (vs : List V) (Q : VK) (E : XK), A.guards = some [] → Room k A → Env0 P w K mg base A outer s H → BindsTo s fd args (ps.zip us) → Vals vs us → sp vs H Q E →
    codeAny (model P w) A (.call (.ref f) args) (CR (L2.CX P w) outer P w H s Q E) s
theorem FnG.mono {P : Program} {w : World} {K : PySem.W.Frag} {mg : Str → Option Value} {base : Heap} {j k : Nat} {f : Addr} {fd : FuncData} {ps : List Str} {sp : Sp} (F : FnG P w K mg base j f fd ps sp) (h : j ≤ k) : FnG P w K mg base k f fd ps sp :=
  ⟨F.len, fun A outer s H args us vs Q E hgd hr => F.run A outer s H args us vs Q E hgd (hr.mono h)⟩
theorem fnG_of {P : Program} {w : World} {K : PySem.W.Frag} {mg : Str → Option Value} {base : Heap} {k : Nat} {f : Addr} {name qual : Str} {params : Arguments} {body : List Stmt} {scope : Scope} {dV kV doc pm cdv ct oc : Value} {an od : Option Addr}
    {osl : Array (Option Value)} {N ps : List Str} {sp : Sp} (lk : K.lookup f = some ⟨oc, od, .func (PySem.W.fnOf name qual params body scope dV kV doc pm an cdv ct), osl⟩) (hcd : PySem.W.codeIn K cdv qual = true) (S : FnScope N ps scope)
    (len : ∀ vs H Q E, sp vs H Q E → vs.length = ps.length)
    (hbody : ∀ (A : Around) (outer : List Env) (s : Shared) (H : Hp) (vs : List V) (Q : VK) (E : XK), A.guards = some [] → Room k (A.deeper (envOfC qual scope s.heap.objs.size f cdv)) → sp vs H Q E →
      ∃ t, PSs (cxOf (L2.CX P w) P w K mg base N qual scope f cdv A outer s H E) body t ∧ t { nx := fun _ H' => Q .non H', rt := Q } (L2.start N vs) H) :
    FnG P w K mg base (k + 1) f (PySem.W.fnOf name qual params body scope dV kV doc pm an cdv ct) ps sp := by
  refine ⟨len, ?_⟩
  intro A outer s H args us vs Q E guards room env bound rel want
  have there : ∀ {a : Addr} {o : Obj}, base.get? a = some o → s.heap.get? a = some o := fun {a o} e => (env.bs a o e).1
  have kin := env.mod.kin.keeps (fun a o e => there e)
  have byCell : ∀ y ∈ ps.zip us, scope.names.lookup y.1 = some .local ∨
      (scope.names.lookup y.1 = some .cell ∧ ((cellsFrom (s.heap.objs.size + 1) scope.names []).lookup y.1).isSome = true) := by
    rintro ⟨n, v⟩ mem
    exact (S.par n (List.of_mem_zip mem).1).imp id fun cell => ⟨cell, PySem.W.cellsFrom_some _ _ _ (.inl cell)⟩
  apply codeAny_call_function room.depth (kin _ _ lk) rfl S.co S.gen rfl (PySem.W.codeRec_of kin hcd)
  apply bound
  apply wpAny_newFunctionEnv_cells S.kind byCell
  rintro env' rfl s1 inside
  refine ⟨(env.mod.nolimit.keeps (fun a o e => there e)).keeps inside.toInCall.keep, ?_⟩
  apply codeAny_func
  obtain ⟨t, body, post⟩ := hbody A outer s H vs Q E guards (room.deeper _) want
  refine wpAny_mono (body.run [] s1 (L2.start N vs) H _ (inv_start S room.hd env (len _ _ _ _ want) rel inside) post) ?_ (fun _ _ z => z)
  intro flow s' z
  cases flow with
  | ret u => exact let ⟨v, _, H', J, rv, q⟩ := z; ⟨v, H', J.os, J.bare, J.base, J.hok, rv, q⟩
  | next => exact let ⟨_, H', J, q⟩ := z; ⟨V.non, H', J.os, J.bare, J.base, J.hok, rfl, q⟩
  | brk => exact let ⟨_, _, _, q⟩ := z; q.elim
  | cont => exact let ⟨_, _, _, q⟩ := z; q.elim
section
variable {X : Cx} {k : Nat} {f C : Addr} {fd : FuncData} {ps : List Str} {sp : Sp} {E : L2.St → XK} {x m : Str} {p pos apos : Pos} {e o : Expr} {es : List Expr} {ta : TE} {t : TA}
/-- a call's end, where it came from -/
theorem ended {pins : List (Addr × Obj)} {σ : L2.St} {H : Hp} {s : Shared} {Q : VK} (I : Inv X pins σ H s) (hx : ∀ (e : Value) (s' : Shared), Inv X pins σ H s → L2.CX X.prog X.w X.stack H s (E σ) e s' → X.xe e s') :
    ∀ (r : Result) (s' : Shared), CR (L2.CX X.prog X.w) X.stack X.prog X.w H s Q (E σ) r s' → match r with
      | .ok (.ret u) => L2.EP X pins σ Q u s'
      | .ok _ => False
      | .error e => X.xe e s'
  | .error e, s', z => hx e s' I z
  | .ok (.ret u), s', z => I.after z
  | .ok .next, s', z => z
  | .ok .brk, s', z => z
  | .ok .cont, s', z => z
theorem run_G {pins : List (Addr × Obj)} {σ : L2.St} {H : Hp} {s : Shared} {Q : VK} {us : List Value} {vs : List V} (F : FnG X.prog X.w X.K X.mg X.base k f fd ps sp) (hgd : X.A.guards = some []) (hr : Room k X.A) (hb : Binds X.K fd ps []) (hx : PassesAt (L2.CX X.prog X.w) X σ (E σ))
    (I : Inv X pins σ H s) (r : Vals vs us) (h : sp vs H Q (E σ)) : wpAny (model X.prog X.w) X.A (call (.ref f) us) (L2.EP X pins σ Q) X.xe s := by
  have bound : BindsTo s fd ⟨us, []⟩ (ps.zip us) := by
    have count : (us ++ []).length = ps.length := by simp only [List.append_nil]; exact r.length.symm.trans (F.len _ _ _ _ h)
    simpa only [List.append_nil] using hb s us I.kIn count
  exact wpAny_call (codeAny_mono (F.run X.A X.stack s H ⟨us, []⟩ us vs Q (E σ) hgd hr I.env0 bound r h) (ended I (hx pins H s)))
theorem pe_callG (F : FnG X.prog X.w X.K X.mg X.base k f fd ps sp) (hgd : X.A.guards = some []) (hr : Room k X.A) (hg : Gl X x) (hm : X.mg x = some (.ref f)) (hk : PySem.W.keepIn X.K (.ref f) = true) (hb : Binds X.K fd ps []) (hx : ∀ σ, PassesAt (L2.CX X.prog X.w) X σ (E σ))
    (ha : PA X (e :: es) t) (hdb : (x == ("__debug__" : Str)) = false) (he : starEach (e :: es) X.env = (false, eval e X.env) :: starEach es X.env) (hpl : (backTo pos (starEach es X.env)).any (·.1) = false) :
    PE X (.Call (.Name x p) (e :: es) [] pos) (tCallS sp E t) := .mk fun pins s σ H Q inv want =>
  wpAny_Call_Name_kw (ld_glob inv hg hm
    (PySem.W.callWith_K (h₀ := X.base) inv.ok.mod.kin hk (thn (ha.run pos pins s σ H _ inv want) fun _ _ ⟨_, _, inv1, rel, post⟩ => ⟨inv1.kIn, run_G F hgd hr hb (hx σ) inv1 rel post⟩) he hpl) hdb)
theorem pe_callG0 (F : FnG X.prog X.w X.K X.mg X.base k f fd ps sp) (hgd : X.A.guards = some []) (hr : Room k X.A) (hg : Gl X x) (hm : X.mg x = some (.ref f)) (hk : PySem.W.keepIn X.K (.ref f) = true) (hb : Binds X.K fd ps []) (hx : ∀ σ, PassesAt (L2.CX X.prog X.w) X σ (E σ))
    (hdb : (x == ("__debug__" : Str)) = false) : PE X (.Call (.Name x p) [] [] pos) (tCallS sp E tNil) := .mk fun pins s σ H Q inv want =>
  wpAny_Call_Name_kw (ld_glob inv hg hm (PySem.W.callWith_K0 inv.kIn hk (run_G (us := []) F hgd hr hb (hx σ) inv .nil want)) hdb)
end

/-! ### the caller -/
section
variable {G : Gs} {W : WX} {Av Av' : Addr → Prop} {S S' : SS} {σ : L2.St} {H H' : Hp}
def SetR (S S' : SS) (j : Nat) (d : D) : Prop := (∃ d0, S[j]? = some (.ow d0) ∧ S'[j]? = some (.ow d)) ∨ (∃ d0, S[j]? = some (.io d0) ∧ S'[j]? = some (.io d))
theorem setAt_R {S S' : SS} {i : Nat} {d : D} (e : setAt S i d = some S') : SetR S S' i d ∧ S'.length = S.length ∧ ∀ j, j ≠ i → S'[j]? = S[j]? := by
  obtain ⟨s, ⟨h1, h2⟩, ⟨d0, rfl, rfl⟩ | ⟨d0, rfl, rfl⟩⟩ := setAt_get e
  · exact ⟨.inl ⟨d0, h1, set_eq h1⟩, List.length_set, fun j n => set_ne n⟩
  · exact ⟨.inr ⟨d0, h1, set_eq h1⟩, List.length_set, fun j n => set_ne n⟩
theorem setIos_spec : ∀ {is : List Nat} {ds : List D} {S S' : SS}, setIos S is ds = some S' → is.Nodup → S'.length = S.length ∧ ∀ j, (j ∉ is ∧ S'[j]? = S[j]?) ∨ (j ∈ is ∧ ∃ d, (j, d) ∈ is.zip ds ∧ SetR S S' j d)
  | [], [], S, S', e, _ => by cases e; exact ⟨rfl, fun j => .inl ⟨by simp, rfl⟩⟩
  | [], _ :: _, S, S', e, _ => by cases e
  | _ :: _, [], S, S', e, _ => by cases e
  | i :: is, d :: ds, S, S', e, nd => by
    have e : (if MutD d then (setAt S i d).bind fun S' => setIos S' is ds else none) = some S' := e
    split at e
    · obtain ⟨S1, e1, e2⟩ := Option.bind_eq_some_iff.mp e
      obtain ⟨r1, r2, r3⟩ := setAt_R e1
      obtain ⟨ni, nd⟩ := List.nodup_cons.mp nd
      obtain ⟨q1, q2⟩ := setIos_spec e2 nd
      refine ⟨q1.trans r2, fun j => ?_⟩
      by_cases z : j = i
      · subst z
        rcases q2 j with ⟨_, w⟩ | ⟨w, _⟩
        · refine .inr ⟨by simp, d, by simp, ?_⟩
          rcases r1 with ⟨d0, a, b⟩ | ⟨d0, a, b⟩
          · exact .inl ⟨d0, a, w.trans b⟩
          · exact .inr ⟨d0, a, w.trans b⟩
        · exact absurd w ni
      · rcases q2 j with ⟨w, e⟩ | ⟨w, d', h1, h2⟩
        · exact .inl ⟨by simp [z, w], e.trans (r3 j z)⟩
        · refine .inr ⟨by simp [w], d', by simp [h1], ?_⟩
          rcases h2 with ⟨d0, a, b⟩ | ⟨d0, a, b⟩
          · exact .inl ⟨d0, (r3 j z) ▸ a, b⟩
          · exact .inr ⟨d0, (r3 j z) ▸ a, b⟩
    · cases e
theorem ioAt_slot : ∀ {as : List AV} {vs : List V} {a : Addr}, Ers (ErA G) Av S σ H as vs → IoAt (as.map AV.isIo) vs a → ∃ i ∈ avIos as, At σ i a
  | [], vs, a, _, ⟨i, h, _⟩ => by simp at h
  | x :: as, vs, a, ⟨v, r, e, h1, h2⟩, ⟨i, hi, hv⟩ => by
    subst e
    cases i with
    | zero =>
      have hv : some v = some (.ref a) := hv
      cases hv
      cases x with
      | sh d => exact absurd (show some false = some true from hi) (by simp)
      | io j => exact ⟨j, by simp [avIos], h1⟩
    | succ i =>
      obtain ⟨j, h3, h4⟩ := ioAt_slot (as := as) h2 ⟨i, hi, hv⟩
      refine ⟨j, ?_, h4⟩
      cases x with
      | sh d => exact h3
      | io k => exact List.mem_cons_of_mem _ h3
theorem outs_slot : ∀ {as : List AV} {vs : List V} {outs : List D}, Ers (ErA G) Av S σ H as vs → Outs G Av' H' (as.map AV.isIo) vs outs → ∀ i d, (i, d) ∈ (avIos as).zip outs → ∃ v, σ[i]? = some (some v) ∧ Vw G Av' H' d v ∧ MutD d = true
  | [], vs, outs, _, _, i, d, h => by simp [avIos] at h
  | .sh _ :: as, vs, outs, ⟨v, r, e, h1, h2⟩, ⟨v', vr, e', o⟩, i, d, h => by
    rw [e] at e'; cases e'
    exact outs_slot (as := as) h2 o i d h
  | .io j :: as, vs, outs, ⟨v, r, e, h1, h2⟩, ⟨v', vr, d', r', e', eo, hv, hm, o⟩, i, d, h => by
    rw [e] at e'; cases e'
    subst eo
    have h : (i, d) ∈ (j, d') :: (avIos as).zip r' := h
    rcases List.mem_cons.mp h with z | z
    · cases z; exact ⟨_, h1, hv, hm⟩
    · exact outs_slot (as := as) h2 o i d z
theorem CPost.post {as : List AV} {vs : List V} {outs : List D} (st : StOk G Av S σ H) (ea : Ers (ErA G) Av S σ H as vs) (nd : (avIos as).Nodup) (c : CPost G Av (as.map AV.isIo) vs H Av' H' outs) (e : setIos S (avIos as) outs = some S') : Post G Av S σ H Av' S' H' := by
  obtain ⟨l1, sp⟩ := setIos_spec e nd
  have own : ∀ {i}, i ∈ avIos as → Owns S i := fun {i} hi => by
    rcases sp i with ⟨z, _⟩ | ⟨_, d, _, ⟨d0, a, _⟩ | ⟨d0, a, _⟩⟩
    · exact absurd hi z
    · exact ⟨_, d0, a, rfl⟩
    · exact ⟨_, d0, a, rfl⟩
  have root : ∀ {a}, IoAt (as.map AV.isIo) vs a → Root S σ a := fun {a} h => let ⟨i, h1, h2⟩ := ioAt_slot ea h; ⟨i, own h1, h2⟩
  have nav : ∀ {a}, ¬ Av a → ¬ IoAt (as.map AV.isIo) vs a := fun n h => n ((root h).av st)
  have rep : ∀ {d v}, Rep G Av H d v → Rep G Av' H' d v := fun h => h.mono (fun a o q n t => c.frame a o q (nav n) t) c.sub
  have hol : ∀ {i}, Holds S' i → Holds S i := fun {i} ⟨s, d, q, r⟩ => by
    rcases sp i with ⟨_, z⟩ | ⟨hi, _⟩
    · exact ⟨s, d, z ▸ q, r⟩
    · exact (own hi).holds
  refine ⟨fun a o h n t => c.frame a o h (fun z => n (root z)) t, c.stay, c.sub, fun a h _ => c.held a h, fun i ⟨s, d, q, r⟩ => ?_, fun i h => hol h, fun i ⟨s, d, q, r⟩ => ?_, fun i d q => ?_, fun i d q => ?_, ⟨l1.trans st.len, c.dom, c.tabs, fun i d q => ?_, fun i s d q r => ?_, fun i j p h1 h2 => st.dis i j p (hol h1) (hol h2)⟩⟩
  · rcases sp i with ⟨_, z⟩ | ⟨hi, _⟩
    · exact ⟨s, d, z ▸ q, r⟩
    · exact own hi
  · rcases sp i with ⟨_, z⟩ | ⟨_, d', _, ⟨d0, _, b⟩ | ⟨d0, _, b⟩⟩
    · exact ⟨s, d, z.trans q, r⟩
    · exact ⟨_, d', b, rfl⟩
    · exact ⟨_, d', b, rfl⟩
  · rcases sp i with ⟨_, z⟩ | ⟨_, d', _, ⟨d0, a, b⟩ | ⟨d0, a, b⟩⟩
    · exact ⟨d, z.trans q⟩
    · rw [q] at a; cases a
    · exact ⟨d', b⟩
  · rcases sp i with ⟨_, z⟩ | ⟨_, d', _, ⟨d0, a, b⟩ | ⟨d0, a, b⟩⟩
    · exact z.trans q
    · rw [q] at a; cases a
    · rw [q] at a; cases a
  · rcases sp i with ⟨_, z⟩ | ⟨_, d', _, ⟨d0, a, b⟩ | ⟨d0, a, b⟩⟩
    · obtain ⟨v, h1, h2⟩ := st.sh i d (z ▸ q)
      exact ⟨v, h1, rep h2⟩
    · rw [q] at b; cases b
    · rw [q] at b; cases b
  · rcases sp i with ⟨ni, z⟩ | ⟨hi, d', hz, hr⟩
    · obtain ⟨p, h1, h2, h3, h4⟩ := st.ow i s d (z ▸ q) r
      have np : ¬ IoAt (as.map AV.isIo) vs p := fun w => by
        obtain ⟨j, hj, aj⟩ := ioAt_slot ea w
        have := st.dis j i p (own hj).holds ⟨s, d, z ▸ q, r⟩ aj h1
        subst this
        exact ni hj
      exact ⟨p, h1, c.held p h2, h3.mono (fun a o q n t => c.frame a o q (nav n) t) c.sub fun a o e q t => by cases e; exact c.frame p o q np t, h4⟩
    · obtain ⟨v, h1, h2, h3⟩ := outs_slot ea c.outs i d' hz
      obtain ⟨s0, d0, q0, r0⟩ := own hi
      obtain ⟨p, k1, k2, k3, k4⟩ := st.ow i s0 d0 q0 (s0.mu_rt r0)
      rw [show σ[i]? = some (some (.ref p)) from k1] at h1; cases h1
      have ed : d = d' := by
        rcases hr with ⟨_, _, b⟩ | ⟨_, _, b⟩ <;> (rw [q] at b; cases b; cases r; rfl)
      subst ed
      exact ⟨p, k1, c.held p k2, h2, h3⟩
/-- the arguments, as the callee has them -/
theorem av_args (st : StOk G Av S σ H) : ∀ {as : List AV} {vs : List V} {ds : List D}, Ers (ErA G) Av S σ H as vs → avDs S as = some ds → Args G Av H (as.map AV.isIo) ds vs
  | [], vs, ds, h, e => by cases e; exact h
  | .sh d :: as, vs, ds, ⟨v, r, e1, h1, h2⟩, e => by
    obtain ⟨r', e2, rfl⟩ := Option.map_eq_some_iff.mp (show (avDs S as).map (fun ds => d :: ds) = some ds from e)
    exact ⟨v, r, e1, h1, av_args st h2 e2⟩
  | .io i :: as, vs, ds, ⟨v, r, e1, h1, h2⟩, e => by
    have e : (match (S[i]?).bind SV.mu with
      | some d => (avDs S as).map fun ds => d :: ds
      | _ => none) = some ds := e
    split at e
    · rename_i d hd
      obtain ⟨r', e2, rfl⟩ := Option.map_eq_some_iff.mp e
      obtain ⟨s, q1, q2⟩ := Option.bind_eq_some_iff.mp hd
      obtain ⟨p, k1, k2, k3, k4⟩ := st.ow i s d q1 (s.mu_rt q2)
      have k0 : σ[i]? = some (some (.ref p)) := k1
      rw [show σ[i]? = some (some v) from h1] at k0
      cases k0
      exact ⟨_, r, e1, ⟨⟨p, rfl, k2⟩, k3, k4⟩, av_args st h2 e2⟩
    · cases e
theorem avDs_own : ∀ {as : List AV} {ds : List D}, avDs S as = some ds → ∀ i ∈ avIos as, Owns S i
  | [], ds, e, i, h => by simp [avIos] at h
  | .sh d :: as, ds, e, i, h => by
    obtain ⟨r', e2, rfl⟩ := Option.map_eq_some_iff.mp (show (avDs S as).map (fun ds => d :: ds) = some ds from e)
    exact avDs_own e2 i h
  | .io j :: as, ds, e, i, h => by
    have e : (match (S[j]?).bind SV.mu with
      | some d => (avDs S as).map fun ds => d :: ds
      | _ => none) = some ds := e
    split at e
    · rename_i d hd
      obtain ⟨r', e2, rfl⟩ := Option.map_eq_some_iff.mp e
      obtain ⟨s, q1, q2⟩ := Option.bind_eq_some_iff.mp hd
      rcases List.mem_cons.mp (show i ∈ j :: avIos as from h) with rfl | h
      · exact ⟨s, d, q1, q2⟩
      · exact avDs_own e2 i h
    · cases e
theorem av_at : ∀ {as : List AV} {vs : List V} {i : Nat} {v : V}, Ers (ErA G) Av S σ H as vs → (as.map AV.isIo)[i]? = some true → vs[i]? = some v → ∃ j, as[i]? = some (.io j) ∧ σ[j]? = some (some v)
  | [], vs, i, v, _, h, _ => by simp at h
  | x :: as, vs, 0, v, ⟨v', r, e, h1, h2⟩, hi, hv => by
    subst e
    have hv : some v' = some v := hv
    cases hv
    cases x with
    | sh d => exact absurd (show some false = some true from hi) (by simp)
    | io j => exact ⟨j, rfl, h1⟩
  | x :: as, vs, i + 1, v, ⟨v', r, e, h1, h2⟩, hi, hv => by
    subst e
    obtain ⟨j, a, b⟩ := av_at (as := as) h2 hi hv
    exact ⟨j, a, b⟩
theorem ios_mem : ∀ {as : List AV} {i j : Nat}, as[i]? = some (.io j) → j ∈ avIos as
  | [], i, j, h => by simp at h
  | x :: as, 0, j, h => by
    have h : some x = some (.io j) := h
    cases h; simp [avIos]
  | x :: as, i + 1, j, h => by
    have := ios_mem (as := as) (i := i) h
    cases x with
    | sh d => exact this
    | io k => exact List.mem_cons_of_mem _ this
theorem ios_inj : ∀ {as : List AV} {i i' j : Nat}, (avIos as).Nodup → as[i]? = some (.io j) → as[i']? = some (.io j) → i = i'
  | [], i, i', j, _, h, _ => by simp at h
  | x :: as, 0, 0, j, _, _, _ => rfl
  | x :: as, 0, i' + 1, j, nd, h, h' => by
    have h : some x = some (.io j) := h
    cases h
    exact absurd (ios_mem (as := as) (i := i') h') (List.nodup_cons.mp (show (j :: avIos as).Nodup from nd)).1
  | x :: as, i + 1, 0, j, nd, h, h' => by
    have h' : some x = some (.io j) := h'
    cases h'
    exact absurd (ios_mem (as := as) (i := i) h) (List.nodup_cons.mp (show (j :: avIos as).Nodup from nd)).1
  | x :: as, i + 1, i' + 1, j, nd, h, h' => by
    have nd' : (avIos as).Nodup := by
      cases x with
      | sh d => exact nd
      | io k => exact (List.nodup_cons.mp (show (k :: avIos as).Nodup from nd)).2
    rw [ios_inj (as := as) nd' h h']
theorem av_dis (st : StOk G Av S σ H) {as : List AV} {vs : List V} {ds : List D} (ea : Ers (ErA G) Av S σ H as vs) (ed : avDs S as = some ds) (nd : (avIos as).Nodup) : IoDis (as.map AV.isIo) vs := fun i j v h1 h2 e1 e2 => by
  obtain ⟨a, a1, a2⟩ := av_at ea h1 e1
  obtain ⟨b, b1, b2⟩ := av_at ea h2 e2
  have oa := avDs_own ed a (ios_mem a1)
  have ob := avDs_own ed b (ios_mem b1)
  obtain ⟨s, d, q, r⟩ := oa
  obtain ⟨p, k1, _⟩ := st.ow a s d q (s.mu_rt r)
  rw [show σ[a]? = some (some (.ref p)) from k1] at a2
  cases a2
  have := st.dis a b p ⟨s, d, q, s.mu_rt r⟩ ob.holds k1 b2
  subst this
  exact ios_inj nd a1 b1
/-- a call's reading -/
theorem call_sp {sg : FSig} {as : List AV} {vs : List V} {Q : VK} (st : StOk G Av S σ H) (ea : Ers (ErA G) Av S σ H as vs) (h : RdE G W (callSem sg as S) Av S σ H Q) : spG G sg vs H Q (WE W σ) := by
  unfold callSem at h
  cases ed : avDs S as with
  | none => rw [ed] at h; exact h.elim
  | some ds =>
    rw [ed] at h
    simp only at h
    split at h
    · rename_i hz
      obtain ⟨nd, hmd⟩ := hz
      refine ⟨Av, ds, ⟨st.dom, st.tb⟩, hmd ▸ av_args st ea ed, hmd ▸ av_dis st ea ed nd, ?_⟩
      cases em : sg.m ds with
      | bad => rw [em] at h; exact h
      | ok fr d outs =>
        rw [em] at h
        intro Av' v H' c rv
        simp only at h
        cases es : setIos S (avIos as) outs with
        | none => rw [es] at h; exact h.elim
        | some S' =>
          rw [es] at h
          have P := CPost.post (S' := S') st ea nd (hmd ▸ c) es
          unfold RvC at rv
          cases fr with
          | true => exact h v H' ⟨Av', P, rv⟩
          | false => exact h v H' ⟨Av', P, rv⟩
      | exc e outs =>
        rw [em] at h
        intro Av' cls dx H' c x
        simp only at h
        cases es : setIos S (avIos as) outs with
        | none => rw [es] at h; exact h.elim
        | some S' =>
          rw [es] at h
          exact h cls dx H' ⟨Av', CPost.post (S' := S') st ea nd (hmd ▸ c) es, x⟩
    · exact h.elim
theorem tri_call {sg : FSig} {q : List Bool → SS → R (List AV)} {Q : VK} (h : tE G W (kCall sg q) σ H Q) : tL G W (ErA G) (q sg.md) σ H fun vs H1 => spG G sg vs H1 Q (WE W σ) := by
  obtain ⟨Av, S, st, h⟩ := h
  refine ⟨Av, S, st, ?_⟩
  unfold kCall at h
  cases e : q sg.md S with
  | bad => rw [e] at h; exact h
  | exc x S1 => rw [e] at h; exact h
  | ok as S1 =>
    rw [e] at h
    intro Av1 vs H1 P1 r1
    exact call_sp P1.st r1 (h.trans P1)
end
section
variable {X : Cx} {G : Gs} {W : WX} {k : Nat} {f : Addr} {fd : FuncData} {ps : List Str} {sg : FSig} {x : Str} {p pos : Pos} {e : Expr} {es : List Expr} {q : List Bool → SS → R (List AV)}
theorem s_call (F : FnG X.prog X.w X.K X.mg X.base k f fd ps (spG G sg)) (hgd : X.A.guards = some []) (hr : Room k X.A) (tk : Takes X W) (hg : Gl X x) (hm : X.mg x = some (.ref f)) (hk : PySem.W.keepIn X.K (.ref f) = true) (hb : Binds X.K fd ps [])
    (ha : PA X (e :: es) (tL G W (ErA G) (q sg.md))) (hdb : (x == ("__debug__" : Str)) = false) (he : starEach (e :: es) X.env = (false, eval e X.env) :: starEach es X.env) (hpl : (backTo pos (starEach es X.env)).any (·.1) = false) :
    PE X (.Call (.Name x p) (e :: es) [] pos) (tE G W (kCall sg q)) := PE_imp (pe_callG F hgd hr hg hm hk hb (fun σ => passAt tk σ) ha hdb he hpl) fun σ H Q h => tri_call h
theorem s_call0 (F : FnG X.prog X.w X.K X.mg X.base k f fd ps (spG G sg)) (hgd : X.A.guards = some []) (hr : Room k X.A) (tk : Takes X W) (hg : Gl X x) (hm : X.mg x = some (.ref f)) (hk : PySem.W.keepIn X.K (.ref f) = true) (hb : Binds X.K fd ps [])
    (hq : q sg.md = kNil) (hdb : (x == ("__debug__" : Str)) = false) :
    PE X (.Call (.Name x p) [] [] pos) (tE G W (kCall sg q)) := PE_imp (pe_callG0 F hgd hr hg hm hk hb (fun σ => passAt tk σ) hdb) fun σ H Q h => by
  obtain ⟨Av, S, st, h⟩ := tri_call h
  rw [hq] at h
  exact h Av [] H (Post.refl st) rfl

/-- a def keeps its promise -/
theorem body_G {N : List Str} {ms : List Bool} {b : SS → F} {body : List Stmt} {H : Hp} {vs : List V} {Q : VK} {E : XK} (hn : vs.length ≤ N.length) (hb : PSs X body (tS G (fun cls d _ H => E cls d H) b)) (hsp : spG G ⟨ms, runS N.length ms b⟩ vs H Q E) :
    ∃ t, PSs X body t ∧ t { nx := fun _ H' => Q .non H', rt := Q } (L2.start N vs) H := by
  refine ⟨_, hb, ?_⟩
  obtain ⟨Av, ds, dm, ha, hd, h⟩ := hsp
  have st := start_ok (N := N) dm ha hd hn
  refine ⟨Av, slotsOf N.length ms ds, st, ?_⟩
  have h : (match (runS N.length ms b ds : FO) with
    | .ok fr d outs => ∀ Av' v H', CPost G Av ms vs H Av' H' outs → RvC G Av' H H' fr d v → Q v H'
    | .exc e outs => ∀ Av' cls dx H', CPost G Av ms vs H Av' H' outs → XcOk G Av' H' e cls dx → E cls dx H'
    | .bad => False) := h
  unfold runS at h
  rw [if_pos ha.len.2.symm] at h
  cases eb : b (slotsOf N.length ms ds) with
  | bad => rw [eb] at h; exact h
  | bk S' => rw [eb] at h; exact h.elim
  | ct S' => rw [eb] at h; exact h.elim
  | nx S' =>
    rw [eb] at h
    simp only at h
    cases eo : outsS ms S' with
    | none => rw [eo] at h; exact h.elim
    | some outs =>
      rw [eo] at h
      exact fun Av' σ' H' P => h Av' .non H' (callee_post ha P eo) (rfl : V.non = V.non)
  | rt fr d S' =>
    rw [eb] at h
    simp only at h
    cases eo : outsS ms S' with
    | none => rw [eo] at h; exact h.elim
    | some outs =>
      rw [eo] at h
      exact fun Av' σ' v H' P r => h Av' v H' (callee_post ha P eo) (callee_ret ha P r)
  | exc e S' =>
    rw [eb] at h
    simp only at h
    cases eo : outsS ms S' with
    | none => rw [eo] at h; exact h.elim
    | some outs =>
      rw [eo] at h
      exact fun cls dx σ' H' x => let ⟨Av', P, r⟩ := x.ex; h Av' cls dx H' (callee_post ha P eo) r
theorem spG_len {sg : FSig} {vs : List V} {H : Hp} {Q : VK} {E : XK} (h : spG G sg vs H Q E) : vs.length = sg.md.length := by
  obtain ⟨Av, ds, _, ha, _⟩ := h
  exact ha.len.1
end
end Eng

namespace Eng
open PySem PySem.Spec L2
open PyProof.Rows hiding St
section
variable {X : Cx} {G : Gs} {W : WX} {a b c e : Expr} {es : List Expr} {pos p2 pp : Pos} {p q o : KE} {x : Str}

/-! ### dict displays -/
theorem s_dict0 : PE X (.Dict [] [] pos) (tE G W fun S => .ok (.fr (.dic [] [])) S) := PE_imp pe_dnewK fun σ H Q ⟨Av, S, st, h⟩ => fun r hr =>
  h (.ref r) _ (PPost.e (ro := .nw (dicG [])) st (KR.dic hr (show KR G Av H [] [] from rfl)))
theorem s_dic1 (ha : PE X a (tE G W p)) (hb : PE X b (tE G W q)) : PE X (.Dict [some a] [b] pos) (tE G W (kDic1 p q)) :=
  PE_imp (pe_disp (pps_cons ha (s_shr hb) pps_nil) rfl rfl (by simp) (by simp)) fun σ H Q ⟨Av, S, st, h⟩ => fun r hr => by
    have PH : Post G Av S σ H (fun b => Av b ∨ b = r) S (upd H r (.dK [])) := Post.ext st (ext_upd hr) (fun b q => q.elim .inl fun z => .inr (z ▸ hr)) (fun b q => q.elim (fun z => let ⟨o, w, m⟩ := st.dom b z; ⟨o, ext_upd hr b o w, m⟩) fun z => ⟨.dK [], by rw [z]; exact upd_same, trivial⟩) fun b q => .inl q
    refine ⟨_, S, PH.st, ?_⟩
    unfold kDic1 at h
    cases e1 : p S with
    | bad => rw [e1] at h; exact h
    | exc x S1 => rw [e1] at h; exact fun c d H' z => h c d H' (z.trans PH)
    | ok rv S1 =>
      rw [e1] at h
      intro v H1 P0
      obtain ⟨Av1, P1, v1⟩ := P0.vok PH.st
      clear P0
      refine ⟨Av1, S1, P1.st, ?_⟩
      have h : RdE G W ((kShr q S1).bind fun e S2 => prim ((deref S2 rv.vw).bind fun d => dic1D d e) S2) Av S σ H Q := h
      cases e2 : kShr q S1 with
      | bad => rw [e2] at h; exact h
      | exc x S2 => rw [e2] at h; exact fun c d H' z => h c d H' (z.trans (PH.trans P1))
      | ok y S2 =>
        rw [e2] at h
        intro Av2 u H2 P2 ry
        have v2 := v1.on P1.st P2
        obtain ⟨ro, e, h⟩ := prim_some h
        obtain ⟨d, e3, e⟩ := Option.bind_eq_some_iff.mp e
        obtain ⟨k, e4, rfl⟩ := Option.map_eq_some_iff.mp (show (keyD d).map (fun k => RO.nw (dicG [(k, y)])) = some ro from e)
        have vd := v2.vx P2.st e3
        have hm : MutD d = false := by cases d <;> first | rfl | cases e4
        obtain ⟨rfl, _⟩ := kV_rep e4 (vd.rep hm)
        have P := (PH.trans P1).trans P2
        have P12 := P1.trans P2
        have n0 : ¬ Root S σ r := fun ⟨i, hi, ai⟩ => st.new_apart hr i hi.holds ai
        have aD : Av2 r := P12.held r (.inr rfl) n0
        have hD : H2 r = some (.dK []) := P12.frame r _ upd_same n0 nt_dK
        refine ⟨hD, [(k, u)], rfl, by simp, ?_⟩
        have ap : ∀ i, Holds S2 i → ¬ At σ i r := P.new_apart st hr
        exact h (.ref r) _ ⟨Av2, P.touch st hr aD trivial, r, rfl, aD, hr, ⟨r, [u], rfl, .inl ⟨[k], rfl, rfl, upd_same⟩, ⟨u, [], rfl, Rep.touch ry aD, rfl⟩⟩, rfl⟩

/-! ### len(set(a)) -/
theorem dedup_first (ns : List Int) : firstMet (fun i => ns.getD i 0) ns.length = dedupI ns := by
  unfold firstMet dedupI
  have : (List.range ns.length).map (fun i => ns.getD i 0) = ns := by
    apply List.ext_getElem
    · simp
    · intro i h1 h2
      simp at h1
      simp [List.getD_eq_getElem?_getD, List.getElem?_eq_getElem h1]
  rw [this]
  rfl
theorem dedup_fold : ∀ (ns acc : List Int), acc.Nodup → (ns.foldl (fun acc k => if acc.any (· == k) then acc else acc ++ [k]) acc).Nodup ∧ ∀ k, k ∈ ns.foldl (fun acc k => if acc.any (· == k) then acc else acc ++ [k]) acc ↔ k ∈ acc ∨ k ∈ ns
  | [], acc, h => ⟨h, fun k => by simp⟩
  | n :: ns, acc, h => by
    show (ns.foldl _ (if acc.any (· == n) then acc else acc ++ [n])).Nodup ∧ ∀ k, k ∈ ns.foldl _ (if acc.any (· == n) then acc else acc ++ [n]) ↔ _
    by_cases z : acc.any (· == n) = true
    · rw [if_pos z]
      obtain ⟨i1, i2⟩ := dedup_fold ns acc h
      refine ⟨i1, fun k => ?_⟩
      rw [i2 k]
      obtain ⟨y, hy, e⟩ := List.any_eq_true.mp z
      have e := eq_of_beq e
      subst e
      constructor
      · rintro (h | h)
        · exact .inl h
        · exact .inr (List.mem_cons_of_mem _ h)
      · rintro (h | h)
        · exact .inl h
        · rcases List.mem_cons.mp h with rfl | h
          · exact .inl hy
          · exact .inr h
    · rw [if_neg z]
      have nm : n ∉ acc := fun hm => z (List.any_eq_true.mpr ⟨n, hm, by simp⟩)
      obtain ⟨i1, i2⟩ := dedup_fold ns (acc ++ [n]) (by
        rw [List.nodup_append]
        refine ⟨h, by simp, fun a ha b hb => ?_⟩
        rw [List.mem_singleton.mp hb]
        exact fun e => nm (e ▸ ha))
      refine ⟨i1, fun k => ?_⟩
      rw [i2 k]
      rw [List.mem_append, List.mem_singleton, List.mem_cons, or_assoc]
theorem dedup_nodup (ns : List Int) : (dedupI ns).Nodup ∧ ∀ k, k ∈ dedupI ns ↔ k ∈ ns := by
  obtain ⟨h1, h2⟩ := dedup_fold ns [] (by simp)
  exact ⟨h1, fun k => (h2 k).trans (by simp)⟩
def tLsD (K : PySem.W.Frag) (ta : TE) : TE := fun σ H Q => ta σ H fun x H1 => ∃ (l : Addr) (ns : List Int), x = V.ref l ∧ (SqL K H1 l (ns.map V.int) ∨ SqT K H1 l (ns.map V.int)) ∧ ns.length < 64 ∧ Q (.int (dedupI ns).length) H1
theorem pe_lsetD {ta : TE} {n1 n2 n3 : Pos} (hc : X.calm = true) (hg : Gl X "len") (hm : X.mg "len" = none) (hg2 : Gl X "set") (hm2 : X.mg "set" = none) (ha : PE X a ta)
    (na : starEach [a] X.env = (false, eval a X.env) :: starEach [] X.env) : PE X (.Call (.Name "len" n1) [.Call (.Name "set" n2) [a] [] n3] [] pos) (tLsD X.K ta) := by
  constructor
  intro pins s σ H Q inv want
  -- what comes behind set(..): its size is asked
  have size : ∀ {H1 : Hp} {s1 : Shared} {h' : Heap} {tk : Nat} {c : Addr} {ns : List Int} {o : Obj} {es : Array (Int × Value)} {ep : Nat} {t : SetTable}, Inv X pins σ H1 s1 → (∀ b u, s1.heap.get? b = some u → h'.get? b = some u) →
      h'.get? c = some o → o.ExactSet → o.data = .set es ep t → t.fits es.size = true → es.size = (dedupI ns).length → ns.length < 64 → Q (.int (dedupI ns).length) H1 →
      wpAny (model X.prog X.w) X.A (call (.builtin "len") [.ref c]) (L2.EP X pins σ Q) X.xe { s1 with heap := h', toks := tk } := by
    intro H1 s1 h' tk c ns o es ep t inv1 keep ho exact_ data fits sz few post
    have le : (dedupI ns).length ≤ ns.length := dedup_first ns ▸ firstMet_length_le _ _
    have inv2 : Inv X pins σ H1 { s1 with heap := h', toks := tk } := inv1.kept keep
    exact call_len_set ho exact_ data fits (by rw [sz]; omega) ⟨.int (dedupI ns).length, H1, inv2.tok _, ⟨_, by rw [sz]⟩, post⟩
  refine Call_ ?_
  apply ld_blt inv hg hm PySem.boot_len _ (by decide) (by decide)
  apply PyProof.Rows.callWith_builtin1 (he := rfl) (hplain := rfl)
  apply PyProof.Rows.args_cons (he := rfl)
  refine Call_ ?_
  apply ld_blt inv hg2 hm2 PyProof.Rows.boot_set _ (by decide) (by decide)
  apply PyProof.Rows.callWith_type1 (he := na) (hplain := rfl)
  apply PyProof.Rows.args_cons (he := na)
  refine thn (ha.run pins s σ H _ inv want) ?_
  rintro v s1 ⟨x, H1, inv1, rel, l, ns, rfl, seq, few, post⟩
  cases rel
  apply PyProof.Rows.args_nil
  rcases seq with seq | seq
  · obtain ⟨its, vals, at_l, _⟩ := inv1.list seq
    have n : its.toArray.size = ns.length := by simpa using vals.length.symm
    apply call_set_list (inv1.ok.hd hc) at_l.isList (ns := ns) (by simpa using vals.ints) (by rw [n]; unfold scanBound; omega)
    intro h' tk made keep
    rw [n, dedup_first] at made
    obtain ⟨o, es, ep, t, ho, ex, data, _, _, _, fits, sz⟩ := made
    exact PyProof.Rows.args_nil (size inv1 (fun b u e => keep b u (Heap.lt_size e) e) ho ex data fits sz few post)
  · obtain ⟨its, vals, at_l, _⟩ := inv1.tuple seq
    apply call_set_tupI ns (inv1.ok.hd hc) (show s1.heap.IsTuple l its.toArray from at_l) (ints_of_vals vals) (by unfold scanBound; omega)
    intro h' tk c made _ keep
    obtain ⟨o, es, ep, t, ho, ex, data, _, once, mem, _, fits, _⟩ := made
    have both := dedup_nodup ns
    have sz := ((List.perm_ext_iff_of_nodup once both.1).mpr fun j => (mem j).symm.trans (decide_eq_true_iff.trans (both.2 j).symm)).length_eq
    rw [List.length_map, Array.length_toList] at sz
    exact PyProof.Rows.args_nil (size inv1 keep ho ex data fits sz few post)
theorem s_lset {n1 n2 n3 : Pos} (hc : X.calm = true) (hg : Gl X "len") (hm : X.mg "len" = none) (hg2 : Gl X "set") (hm2 : X.mg "set" = none) (ha : PE X a (tE G W p))
    (na : starEach [a] X.env = (false, eval a X.env) :: starEach [] X.env) : PE X (.Call (.Name "len" n1) [.Call (.Name "set" n2) [a] [] n3] [] pos) (tE G W (kUn lsetD p)) :=
  PE_imp (pe_lsetD hc hg hm hg2 hm2 ha na) fun σ H Q ⟨Av, S, st, h⟩ =>
    tE_bind st h fun r S1 v H1 P0 h0 => by
      obtain ⟨Av1, P1, v1⟩ := P0.vok st
      obtain ⟨ro, e, h1⟩ := prim_some (h0.trans P1)
      obtain ⟨d, e1, e⟩ := Option.bind_eq_some_iff.mp e
      have vd := v1.vx P1.st e1
      clear h0 P0 v1
      have fin : ∀ {ns : List Int}, ro = .sh (.int ((dedupI ns).length : Nat)) → Q (.int (dedupI ns).length) H1 := fun {ns} er => by
        subst er; exact h1 (.int _) H1 ⟨Av1, Post.refl P1.st, (rfl : V.int _ = V.int _)⟩
      cases d with
      | lst ds =>
        obtain ⟨ns, e2, e⟩ := Option.bind_eq_some_iff.mp (show (allI ds).bind (fun ns => if ns.length < 64 then some (RO.sh (.int ((dedupI ns).length : Nat))) else none) = some ro from e)
        obtain ⟨a', ws, rfl, h2, h3⟩ := vd.lst
        cases allI_reps e2 h3
        split at e
        · rename_i hz; cases e; exact ⟨a', ns, rfl, .inl (SqL.of h2), hz, fin rfl⟩
        · cases e
      | tup ds =>
        obtain ⟨ns, e2, e⟩ := Option.bind_eq_some_iff.mp (show (allI ds).bind (fun ns => if ns.length < 64 then some (RO.sh (.int ((dedupI ns).length : Nat))) else none) = some ro from e)
        obtain ⟨a', ws, rfl, _, h2, h3⟩ := vd.tup
        cases allI_reps e2 h3
        split at e
        · rename_i hz; cases e; exact ⟨a', ns, rfl, .inr (SqT.of h2), hz, fin rfl⟩
        · cases e
      | _ => cases e

/-! ### list(range(..)), tuple(range(..)) -/
theorem rg_reps {Av : Addr → Prop} {H : Hp} (lo : Int) : ∀ n : Nat, Reps G Av H (rangeD lo n) ((List.range n).map fun i => V.int (lo + (i : Nat)))
  | 0 => rfl
  | n + 1 => by
    unfold rangeD
    rw [List.range_succ, List.map_append]
    exact (rg_reps lo n).snoc (show Rep G Av H (.int (lo + n)) (V.int (lo + (n : Nat))) from rfl)
theorem lrg_fin {Av Av1 : Addr → Prop} {S S1 : SS} {σ : L2.St} {H H1 : Hp} {tp : Bool} {lo hi : Int} {r : Addr} (P : Post G Av S σ H Av1 S1 H1) (hr : H1 r = none) : EPost G Av1 S1 σ H1 (rgLst tp (rangeD lo (hi - lo).toNat)) S1 (.ref r) (upd H1 r (if tp then .tup (rgV lo hi) else .lst (rgV lo hi))) := by
  cases tp with
  | true => exact PPost.e (ro := .nw (.tup _)) P.st (PPost.tup hr (rg_reps lo _))
  | false => exact PPost.e (ro := .nw (.lst _)) P.st (PPost.lst hr (rg_reps lo _))
theorem s_lrg1 {tp : Bool} {n1 n2 n3 : Pos} {nm : Str} (hnm : nm = if tp then Str.ofString "tuple" else Str.ofString "list") (hc : X.calm = true) (hg : Gl X nm) (hm : X.mg nm = none) (hg2 : Gl X "range") (hm2 : X.mg "range" = none) (ha : PE X a (tE G W p))
    (hs : starEach [a] X.env = [(false, eval a X.env)]) : PE X (.Call (.Name nm n1) [.Call (.Name "range" n2) [a] [] n3] [] pos) (tE G W (kLrg tp (kRng1 p))) := by
  have key : ∀ σ H Q, tE G W (kLrg tp (kRng1 p)) σ H Q → tRg1 (tE G W p) σ H fun lo hi H1 => RgOk lo hi ∧ ∀ q, H1 q = none → Q (.ref q) (upd H1 q (if tp then .tup (rgV lo hi) else .lst (rgV lo hi))) := fun σ H Q ⟨Av, S, st, h⟩ => by
    refine ⟨Av, S, st, ?_⟩
    unfold kLrg kRng1 at h
    cases e : p S with
    | bad => rw [e] at h; exact h
    | exc x S1 => rw [e] at h; exact h
    | ok rv S1 =>
      rw [e] at h
      intro v H1 P
      obtain ⟨Av1, P1, v1⟩ := P.vok st
      have h : RdE G W ((match deref S1 rv.vw with
        | some (.int j) => if rngOk 0 j then Eng.R.ok (rangeD 0 j.toNat, Option.none) S1 else .bad
        | _ => .bad).bind fun xu S1 => if xu.1.length ≤ 16777216 then .ok (rgLst tp xu.1) S1 else .bad) Av S σ H Q := h
      split at h
      · rename_i j ej
        split at h
        · rename_i hz
          obtain ⟨z1, z2, z3, z4⟩ := rngOk_some hz
          cases (v1.vx P1.st ej).int
          have h : RdE G W (if (rangeD 0 j.toNat).length ≤ 16777216 then .ok (rgLst tp (rangeD 0 j.toNat)) S1 else .bad) Av S σ H Q := h
          split at h
          · rename_i hl
            rw [rangeD_length] at hl
            refine ⟨j, rfl, ⟨z1, z2, z3, z4, by rw [Int.sub_zero]; omega⟩, fun r hr => (h.trans P1) (.ref r) _ ?_⟩
            have := lrg_fin (tp := tp) (lo := 0) (hi := j) P1 hr
            rw [Int.sub_zero] at this
            exact this
          · exact h.elim
        · exact h.elim
      · exact h.elim
  cases tp with
  | true => subst hnm; exact PE_imp (pe_tupRg hc hg hm (prg_1 hg2 hm2 ha (by rw [hs]; rfl))) key
  | false => subst hnm; exact PE_imp (pe_listRg hc hg hm (prg_1 hg2 hm2 ha (by rw [hs]; rfl))) key
theorem s_lrg2 {tp : Bool} {n1 n2 n3 : Pos} {nm : Str} (hnm : nm = if tp then Str.ofString "tuple" else Str.ofString "list") (hc : X.calm = true) (hg : Gl X nm) (hm : X.mg nm = none) (hg2 : Gl X "range") (hm2 : X.mg "range" = none) (ha : PE X a (tE G W p)) (hb : PE X b (tE G W q))
    (hs : starEach [a, b] X.env = (false, eval a X.env) :: starEach [b] X.env) (hs2 : starEach [b] X.env = (false, eval b X.env) :: starEach [] X.env) (hp : ∀ pos, (backTo pos (starEach [b] X.env)).any (·.1) = false) : PE X (.Call (.Name nm n1) [.Call (.Name "range" n2) [a, b] [] n3] [] pos) (tE G W (kLrg tp (kRng2 p q))) := by
  have key : ∀ σ H Q, tE G W (kLrg tp (kRng2 p q)) σ H Q → tRg2 (tE G W p) (tE G W q) σ H fun lo hi H1 => RgOk lo hi ∧ ∀ q, H1 q = none → Q (.ref q) (upd H1 q (if tp then .tup (rgV lo hi) else .lst (rgV lo hi))) := fun σ H Q ⟨Av, S, st, h⟩ => by
    refine ⟨Av, S, st, ?_⟩
    unfold kLrg kRng2 at h
    cases e : p S with
    | bad => rw [e] at h; exact h
    | exc x S1 => rw [e] at h; exact h
    | ok rv S1 =>
      rw [e] at h
      intro v H1 P
      obtain ⟨Av1, P1, v1⟩ := P.vok st
      refine ⟨Av1, S1, P1.st, ?_⟩
      cases e2 : q S1 with
      | bad => simp only [R.bind, e2] at h; exact h
      | exc x S2 => simp only [R.bind, e2] at h; exact fun c d H' z => h c d H' (z.trans P1)
      | ok tv S2 =>
        intro u H2 P0
        obtain ⟨Av2, P2, u2⟩ := P0.vok P1.st
        clear P0
        have v2 := v1.on P1.st P2
        simp only [R.bind, e2] at h
        have h : RdE G W ((match deref S2 rv.vw, deref S2 tv.vw with
          | some (.int i), some (.int j) => if rngOk i j then Eng.R.ok (rangeD i (j - i).toNat, Option.none) S2 else .bad
          | _, _ => .bad).bind fun xu S1 => if xu.1.length ≤ 16777216 then .ok (rgLst tp xu.1) S1 else .bad) Av S σ H Q := h
        split at h
        · rename_i i j ei ej
          split at h
          · rename_i hz
            obtain ⟨z1, z2, z3, z4⟩ := rngOk_some hz
            cases (v2.vx P2.st ei).int
            cases (u2.vx P2.st ej).int
            have h : RdE G W (if (rangeD i (j - i).toNat).length ≤ 16777216 then .ok (rgLst tp (rangeD i (j - i).toNat)) S2 else .bad) Av S σ H Q := h
            split at h
            · rename_i hl
              rw [rangeD_length] at hl
              exact ⟨i, j, rfl, rfl, ⟨z1, z2, z3, z4, by omega⟩, fun r hr => (h.trans (P1.trans P2)) (.ref r) _ (lrg_fin P2 hr)⟩
            · exact h.elim
          · exact h.elim
        · exact h.elim
  cases tp with
  | true => subst hnm; exact PE_imp (pe_tupRg hc hg hm (prg_2 hg2 hm2 ha hb hs hs2 (hp _))) key
  | false => subst hnm; exact PE_imp (pe_listRg hc hg hm (prg_2 hg2 hm2 ha hb hs hs2 (hp _))) key
end
end Eng

namespace Eng
open PySem PySem.Spec L2
open PyProof.Rows hiding St

/-! ### calls with keywords -/
theorem vals_zip {ks : List Str} {p : Str} : ∀ {zs : List V} {ws : List Value}, Vals zs ws → ((ks.zip zs).lookup p = none ∧ (ks.zip ws).lookup p = none) ∨ ∃ x u, (ks.zip zs).lookup p = some x ∧ (ks.zip ws).lookup p = some u ∧ RelV x u := by
  induction ks with
  | nil => intro zs ws _; exact .inl ⟨rfl, rfl⟩
  | cons k ks ih =>
    intro zs ws h
    cases h with
    | nil => exact .inl ⟨rfl, rfl⟩
    | cons r t =>
      rw [List.zip_cons_cons, List.zip_cons_cons, List.lookup_cons, List.lookup_cons]
      cases e : (p == k) with
      | true => exact .inr ⟨_, _, rfl, rfl, r⟩
      | false => exact ih t
theorem vals_fm {ks : List Str} {zs : List V} {ws : List Value} (h : Vals zs ws) : ∀ ps : List Str, Vals (ps.filterMap fun p => (ks.zip zs).lookup p) (ps.filterMap fun p => (ks.zip ws).lookup p)
  | [] => .nil
  | p :: ps => by
    rw [List.filterMap_cons, List.filterMap_cons]
    rcases vals_zip (ks := ks) (p := p) h with ⟨h1, h2⟩ | ⟨x, u, h1, h2, r⟩
    · rw [h1, h2]; exact vals_fm h ps
    · rw [h1, h2]; exact .cons r (vals_fm h ps)
theorem vals_kw {ps ks : List Str} {vs zs : List V} {us ws : List Value} (r : Vals vs us) (rz : Vals zs ws) : Vals (kwG ps ks vs zs) (kwG ps ks us ws) := by
  unfold kwG
  rw [r.length]
  exact r.append (vals_fm rz _)
def BindsK (fd : FuncData) (ps ks : List Str) (n : Nat) : Prop := ∀ us ws : List Value, us.length = n → ws.length = ks.length → bindArgs fd ⟨us, ks.zip ws⟩ = pure (ps.zip (kwG ps ks us ws))
section
variable {X : Cx} {k : Nat} {f C : Addr} {fd : FuncData} {ps ks : List Str} {sp : Sp} {E : L2.St → XK} {x m : Str} {p pos apos : Pos} {e o : Expr} {es : List Expr} {ta : TE} {t tk : TA} {kws : List Keyword} {n : Nat}
theorem run_Gk {pins : List (Addr × Obj)} {σ : L2.St} {H : Hp} {s : Shared} {Q : VK} {us ws : List Value} {vs zs : List V} (F : FnG X.prog X.w X.K X.mg X.base k f fd ps sp) (hgd : X.A.guards = some []) (hr : Room k X.A) (hb : BindsK fd ps ks n) (hx : PassesAt (L2.CX X.prog X.w) X σ (E σ))
    (I : Inv X pins σ H s) (r : Vals vs us) (rz : Vals zs ws) (hn : vs.length = n) (hk : zs.length = ks.length) (h : sp (kwG ps ks vs zs) H Q (E σ)) : wpAny (model X.prog X.w) X.A (call (.ref f) us (ks.zip ws)) (L2.EP X pins σ Q) X.xe s := by
  have b := BindsTo.of_eq (s := s) (hb us ws (by rw [← r.length]; exact hn) (by rw [← rz.length]; exact hk))
  exact wpAny_call (codeAny_mono (F.run X.A X.stack s H ⟨us, ks.zip ws⟩ _ _ Q (E σ) hgd hr I.env0 b (vals_kw r rz) h) (ended I (hx pins H s)))
def tCallGk (ps ks : List Str) (n : Nat) (sp : Sp) (E : L2.St → XK) (t tk : TA) : TE := fun σ H Q => t σ H fun vs H1 => tk σ H1 fun zs H2 => vs.length = n ∧ zs.length = ks.length ∧ sp (kwG ps ks vs zs) H2 Q (E σ)
theorem pe_callGk (F : FnG X.prog X.w X.K X.mg X.base k f fd ps sp) (hgd : X.A.guards = some []) (hr : Room k X.A) (hg : Gl X x) (hm : X.mg x = some (.ref f)) (hk : PySem.W.keepIn X.K (.ref f) = true) (hb : BindsK fd ps ks n) (hx : ∀ σ, PassesAt (L2.CX X.prog X.w) X σ (E σ))
    (ha : PA X (e :: es) t) (hkw : PK X kws tk) (hall : (backToKw pos (keywordEach kws X.env)).all (·.1.isSome) = true) (hks : (backToKw pos (keywordEach kws X.env)).filterMap (·.1) = ks)
    (hdb : (x == ("__debug__" : Str)) = false) (he : starEach (e :: es) X.env = (false, eval e X.env) :: starEach es X.env)
    (hpl : ((backTo pos (starEach (e :: es) X.env)).any (·.1) || (backToKw pos (keywordEach kws X.env)).any (·.1.isNone)) = false) :
    PE X (.Call (.Name x p) (e :: es) kws pos) (tCallGk ps ks n sp E t tk) := .mk fun pins s σ H Q inv want =>
  wpAny_Call_Name_kw (ld_glob inv hg hm (PySem.W.callWith_KW (h₀ := X.base) inv.ok.mod.kin hk hall (thn (ha.run pos pins s σ H _ inv want) fun _ s1 ⟨_, H1, inv1, rel, post⟩ =>
    thn (hkw.run pos pins s1 σ H1 _ inv1 post) fun _ _ ⟨_, _, inv2, relk, q1, q2, q3⟩ => ⟨inv2.kIn, by rw [hks]; exact run_Gk F hgd hr hb (hx σ) inv2 rel relk q1 q2 q3⟩) hpl he) hdb)
theorem pe_callGk0 (F : FnG X.prog X.w X.K X.mg X.base k f fd ps sp) (hgd : X.A.guards = some []) (hr : Room k X.A) (hg : Gl X x) (hm : X.mg x = some (.ref f)) (hk : PySem.W.keepIn X.K (.ref f) = true) (hb : BindsK fd ps ks n) (hx : ∀ σ, PassesAt (L2.CX X.prog X.w) X σ (E σ))
    (hkw : PK X kws tk) (hall : (backToKw pos (keywordEach kws X.env)).all (·.1.isSome) = true) (hks : (backToKw pos (keywordEach kws X.env)).filterMap (·.1) = ks)
    (hdb : (x == ("__debug__" : Str)) = false) (hpl : ((backTo pos (starEach [] X.env)).any (·.1) || (backToKw pos (keywordEach kws X.env)).any (·.1.isNone)) = false) :
    PE X (.Call (.Name x p) [] kws pos) (tCallGk ps ks n sp E tNil tk) := .mk fun pins s σ H Q inv want =>
  wpAny_Call_Name_kw (ld_glob inv hg hm (PySem.W.callWith_KW0 (h₀ := X.base) inv.ok.mod.kin hk hall
    (thn (hkw.run pos pins s σ H _ inv want) fun _ _ ⟨_, _, inv2, relk, q1, q2, q3⟩ => ⟨inv2.kIn, by rw [hks]; exact run_Gk (us := []) (vs := []) F hgd hr hb (hx σ) inv2 .nil relk q1 q2 q3⟩) hpl) hdb)
end
section
variable {X : Cx} {G : Gs} {W : WX} {γ : Type} {E : ER γ} {e : Expr} {kws : List Keyword} {pos : Pos}
theorem PK_imp {t t' : TA} (h : PK X kws t') (k : ∀ σ H Q, t σ H Q → t' σ H Q) : PK X kws t := ⟨fun ps pins s σ H Q I w => h.run ps pins s σ H Q I (k σ H Q w)⟩
theorem sk_nil : PK X [] (tL G W E kNil) := PK_imp pk_nil fun σ H Q ⟨Av, S, st, h⟩ => h Av [] H (Post.refl st) rfl
theorem sk_cons {nm : Option Str} {kp : Pos} {f : SS → R γ} {g : SS → R (List γ)} (l : Lasts G E) (ha : PE X e (t1 G W E f)) (hr : PK X kws (tL G W E g)) : PK X (⟨nm, e, kp⟩ :: kws) (tL G W E (kCons f g)) :=
  PK_imp (pk_cons ha hr) fun σ H Q ⟨Av, S, st, h⟩ => by
    refine t1_bindL st h fun x S1 Av1 v H1 P1 e1 h1 => ?_
    refine tL_bindL P1.st (h1.trans P1) fun xs S2 Av2 vs H2 P2 e2 h2 => ?_
    exact h2.trans P2 Av2 (v :: vs) H2 (Post.refl P2.st) ⟨v, vs, rfl, l e1 P1.st P2, e2⟩
theorem Ers.len {Av : Addr → Prop} {S : SS} {σ : L2.St} {H : Hp} : ∀ {xs : List γ} {vs : List V}, Ers E Av S σ H xs vs → vs.length = xs.length
  | [], vs, h => by rw [show vs = [] from h]; rfl
  | x :: xs, vs, ⟨v, r, e, _, h⟩ => by rw [e, List.length_cons, List.length_cons, Ers.len h]
theorem ers_sh {Av : Addr → Prop} {S : SS} {σ : L2.St} {H : Hp} : ∀ {ds : List D} {vs : List V}, Ers (ErD G) Av S σ H ds vs → Ers (ErA G) Av S σ H (ds.map .sh) vs
  | [], vs, h => h
  | d :: ds, vs, ⟨v, r, e, h1, h⟩ => ⟨v, r, e, h1, ers_sh h⟩
theorem ers_zip {ks : List Str} {q : Str} {Av : Addr → Prop} {S : SS} {σ : L2.St} {H : Hp} : ∀ {ds : List D} {vs : List V}, Ers (ErD G) Av S σ H ds vs → ((ks.zip ds).lookup q = none ∧ (ks.zip vs).lookup q = none) ∨ ∃ d v, (ks.zip ds).lookup q = some d ∧ (ks.zip vs).lookup q = some v ∧ Rep G Av H d v := by
  induction ks with
  | nil => intro ds vs _; exact .inl ⟨rfl, rfl⟩
  | cons k ks ih =>
    intro ds vs h
    cases ds with
    | nil => rw [show vs = [] from h]; exact .inl ⟨rfl, rfl⟩
    | cons d ds =>
      obtain ⟨v, r, e, h1, h⟩ := h
      subst e
      rw [List.zip_cons_cons, List.zip_cons_cons, List.lookup_cons, List.lookup_cons]
      cases e : (q == k) with
      | true => exact .inr ⟨_, _, rfl, rfl, h1⟩
      | false => exact ih h
theorem ers_fm {ks : List Str} {Av : Addr → Prop} {S : SS} {σ : L2.St} {H : Hp} {ds : List D} {vs : List V} (h : Ers (ErD G) Av S σ H ds vs) : ∀ ps : List Str, Ers (ErD G) Av S σ H (ps.filterMap fun p => (ks.zip ds).lookup p) (ps.filterMap fun p => (ks.zip vs).lookup p)
  | [] => rfl
  | p :: ps => by
    rw [List.filterMap_cons, List.filterMap_cons]
    rcases ers_zip (ks := ks) (q := p) h with ⟨h1, h2⟩ | ⟨d, v, h1, h2, r⟩
    · rw [h1, h2]; exact ers_fm h ps
    · rw [h1, h2]; exact ⟨v, _, rfl, r, ers_fm h ps⟩
theorem ers_app {Av : Addr → Prop} {S : SS} {σ : L2.St} {H : Hp} {es : List D} {ws : List V} (h' : Ers (ErD G) Av S σ H es ws) : ∀ {ds : List D} {vs : List V}, Ers (ErD G) Av S σ H ds vs → Ers (ErD G) Av S σ H (ds ++ es) (vs ++ ws)
  | [], vs, h => by rw [show vs = [] from h]; exact h'
  | d :: ds, vs, ⟨v, r, e, h1, h⟩ => by rw [e]; exact ⟨v, _, rfl, h1, ers_app h' h⟩
theorem ers_kw {ps ks : List Str} {Av : Addr → Prop} {S : SS} {σ : L2.St} {H : Hp} {ds es : List D} {vs zs : List V} (h : Ers (ErD G) Av S σ H ds vs) (h' : Ers (ErD G) Av S σ H es zs) : Ers (ErA G) Av S σ H ((kwG ps ks ds es).map .sh) (kwG ps ks vs zs) := by
  refine ers_sh ?_
  unfold kwG
  rw [h.len]
  exact ers_app (ers_fm h' _) h
theorem tri_callk {sg : FSig} {ps ks : List Str} {n : Nat} {q o : SS → R (List D)} {σ : L2.St} {H : Hp} {Q : VK} (h : tE G W (kCallk sg ps ks n q o) σ H Q) : tCallGk ps ks n (spG G sg) (WE W) (tL G W (ErD G) q) (tL G W (ErD G) o) σ H Q := by
  obtain ⟨Av, S, st, h⟩ := h
  refine ⟨Av, S, st, ?_⟩
  unfold kCallk at h
  cases e1 : q S with
  | bad => rw [e1] at h; exact h
  | exc x S1 => rw [e1] at h; exact h
  | ok ds S1 =>
    rw [e1] at h
    intro Av1 vs H1 P1 r1
    refine ⟨Av1, S1, P1.st, ?_⟩
    have h : RdE G W ((o S1).bind fun es S2 => if ds.length = n ∧ es.length = ks.length then callSem sg ((kwG ps ks ds es).map .sh) S2 else .bad) Av S σ H Q := h
    cases e2 : o S1 with
    | bad => rw [e2] at h; exact h
    | exc x S2 => rw [e2] at h; exact fun c d H' z => h c d H' (z.trans P1)
    | ok es S2 =>
      rw [e2] at h
      intro Av2 zs H2 P2 r2
      have h : RdE G W (if ds.length = n ∧ es.length = ks.length then callSem sg ((kwG ps ks ds es).map .sh) S2 else .bad) Av S σ H Q := h
      split at h
      · rename_i hz
        have r1' := Ers.on (E := ErD G) lastsD P1.st P2 r1
        exact ⟨r1.len.trans hz.1, r2.len.trans hz.2, call_sp P2.st (ers_kw r1' r2) (h.trans (P1.trans P2))⟩
      · exact h.elim
end
section
variable {X : Cx} {G : Gs} {W : WX} {k : Nat} {f : Addr} {fd : FuncData} {ps ks : List Str} {sg : FSig} {x : Str} {p pos : Pos} {e : Expr} {es : List Expr} {kws : List Keyword} {q o : SS → R (List D)} {n : Nat}
theorem kw_all (env : Env) (pos : Pos) : ∀ {kws : List Keyword} {ks : List Str}, kws.map (·.arg) = ks.map some → (backToKw pos (keywordEach kws env)).all (·.1.isSome) = true ∧ (backToKw pos (keywordEach kws env)).filterMap (·.1) = ks ∧ (backToKw pos (keywordEach kws env)).any (·.1.isNone) = false
  | [], [], _ => ⟨rfl, rfl, rfl⟩
  | ⟨nm, e, kp⟩ :: kws, k :: ks, h => by
    rw [List.map_cons, List.map_cons] at h
    injection h with h1 h2
    have h1 : nm = some k := h1
    subst h1
    obtain ⟨i1, i2, i3⟩ := kw_all env pos (kws := kws) (ks := ks) h2
    refine ⟨?_, ?_, ?_⟩
    · show (true && (backToKw pos (keywordEach kws env)).all (·.1.isSome)) = true
      rw [i1]; rfl
    · show ((some k, _) :: backToKw pos (keywordEach kws env)).filterMap (·.1) = k :: ks
      rw [List.filterMap_cons, i2]
    · show (false || (backToKw pos (keywordEach kws env)).any (·.1.isNone)) = false
      rw [i3]; rfl
  | [], _ :: _, h => by cases h
  | _ :: _, [], h => by cases h
theorem s_callk (F : FnG X.prog X.w X.K X.mg X.base k f fd ps (spG G sg)) (hgd : X.A.guards = some []) (hr : Room k X.A) (tk : Takes X W) (hg : Gl X x) (hm : X.mg x = some (.ref f)) (hk : PySem.W.keepIn X.K (.ref f) = true) (hb : BindsK fd ps ks n)
    (ha : PA X (e :: es) (tL G W (ErD G) q)) (hkw : PK X kws (tL G W (ErD G) o)) (hks : kws.map (·.arg) = ks.map some) (hdb : (x == ("__debug__" : Str)) = false) (he : starEach (e :: es) X.env = (false, eval e X.env) :: starEach es X.env) (hpl : (backTo pos (starEach (e :: es) X.env)).any (·.1) = false) :
    PE X (.Call (.Name x p) (e :: es) kws pos) (tE G W (kCallk sg ps ks n q o)) := by
  obtain ⟨i1, i2, i3⟩ := kw_all X.env pos hks
  exact PE_imp (pe_callGk F hgd hr hg hm hk hb (fun σ => passAt tk σ) ha hkw i1 i2 hdb he (by rw [hpl, i3]; rfl)) fun σ H Q h => tri_callk h
theorem s_callk0 (F : FnG X.prog X.w X.K X.mg X.base k f fd ps (spG G sg)) (hgd : X.A.guards = some []) (hr : Room k X.A) (tk : Takes X W) (hg : Gl X x) (hm : X.mg x = some (.ref f)) (hk : PySem.W.keepIn X.K (.ref f) = true) (hb : BindsK fd ps ks n)
    (hkw : PK X kws (tL G W (ErD G) o)) (hks : kws.map (·.arg) = ks.map some) (hq : q = kNil) (hdb : (x == ("__debug__" : Str)) = false) :
    PE X (.Call (.Name x p) [] kws pos) (tE G W (kCallk sg ps ks n q o)) := by
  obtain ⟨i1, i2, i3⟩ := kw_all X.env pos hks
  subst hq
  refine PE_imp (pe_callGk0 F hgd hr hg hm hk hb (fun σ => passAt tk σ) hkw i1 i2 hdb (by rw [i3]; rfl)) fun σ H Q h => ?_
  obtain ⟨Av, S, st, h⟩ := tri_callk h
  exact h Av [] H (Post.refl st) rfl
end
end Eng

namespace Eng
open PySem PySem.Spec L2
open PyProof.Rows hiding St
section
variable {X : Cx} {G : Gs} {W : WX} {a b c e : Expr} {es : List Expr} {pos p2 pp : Pos} {p q o : KE} {x : Str}

/-! ### isinstance(a, (T, ..)) -/
def tTys (ts : List Ty) : TA := fun σ H Q => Q (ts.map fun t => V.ty t.nm) H
theorem isTs_kit {K : PySem.W.Frag} {d : Eng.D} {n : String} (hn : tyD d = some n) : ∀ {ts : List Ty} {ro : RO}, isTs ts d = some ro → ts.all Ty.ok = true → ∃ b, ro = bo b ∧ PySem.W.kitAny K (.type n) (ts.map fun t => Value.type t.nm) = some b
  | [], ro, h, _ => by cases h; exact ⟨false, rfl, rfl⟩
  | t :: ts, ro, h, ho => by
    rw [List.all_cons, Bool.and_eq_true] at ho
    have h : (match isT d t with | some true => some (bo true) | some false => isTs ts d | none => none) = some ro := h
    cases ei : isT d t with
    | none => rw [ei] at h; cases h
    | some r =>
      obtain ⟨m, e2, e3⟩ := isT_kit (K := K) ei ho.1
      rw [hn] at e2; cases e2
      rw [ei] at h
      cases r with
      | true => cases h; exact ⟨true, rfl, kitAny_cons e3 (fun z => nomatch z) fun _ => rfl⟩
      | false =>
        obtain ⟨b, e4, e5⟩ := isTs_kit hn (ts := ts) h ho.2
        exact ⟨b, e4, kitAny_cons e3 (fun _ => e5) fun z => nomatch z⟩
theorem isTs_ty (K : PySem.W.Frag) {d : Eng.D} {t : Ty} {ts : List Ty} {ro : RO} (h : isTs (t :: ts) d = some ro) (ho : t.ok = true) : ∃ n, tyD d = some n := by
  have h : (match isT d t with | some true => some (bo true) | some false => isTs ts d | none => none) = some ro := h
  cases ei : isT d t with
  | none => rw [ei] at h; cases h
  | some r => obtain ⟨m, e2, _⟩ := isT_kit (K := K) ei ho; exact ⟨m, e2⟩
theorem tys_paired : ∀ ts : List Ty, Paired ClsV (ts.map fun t => V.ty t.nm) (ts.map fun t => Value.type t.nm)
  | [] => .nil
  | t :: ts => .cons (.ty t.nm) (tys_paired ts)
theorem s_isiT {t : Ty} {ts : List Ty} {pn pt : Pos} {kt : Nat} (ht : (t :: ts).all Ty.ok = true) (hl : (t :: ts).length ≤ 9) (hg : Gl X "isinstance") (hm : X.mg "isinstance" = none) (ht' : PA X es (tTys (t :: ts))) (ha : PE X a (tE G W p))
    (hs1 : starEach [a, .Tuple es kt pt] X.env = (false, eval a X.env) :: starEach [.Tuple es kt pt] X.env) :
    PE X (.Call (.Name "isinstance" pn) [a, .Tuple es kt pt] [] pos) (tE G W (kUn (isTs (t :: ts)) p)) :=
  PE_imp (pe_callB call_isiT hg hm (by decide +kernel) (pa_cons ha (pa_cons (pe_tup ht') pa_nil rfl) hs1) (by decide +kernel) (by decide +kernel) hs1 rfl) fun σ H Q ⟨Av, S, st, h⟩ =>
    tE_bind st h fun r S1 v H1 P1 h1 => by
      obtain ⟨Av1, P1, v1⟩ := P1.vok st
      obtain ⟨ro, e, h1⟩ := prim_some (h1.trans P1)
      obtain ⟨d, e1, e⟩ := Option.bind_eq_some_iff.mp e
      rw [List.all_cons, Bool.and_eq_true] at ht
      obtain ⟨n, hn⟩ := isTs_ty X.K e ht.1
      obtain ⟨b, rfl, hb⟩ := isTs_kit (K := X.K) hn e (by rw [List.all_cons, Bool.and_eq_true]; exact ht)
      refine ⟨by rw [List.length_map, sizeLine_eq]; omega, fun T hT => ?_⟩
      have PH : Post G Av1 S1 σ H1 Av1 S1 (upd H1 T (.tup ((t :: ts).map fun t => V.ty t.nm))) := Post.ext P1.st (ext_upd hT) (fun a q => .inl q) (fun a q => let ⟨o, w, m⟩ := P1.st.dom a q; ⟨o, ext_upd hT a o w, m⟩) fun a q => q
      exact ⟨v, T, _, _, _, b, rfl, upd_same, tys_paired _, vx_ty ((v1.on P1.st PH).vx PH.st e1) hn, hb, h1 (.bl b) _ ⟨Av1, PH, (rfl : V.bl b = V.bl b)⟩⟩

/-! ### a field -/
theorem zip_get {Av : Addr → Prop} {H : Hp} {f : Str} {d : Eng.D} : ∀ {ns : List Str} {ds : List Eng.D} {vs : List V}, Reps G Av H ds vs → (ns.zip ds).lookup f = some d → ∃ v, (ns.zip vs).lookup f = some v ∧ Rep G Av H d v
  | [], _, _, _, h => by cases h
  | _ :: _, [], _, _, h => by cases h
  | n :: ns, d' :: ds, vs, ⟨v, r, e, h1, h2⟩, h => by
    subst e
    have h : ((n, d') :: ns.zip ds).lookup f = some d := h
    show ∃ w, ((n, v) :: ns.zip r).lookup f = some w ∧ Rep G Av H d w
    rw [List.lookup_cons] at h ⊢
    cases hb : (f == n) with
    | true => rw [hb] at h; cases h; exact ⟨v, rfl, h1⟩
    | false => rw [hb] at h; exact zip_get h2 h
theorem s_fld {f : Str} {cs : List Nat} (hc : ∀ c ∈ cs, Cls X.K (G.c c) ∧ NoAttr X.K (G.c c) f) (ha : PE X a (tE G W p)) (hb : attributeBase a f X.env (eval a X.env) = eval a X.env) : PE X (.Attribute a f pos) (tE G W (kUn (fldD cs f) p)) :=
  PE_imp (pe_fld ha hb) fun σ H Q ⟨Av, S, st, h⟩ =>
    tE_bind st h fun r S1 v H1 P0 h0 => by
      obtain ⟨Av1, P1, v1⟩ := P0.vok st
      obtain ⟨ro, e, h1⟩ := prim_some (h0.trans P1)
      obtain ⟨d, e1, e⟩ := Option.bind_eq_some_iff.mp e
      have vd := v1.vx P1.st e1
      clear h0 P0 v1
      cases d with
      | obj c ns ds =>
        have e : (if c ∈ cs ∧ ns.length = ds.length then ((ns.zip ds).lookup f).map RO.sh else none) = some ro := e
        split at e
        · rename_i hz
          obtain ⟨d', e2, rfl⟩ := Option.map_eq_some_iff.mp e
          obtain ⟨q, dx, vs, rfl, g1, g2, g3⟩ := vd.1
          obtain ⟨u, k1, k2⟩ := zip_get g3 e2
          exact ⟨q, _, dx, _, u, rfl, g1, (hc c hz.1).1, (hc c hz.1).2, k1, h1 u H1 ⟨Av1, Post.refl P1.st, k2⟩⟩
        · cases e
      | _ => cases e
end
end Eng

namespace Eng
open PySem PySem.Spec L2
open PyProof.Rows hiding St

/-! ### what a callee promises at a call of a given form -/
structure CallG (P : Program) (w : World) (K : PySem.W.Frag) (mg : Str → Option Value) (base : Heap) (k : Nat) (f : Addr) (sp : Sp) : Prop where
  run : ∀ (A : Around) (outer : List Env) (s : Shared) (H : Hp) (us : List Value) (vs : List V) (Q : VK) (E : XK), A.guards = some [] → Room k A → Env0 P w K mg base A outer s H → Vals vs us → sp vs H Q E →
    codeAny (model P w) A (.call (.ref f) ⟨us, []⟩) (CR (L2.CX P w) outer P w H s Q E) s
section
variable {P : Program} {w : World} {K : PySem.W.Frag} {mg : Str → Option Value} {base : Heap} {j k : Nat} {f : Addr} {fd : FuncData} {ps : List Str} {sp : Sp}
theorem CallG.mono (F : CallG P w K mg base j f sp) (h : j ≤ k) : CallG P w K mg base k f sp := ⟨fun A outer s H us vs Q E hgd hr => F.run A outer s H us vs Q E hgd (hr.mono h)⟩
theorem CallG.of {ds : List Value} {dvs : List V} (F : FnG P w K mg base k f fd ps sp) (hb : Binds K fd ps ds) (hd : Vals dvs ds) : CallG P w K mg base k f (fun vs => sp (vs ++ dvs)) := ⟨fun A outer s H us vs Q E hgd hr e0 r h => by
  have KX : K.In s.heap := e0.mod.kin.keeps fun b o e => (e0.bs b o e).1
  have l : (us ++ ds).length = ps.length := by rw [← (r.append hd).length]; exact F.len _ _ _ _ h
  exact F.run A outer s H ⟨us, []⟩ (us ++ ds) (vs ++ dvs) Q E hgd hr e0 (hb s us KX l) (r.append hd) h⟩
end

/-- def f(a, .., *v): what is left over is a new tuple -/
theorem callG_star {P : Program} {w : World} {K : PySem.W.Frag} {mg : Str → Option Value} {base : Heap} {k : Nat} {f : Addr} {name qual : Str} {params : Arguments} {body : List Stmt} {scope : Scope} {dV kV doc pm cdv ct oc : Value} {an od : Option Addr} {osl : Array (Option Value)} {N ps : List Str} {pv : Str} {sp : Sp}
    (lk : K.lookup f = some ⟨oc, od, .func (PySem.W.fnOf name qual params body scope dV kV doc pm an cdv ct), osl⟩) (hcd : PySem.W.codeIn K cdv qual = true) (S : FnScope N (ps ++ [pv]) scope)
    (hb : ∀ us rest : List Value, us.length = ps.length → bindArgs (PySem.W.fnOf name qual params body scope dV kV doc pm an cdv ct) ⟨us ++ rest, []⟩ = (newTuple rest >>= fun t => pure (ps.zip us ++ [(pv, t)])))
    (hbody : ∀ (A : Around) (outer : List Env) (s : Shared) (H : Hp) (vs : List V) (Q : VK) (E : XK), A.guards = some [] → Room k (A.deeper (envOfC qual scope s.heap.objs.size f cdv)) → sp vs H Q E →
      ∃ t, PSs (cxOf (L2.CX P w) P w K mg base N qual scope f cdv A outer s H E) body t ∧ t { nx := fun _ H' => Q .non H', rt := Q } (L2.start N vs) H) :
    CallG P w K mg base (k + 1) f (fun vs H Q E => ∃ ws rest, vs = ws ++ rest ∧ ws.length = ps.length ∧ rest.length ≤ sizeLine ∧ ∀ p, H p = none → sp (ws ++ [.ref p]) (upd H p (.tup rest)) Q E) := by
  constructor
  rintro A outer s H us vs Q E hgd room e0 r ⟨ws, rest, rfl, lw, lr, want⟩
  obtain ⟨u1, u2, rfl, r1, r2⟩ := StX.vals_split r
  have new : H s.heap.objs.size = none := e0.hok.fresh (Nat.le_refl _)
  have l1 : u1.length = ps.length := r1.length.symm.trans lw
  have l2 : u2.length ≤ sizeLine := by rw [← r2.length]; exact lr
  refine StX.run_bnd lk hcd S room e0 (G := fun xs H2 => ∃ p, H p = none ∧ xs = ws ++ [.ref p] ∧ H2 = upd H p (.tup rest)) ?_ ?_
  · intro A' Ex Q' next
    rw [hb u1 u2 l1]
    refine wpAny_bind (wpAny_newTuple (wpAny_pure ?_) l2)
    have ok : ObjOk P w (upd H s.heap.objs.size (.tup rest)) (s.heap.push ({ cls := .type "tuple", data := .seq u2.toArray } : Obj)) s.heap.objs.size (.tup rest) := ⟨lr, u2, r2, _, Heap.get?_push_size _ rfl, rfl, _, rfl⟩
    have un := StX.un_laid (fs := frs outer) (s := s) (o := ({ cls := .type "tuple", data := .seq u2.toArray } : Obj)) (u := .tup rest) new
    have go := next _ _ (ws ++ [V.ref s.heap.objs.size]) (u1 ++ [Value.ref s.heap.objs.size]) (StX.env0_laid e0 ok) un rfl (fun e s' => StX.cxUp outer s H _ _ E e s' un (fun b o q => Heap.get?_push_of_some _ q) rfl) (r1.append (.cons rfl .nil))
      (by rw [List.length_append, List.length_append, lw]; rfl) ⟨_, new, rfl, rfl⟩
    rwa [List.zip_append l1.symm] at go
  · rintro s2 H2 xs ⟨p, hp, rfl, rfl⟩ room2
    exact hbody A outer s2 _ _ Q E hgd room2 (want p hp)

/-! ### a method that says super().__init__(..) first -/
/-- the names of such a method: none is a cell, __class__ alone comes from outside -/
structure ScopeS (N P : List Str) (sc : Scope) : Prop where
  kind : sc.kind = .function
  co : sc.isCoroutine = false
  gen : sc.isGenerator = false
  nd : N.Nodup
  pre : N.take P.length = P
  par : ∀ x ∈ P, sc.names.lookup x = some .local
  nocell : ∀ y ∈ sc.names, y.2 ≠ .cell
  free : ∀ y ∈ sc.names, y.2 = NameKind.free → y.1 = ("__class__" : Str)
  has : sc.names.lookup ("__class__" : Str) = some NameKind.free
def scS (N P : List Str) (sc : Scope) : Bool := decide (sc.kind = .function) && !sc.isCoroutine && !sc.isGenerator && decide N.Nodup && decide (N.take P.length = P) && (P.all fun x => decide (sc.names.lookup x = some .local)) &&
  (sc.names.all fun y => decide (y.2 ≠ NameKind.cell) && (!(decide (y.2 = NameKind.free)) || decide (y.1 = ("__class__" : Str)))) && decide (sc.names.lookup ("__class__" : Str) = some NameKind.free)
theorem scopeS_by {N P : List Str} {sc : Scope} (h : scS N P sc = true) : ScopeS N P sc := by
  unfold scS at h
  simp only [Bool.and_eq_true, decide_eq_true_eq, Bool.not_eq_true', List.all_eq_true, Bool.or_eq_true] at h
  obtain ⟨⟨⟨⟨⟨⟨⟨h1, h2⟩, h3⟩, h4⟩, h5⟩, h6⟩, h7⟩, h8⟩ := h
  refine ⟨h1, h2, h3, h4, h5, h6, fun y hy => (h7 y hy).1, fun y hy e => ?_, h8⟩
  rcases (h7 y hy).2 with z | z
  · simp [e] at z
  · exact z
abbrev envS (qual : Str) (scope : Scope) (L f : Addr) (cd : Value) (cc : Addr) : Env := PySem.W.ksEnv qual scope L f cd cc
def cxS (CX : CXT) (P : Program) (w : World) (K : PySem.W.Frag) (mg : Str → Option Value) (base : Heap) (N : List Str) (qual : Str) (scope : Scope) (f : Addr) (cd : Value) (cc : Addr) (A : Around) (outer : List Env) (s : Shared) (H : Hp) (E : XK) : Cx where
  prog := P
  w := w
  K := K
  mg := mg
  base := base
  A := A.deeper (envS qual scope s.heap.objs.size f cd cc)
  N := N
  s_0 := s
  H_0 := H
  env := envS qual scope s.heap.objs.size f cd cc
  outer := outer
  stack := envS qual scope s.heap.objs.size f cd cc :: outer
  ex := []
  fn := fun _ => false
  calm := true
  pn := []
  xe := fun e s' => wpAny (model P w) (A.deeper (envS qual scope s.heap.objs.size f cd cc)) (leaving (envS qual scope s.heap.objs.size f cd cc) e) (fun _ s'' => CX outer H s E e s'') (fun e' s'' => CX outer H s E e' s'') s'
theorem lookup_nd {α : Type} : ∀ {l : List (Str × α)} {n : Str} {c : α}, (l.map (·.1)).Nodup → (n, c) ∈ l → l.lookup n = some c
  | [], _, _, _, h => by cases h
  | (m, d) :: l, n, c, nd, h => by
    have nd : (m :: l.map (·.1)).Nodup := nd
    obtain ⟨h1, h2⟩ := List.nodup_cons.mp nd
    rcases List.mem_cons.mp h with e | h
    · cases e; simp [List.lookup]
    · have ne : (n == m) = false := by
        rw [beq_eq_false_iff_ne]
        intro e
        exact h1 (List.mem_map.mpr ⟨(n, c), h, e⟩)
      simp only [List.lookup, ne]
      exact lookup_nd h2 h
theorem lookup_rev {us : List Value} {ps : List Str} {y : Str} {u : Value} {i : Nat} (nd : ps.Nodup) (hl : us.length = ps.length) (h1 : ps[i]? = some y) (h2 : us[i]? = some u) : (ps.zip us).reverse.lookup y = some u := by
  refine lookup_nd ?_ ?_
  · rw [List.map_reverse, List.map_fst_zip (by omega)]
    exact List.pairwise_reverse.mpr (List.Pairwise.imp (fun h => Ne.symm h) nd)
  · rw [List.mem_reverse]
    exact List.mem_of_getElem? (i := i) (by rw [List.getElem?_zip_eq_some]; exact ⟨h1, h2⟩)
theorem inv_startS {CX : CXT} {P : Program} {w : World} {K : PySem.W.Frag} {mg : Str → Option Value} {base : Heap} {N ps : List Str} {qual : Str} {scope : Scope} {f cc : Addr} {cd cl : Value} {cld : Option Addr} {cv : Option Value} {csl : Array (Option Value)} {A : Around} {outer : List Env} {s : Shared} {H : Hp} {E : XK} {us : List Value} {vs : List V} {h1 : Heap} {tk : Nat}
    (S : ScopeS N ps scope) (hcell : K.lookup cc = some ⟨cl, cld, .cell cv, csl⟩) (hd : A.handled = none) (e0 : Env0 P w K mg base A outer s H) (hl : vs.length = ps.length) (r : Vals vs us) (hns : h1.Ns s.heap.objs.size fun y => (ps.zip us).reverse.lookup y) (hk : ∀ b o, s.heap.get? b = some o → h1.get? b = some o) :
    Inv (cxS CX P w K mg base N qual scope f cd cc A outer s H E) [] (L2.start N vs) H { s with heap := h1, toks := tk } := by
  have hpl : ps.length ≤ N.length := by have := congrArg List.length S.pre; rw [List.length_take] at this; omega
  have noA : ∀ b : Addr, b ∉ (cxS CX P w K mg base N qual scope f cd cc A outer s H E).ex := fun b z => absurd (show b ∈ ([] : List Addr) from z) (by simp)
  have one : ∀ {y : Str} {c : Addr}, (envS qual scope s.heap.objs.size f cd cc).cells.lookup y = some c → y = ("__class__" : Str) ∧ c = cc := fun {y c} e => by
    have e : ([(("__class__" : Str), cc)] : List (Str × Addr)).lookup y = some c := e
    have m := PySem.mem_of_lookup e
    simp only [List.mem_cons, List.not_mem_nil, or_false, Prod.mk.injEq] at m
    exact m
  have hb := e0.mod.kin _ _ hcell
  refine ⟨⟨e0.mod, S.kind, rfl, rfl, Nat.le_refl _, fun y z c q1 q2 => ?_, fun y hy => ?_, fun y c z _ => ?_, fun _ => hd, Around.frames_deeper e0.frames, .inr ⟨rfl, rfl⟩, fun b z => absurd z (noA b), e0.bs, e0.bsz, fun b _ _ => noA b, fun b z => absurd z (noA b), e0.funs, e0.frf⟩,
    rfl, e0.bare, Un.kept hk, ⟨_, hns, fun i y v q1 q2 q3 => ?_⟩, fun y c h => ?_, e0.hok.fresh (Nat.le_refl _), fun y c h => ?_, fun p hp => absurd (show p ∈ ([] : List (Addr × Obj)) from hp) (by simp), e0.hok.kept hk, ?_⟩
  · rw [(one q1).1, (one q2).1]
  · refine ⟨cc, ?_⟩
    have hy : scope.names.lookup y = some .cell ∨ scope.names.lookup y = some .free := hy
    rcases hy with hy | hy
    · exact absurd rfl (S.nocell _ (PySem.mem_of_lookup hy))
    · have := S.free _ (PySem.mem_of_lookup hy) rfl
      show ([(("__class__" : Str), cc)] : List (Str × Addr)).lookup y = some cc
      rw [show y = ("__class__" : Str) from this]
      simp [List.lookup]
  · exact nomatch (show false = true from z)
  · have hi : i < vs.length := by
      unfold L2.start at q2
      by_cases hi : i < vs.length
      · exact hi
      · rw [List.getElem?_append_right (by simpa using hi), List.getElem?_replicate] at q2
        split at q2 <;> cases q2
    have ha : vs[i]? = some v := by
      unfold L2.start at q2
      rw [List.getElem?_append_left (by simpa using hi), List.getElem?_map] at q2
      cases e : vs[i]? with
      | none => rw [e] at q2; cases q2
      | some a => rw [e] at q2; cases q2; rfl
    obtain ⟨u, hu, rv⟩ := r.get ha
    have hp : ps[i]? = some y := by
      rw [← S.pre, List.getElem?_take_of_lt (by omega)]; exact q1
    have ndP : ps.Nodup := by rw [← S.pre]; exact S.nd.sublist (List.take_sublist _ _)
    exact ⟨u, rv, .inl ⟨S.par y (List.mem_of_getElem? hp), lookup_rev ndP (by rw [← r.length, hl]) hp hu⟩⟩
  · rw [(one h).2]
    exact ⟨cv, _, hk _ _ (e0.bs _ _ hb).1, rfl⟩
  · rw [(one h).2]
    exact (e0.bs _ _ hb).2
  · unfold L2.start
    show _ = N.length
    rw [List.length_append, List.length_map, List.length_replicate]
    omega
/-- the body of a def, run from its start, where the activation is known -/
def PAt (X : Cx) (body : List Stmt) (t : TS) : Prop := ∀ (s : Shared) (σ : L2.St) (H : Hp) (D : Ends), Inv X [] σ H s → t D σ H → PySem.wpAt (model X.prog X.w) X.A (.func body X.env) (execs body X.env) (SP X [] D) X.xe s
section
variable {CX : CXT} {P : Program} {w : World} {K : PySem.W.Frag} {mg : Str → Option Value} {base : Heap} {k : Nat} {f cc cda : Addr} {name qual : Str} {params : Arguments} {body : List Stmt} {scope : Scope} {dV kV doc pm ct oc cl : Value} {an od cld : Option Addr} {osl csl : Array (Option Value)} {cv : Option Value} {N ps : List Str} {sp : Sp}
theorem run_ofS (lk : K.lookup f = some ⟨oc, od, .func (PySem.W.ksFn name qual params body scope dV kV doc pm an (.ref cda) ct cc), osl⟩) (hcd : PySem.W.codeIn K (.ref cda) qual = true) (hcell : K.lookup cc = some ⟨cl, cld, .cell cv, csl⟩) (S : ScopeS N ps scope)
    {A : Around} {outer : List Env} {s : Shared} {H : Hp} {args : PySem.Args} {us : List Value} {vs : List V} {Q : VK} {E : XK} (room : Room (k + 1) A) (env : Env0 P w K mg base A outer s H)
    (bound : BindsTo s (PySem.W.ksFn name qual params body scope dV kV doc pm an (.ref cda) ct cc) args (ps.zip us)) (rel : Vals vs us) (lv : vs.length = ps.length) {t : TS} (ht : PAt (cxS CX P w K mg base N qual scope f (.ref cda) cc A outer s H E) body t) (hq : t { nx := fun _ H' => Q .non H', rt := Q } (L2.start N vs) H) :
    codeAny (model P w) A (.call (.ref f) args) (CR CX outer P w H s Q E) s := by
  have kin := env.mod.kin.keeps (fun a o e => (env.bs a o e).1)
  refine ks_codeAny_call_defAt (fd := PySem.W.ksFn name qual params body scope dV kV doc pm an (.ref cda) ct cc) (body := body) (binds := ps.zip us) room.depth (kin _ _ lk) rfl (env.mod.nolimit.keeps fun a o e => (env.bs a o e).1) (PySem.W.codeRec_of kin hcd) rfl bound S.nocell
    (fun x hx => S.par _ (List.of_mem_zip hx).1) (fun h1 hns hk => ?_) S.co S.gen S.kind
  have I := inv_startS (CX := CX) (qual := qual) (f := f) (cd := .ref cda) (E := E) (tk := s.toks + (ps.zip us).length) S hcell room.hd env lv rel hns hk
  refine ks_wpAt_mono (ht _ _ _ _ I hq) (fun fl s' hs => ?_) fun e s' hs => hs
  have fin : ∀ {σ' : L2.St} {H' : Hp} {v : V} {u : Value}, Inv (cxS CX P w K mg base N qual scope f (.ref cda) cc A outer s H E) [] σ' H' s' → L2.RelV v u → Q v H' → L2.CE outer P w H s Q u s' :=
    fun {σ' H' v u} J rv q => ⟨v, H', J.os, J.bare, J.base, J.hok, rv, q⟩
  cases fl with
  | ret u =>
    obtain ⟨v, σ', H', J, rv, q⟩ := hs
    exact fin J rv q
  | next =>
    obtain ⟨σ', H', J, q⟩ := hs
    exact fin (v := V.non) (u := Value.none) J rfl q
  | brk =>
    obtain ⟨_, _, _, q⟩ := hs
    exact False.elim q
  | cont =>
    obtain ⟨_, _, _, q⟩ := hs
    exact False.elim q
theorem fnG_ofS (lk : K.lookup f = some ⟨oc, od, .func (PySem.W.ksFn name qual params body scope dV kV doc pm an (.ref cda) ct cc), osl⟩) (hcd : PySem.W.codeIn K (.ref cda) qual = true) (hcell : K.lookup cc = some ⟨cl, cld, .cell cv, csl⟩) (S : ScopeS N ps scope)
    (len : ∀ vs H Q E, sp vs H Q E → vs.length = ps.length)
    (hbody : ∀ (A : Around) (outer : List Env) (s : Shared) (H : Hp) (vs : List V) (Q : VK) (E : XK), A.guards = some [] → Room k (A.deeper (envS qual scope s.heap.objs.size f (.ref cda) cc)) → sp vs H Q E →
      ∃ t, PAt (cxS (L2.CX P w) P w K mg base N qual scope f (.ref cda) cc A outer s H E) body t ∧ t { nx := fun _ H' => Q .non H', rt := Q } (L2.start N vs) H) :
    FnG P w K mg base (k + 1) f (PySem.W.ksFn name qual params body scope dV kV doc pm an (.ref cda) ct cc) ps sp := by
  refine ⟨len, fun A outer s H args us vs Q E guards room env bound rel want => ?_⟩
  obtain ⟨t, ht, hq⟩ := hbody A outer s H vs Q E guards (room.deeper _) want
  exact run_ofS lk hcd hcell S room env bound rel (len _ _ _ _ want) ht hq
theorem fnOk_ofS (lk : K.lookup f = some ⟨oc, od, .func (PySem.W.ksFn name qual params body scope dV kV doc pm an (.ref cda) ct cc), osl⟩) (hcd : PySem.W.codeIn K (.ref cda) qual = true) (hcell : K.lookup cc = some ⟨cl, cld, .cell cv, csl⟩) (S : ScopeS N ps scope)
    (len : ∀ vs H Q E, sp vs H Q E → vs.length = ps.length)
    (hbody : ∀ (A : Around) (outer : List Env) (s : Shared) (H : Hp) (vs : List V) (Q : VK) (E : XK), Room k (A.deeper (envS qual scope s.heap.objs.size f (.ref cda) cc)) → sp vs H Q E →
      ∃ t, PAt (cxS CX P w K mg base N qual scope f (.ref cda) cc A outer s H E) body t ∧ t { nx := fun _ H' => Q .non H', rt := Q } (L2.start N vs) H) :
    FnOk P w K mg base CX (k + 1) f (PySem.W.ksFn name qual params body scope dV kV doc pm an (.ref cda) ct cc) ps sp := by
  refine ⟨len, fun A outer s H args us vs Q E room env bound rel want => ?_⟩
  obtain ⟨t, ht, hq⟩ := hbody A outer s H vs Q E (room.deeper _) want
  exact run_ofS lk hcd hcell S room env bound rel (len _ _ _ _ want) ht hq
end
end Eng

namespace Eng
open PySem PySem.Spec L2
open PyProof.Rows hiding St

theorem call_form {o : Expr} {m : Str} {apos pos : Pos} {es : List Expr} {kws : List Keyword} {env : Env} (hf : methodCallForm (es.length + kws.length) (backTo pos (starEach es env)) (backToKw pos (keywordEach kws env)) = true) (hl : (apos.endLine == pos.line) = true) :
    eval (.Call (.Attribute o m apos) es kws pos) env = (do
      let ov ← attributeBase o m env (eval o env)
      standAt apos.atName
      let (f, first) ← holding [ov] (getMethod ov m (plainOf o env))
      callWith pos f first (backTo pos (starEach es env)) (backToKw pos (keywordEach kws env))) := by
  show (do
      let ov ← attributeBase o m env (eval o env)
      standAt apos.atName
      methodCall o m apos pos env ov (es.length + kws.length) (backTo pos (starEach es env)) (backToKw pos (keywordEach kws env))) = _
  congr 1
  funext ov
  congr 1
  funext _
  exact mcall_line hf hl
/-- what is known of a def that says super() -/
structure SupX (X : Cx) (cc D : Addr) (ar : Str) : Prop where
  ks : X.env.kindOf "super" = some .globalImplicit
  kc : X.env.kindOf "__class__" = some .free
  ka : X.env.kindOf ar = some .local
  fn : ∃ f o fd a, X.env.func = some f ∧ X.K.lookup f = some o ∧ o.data = .func fd ∧ (fd.params.posonlyargs ++ fd.params.args).head? = some a ∧ a.arg = ar
  code : ∃ c o vs file tf, X.env.code = .ref c ∧ X.K.lookup c = some o ∧ o.data = .fields vs ∧ vs[2]? = some (.str file tf) ∧ ((X.prog.main.file : Str) == file) = true
  top : (X.prog.main.scope.names.lookup ("super" : Str)).isSome = false
  mg : X.mg "super" = none
  cell : X.env.cells.lookup ("__class__" : Str) = some cc
  clsc : ∃ cl cld csl, X.K.lookup cc = some ⟨cl, cld, .cell (some (.ref D)), csl⟩
  cls : ∃ cd, PySem.W.clsIn X.K D = some cd
  n0 : X.N[0]? = some ar
theorem cls_at {K : PySem.W.Frag} {h : Heap} (X : K.In h) {D : Addr} {cd : ClassData} (hD : PySem.W.clsIn K D = some cd) : ∃ o, h.get? D = some o ∧ o.data = .cls cd := by
  unfold PySem.W.clsIn at hD
  split at hD
  · rename_i c d cd' sl ho
    cases hD
    exact ⟨_, X _ _ ho, rfl⟩
  · cases hD
section
variable {X : Cx} {cc D C x : Addr} {ar : Str} {σ : L2.St} {H : Hp} {s : Shared}
theorem sup_front {body : List Stmt} {A : Around} {p0 p1 : Pos} {attr : Str} {whole : Sem Value} {ox : Obj} {Q : Value → Shared → Prop} {E : Value → Shared → Prop} (T : SupX X cc D ar) (I : Inv X [] σ H s) (h0 : σ[0]? = some (some (.ref x))) (hx : s.heap.get? x = some ox) (hxc : ox.cls = .ref C) (hnc : ∀ c, ox.data ≠ .cls c)
    (hsub : PySem.W.mroIn X.K C (.ref D) = some true) (hat : (attr == ("__class__" : Str)) = false)
    (next : ∀ so h', (∀ b o, s.heap.get? b = some o → h'.get? b = some o) → h'.get? so = some (PySem.W.ks_superObj D x C) → Q (.ref so) { s with heap := h' }) :
    PySem.wpAt (model X.prog X.w) A (.func body X.env) (attributeBase (.Call (.Name "super" p0) [] [] p1) attr X.env whole) Q E s := by
  obtain ⟨f, fo, fd, a, f1, f2, f3, f4, rfl⟩ := T.fn
  obtain ⟨c, co, vs, file, tf, c1, c2, c3, c4, c5⟩ := T.code
  obtain ⟨cl, cld, csl, l1⟩ := T.clsc
  obtain ⟨cd, hcd⟩ := T.cls
  have kin := I.kIn
  obtain ⟨oD, d1, d2⟩ := cls_at kin hcd
  obtain ⟨m, hns, hl⟩ := id I.loc
  obtain ⟨u, ru, lk⟩ := hl 0 _ _ T.n0 h0 (.inl T.ka)
  obtain rfl : u = .ref x := ru
  have hm : m a.arg = some (.ref x) := by
    rcases lk with ⟨_, e⟩ | ⟨k, _⟩
    · exact e
    · rw [T.ka] at k; rcases k with k | k <;> cases k
  obtain ⟨mb, b1, b2⟩ := I.mod.blt
  obtain ⟨hh, g, d, t, os⟩ := s
  refine ks_wpAt_super_base (env := X.env) T.ks T.kc hat f1 (kin _ _ f2) f3 f4 c1 (kin _ _ c2) c3 c4 c5 T.top ?_
  refine PySem.W.ks_loadName_global I.ok.kind T.ks (PySem.Calls.loadGlobal_builtin (by rw [I.ok.glob]; exact I.mod.glob.keeps I.bk) T.mg (by rw [I.ok.blt]; exact b1.keeps I.bk) ((b2 "super" (by decide)).trans (by rfl)) ⟨rfl, ?_⟩)
  refine wpAny_loadName_free I.ok.kind T.kc T.cell ⟨_, kin _ _ l1, rfl⟩ ?_
  refine wpAny_loadName_local I.ok.kind T.ka hns hm ?_
  refine ks_wpAny_isType_cls d1 d2 ⟨rfl, ?_⟩
  exact ks_wpAny_call_super d1 d2 hx hxc hnc (PySem.W.looks_mroIn kin hsub) fun h' e k => next _ h' k e
theorem Inv.pins' {pins : List (Addr × Obj)} (I : Inv X [] σ H s) (h : ∀ p ∈ pins, s.heap.get? p.1 = some p.2 ∧ H p.1 = none ∧ p.1 ≠ X.env.locals ∧ p.1 ∉ X.fs ∧ ∀ v, p.2.data ≠ .cell v) : Inv X pins σ H s :=
  ⟨I.ok, I.os, I.bare, I.base, I.loc, I.cell, I.free, I.freeC, fun p hp => (List.mem_append.mp hp).elim (fun z => I.pin p (by rw [List.append_nil]; exact z)) (h p), I.hok, I.len⟩
theorem Inv.unpin' {pins : List (Addr × Obj)} (I : Inv X pins σ H s) : Inv X [] σ H s :=
  ⟨I.ok, I.os, I.bare, I.base, I.loc, I.cell, I.free, I.freeC, fun p hp => I.pin p (List.mem_append_left _ (by rwa [List.append_nil] at hp)), I.hok, I.len⟩
/-- the class at C of an instance, D the class of the method that runs, f2 the def that super().__init__ is -/
structure SupC (K : PySem.W.Frag) (C D f2 : Addr) : Prop where
  mro : PySem.W.mroIn K C (.ref D) = some true
  sup : PySem.W.ks_superIn K C D "__init__" = some (some (.ref f2))
  ty : PySem.W.typeIn K (.ref f2) = some (.type "function")
  op : PySem.W.nsIn K cStatics "thirdparty.any" = some none
  fn : PySem.W.fnIn K f2 = true
/-- super().__init__(..), then the rest -/
def tSup (K : PySem.W.Frag) (D f2 : Addr) (sp : Sp) (W : WX) (t : TA) (u : TS) : TS := fun E σ H => ∃ x C dx fs, σ[0]? = some (some (.ref x)) ∧ H x = some (.ins C dx fs) ∧ SupC K C D f2 ∧
  t σ H fun vs H1 => sp (.ref x :: vs) H1 (fun _ H2 => u E σ H2) fun cls d H2 => W cls d σ H2
theorem pat_sup {k : Nat} {f2 : Addr} {sp : Sp} {W : WX} {e : Expr} {es : List Expr} {rest : List Stmt} {p0 p1 p2 p3 p4 : Pos} {t : TA} {u : TS} (T : SupX X cc D ar) (F : CallG X.prog X.w X.K X.mg X.base k f2 sp) (hgd : X.A.guards = some []) (hr : Room k X.A) (tk : Takes X W)
    (ha : PA X (e :: es) t) (hu : PSs X rest u)
    (he : starEach (e :: es) X.env = (false, eval e X.env) :: starEach es X.env) (hpl : (backTo p3 (starEach es X.env)).any (·.1) = false) (hi : interactive X.env = false)
    (hf : methodCallForm ((e :: es).length + ([] : List Keyword).length) (backTo p3 (starEach (e :: es) X.env)) (backToKw p3 (keywordEach [] X.env)) = true) (hl : (p2.endLine == p3.line) = true) :
    PAt X (.Expr (.Call (.Attribute (.Call (.Name "super" p0) [] [] p1) "__init__" p2) (e :: es) [] p3) p4 :: rest) (tSup X.K D f2 sp W t u) := by
  rintro s σ H Z I ⟨x, C, dx, fs, h0, hx, SC, ht⟩
  obtain ⟨hown, _, hne, hobj, _⟩ : ObjOk X.prog X.w H s.heap x (.ins C dx fs) := I.hok x _ hx
  refine ks_wpAt_execs_cons ?_
  refine ks_wpAt_Expr_any ?_ hi (by rfl)
  refine ks_wpAt_MethodCall ?_ (call_form hf hl)
  refine sup_front T I h0 hobj rfl (fun c z => by cases z) SC.mro (by decide) fun so h' keep hso => ?_
  have I1 : Inv X [] σ H { s with heap := h' } := I.kept (t' := s.toks) keep
  have kin := I1.kIn
  cases hc : PySem.W.clsIn X.K C with
  | none => have := SC.sup; unfold PySem.W.ks_superIn at this; rw [hc] at this; cases this
  | some cd =>
    have hm := SC.sup
    unfold PySem.W.ks_superIn at hm
    rw [hc] at hm
    obtain ⟨fo, g1, g2⟩ : ∃ fo, h'.get? f2 = some fo ∧ fo.cls = .type "function" := by
      have ht' : (X.K.lookup f2).map (·.cls) = some (.type "function") := SC.ty
      obtain ⟨fo, z1, z2⟩ := Option.map_eq_some_iff.mp ht'
      exact ⟨fo, kin _ _ z1, z2⟩
    have nxC : x ≠ C := fun z => by
      obtain ⟨o, z1, z2⟩ := cls_at kin hc
      have z3 := keep _ _ hobj
      rw [← z] at z1
      cases z1.symm.trans z3
      cases z2
    obtain ⟨hh, gg, d, tt, os⟩ := s
    refine ks_wpAny_getMethod_super hso (PySem.W.looks_opaque kin SC.op) (l₀ := cd.mro) (fun A Q E s k q => wpAny_bind ((PySem.W.looks_clsIn kin hc) A _ E s k (wpAny_pure q))) rfl kin hm g1 g2 nxC (by decide) ?_
    have keep2 : ∀ b o, h'.get? b = some o → (h'.push (PySem.W.methodObj (.ref f2) (.ref x))).get? b = some o := fun b o q => Heap.get?_push_of_some _ q
    have hq : (h'.push (PySem.W.methodObj (.ref f2) (.ref x))).get? h'.objs.size = some (PySem.W.methodObj (.ref f2) (.ref x)) := Heap.get?_push_size _ rfl
    have I2 : Inv X [] σ H ⟨h'.push (PySem.W.methodObj (.ref f2) (.ref x)), gg, d, tt + 1, os⟩ := I1.kept (t' := tt + 1) keep2
    have fr : ∀ {b o}, X.base.get? b = some o → b ≠ h'.objs.size := fun {b o} q z => by
      have := (I1.bs b o q).1
      rw [z] at this
      exact absurd (Heap.lt_size this) (Nat.lt_irrefl _)
    have nl : h'.objs.size ≠ X.env.locals := fun z => absurd I1.lt (by show ¬ X.env.locals < h'.objs.size; rw [z]; exact Nat.lt_irrefl _)
    have I3 : Inv X [(h'.objs.size, PySem.W.methodObj (.ref f2) (.ref x))] σ H ⟨h'.push (PySem.W.methodObj (.ref f2) (.ref x)), gg, d, tt + 1, os⟩ := Eng.Inv.pins' I2 fun p hp => by
      rw [List.mem_singleton] at hp
      subst hp
      exact ⟨hq, I1.hok.fresh (Nat.le_refl _), nl, I1.nofs (Nat.le_refl _), fun v z => by cases z⟩
    refine PySem.W.callWith_M (h₀ := X.base) (L := X.env.locals) (news := [(h'.objs.size, PySem.W.methodObj (.ref f2) (.ref x))]) (g := f2) (self := .ref x) I2.mod.kin (fun p hp => ?_) (List.mem_singleton.mpr rfl) SC.fn ?_ he hpl
    · rw [List.mem_singleton] at hp
      subst hp
      refine ⟨hq, nl, ?_⟩
      cases z : X.base.get? h'.objs.size with
      | none => rfl
      | some o => exact absurd rfl (fr z)
    refine thn (ha.run p3 _ _ σ H _ I3 ht) fun us s4 ⟨vs, H4, I4, r4, want⟩ => ?_
    have hq4 := (I4.pin _ (List.mem_append_right _ (List.mem_singleton.mpr rfl))).1
    refine ⟨⟨hq4, I4.kIn⟩, ?_⟩
    refine wpAny_call (ks_codeAny_call_bound hq4 (codeAny_mono (F.run X.A X.stack s4 H4 (.ref x :: us) (.ref x :: vs) _ _ hgd hr I4.env0 (.cons rfl r4) want) fun r s5 hr5 => ?_))
    cases r with
    | error er => exact (passAt tk σ) _ _ _ _ _ I4 hr5
    | ok fl =>
      cases fl with
      | ret v =>
        obtain ⟨v', H5, I5, _, q5⟩ := I4.after hr5
        exact wpAt_of_wpAny (hu.run [] s5 σ H5 Z (Eng.Inv.unpin' I5) q5)
      | next => exact False.elim hr5
      | brk => exact False.elim hr5
      | cont => exact False.elim hr5
end
end Eng

namespace Eng
open PySem PySem.Spec L2
open PyProof.Rows hiding St

/-! ### exceptions of the program's own: super().__init__(f".."); self.f = f; .. -/
def xpC (sc : Scope) (N : List Str) : XP → Expr → Bool
  | .lit s, .Constant (.str t) _ _ => decide (s = t)
  | .par i, .FormattedValue (.Name x _) n none _ => decide (n = -1) && decide (N[i + 1]? = some x) && decide (sc.names.lookup x = some .local) && !(x == ("__debug__" : Str)) && !(x == ("__classdict__" : Str))
  | _, _ => false
def xpsC (sc : Scope) (N : List Str) : List XP → List Expr → Bool
  | [], [] => true
  | p :: ps, e :: es => xpC sc N p e && xpsC sc N ps es
  | _, _ => false
def xArgC (sc : Scope) (N : List Str) (ps : List XP) : Expr → Bool
  | .JoinedStr es _ => decide (2 ≤ es.length) && decide (es.length ≤ 20) && xpsC sc N ps es
  | e => xpsC sc N ps [e]
def xStC (sc : Scope) (N : List Str) : List Str → List Stmt → Bool
  | [], [] => true
  | f :: fs, .Assign [.Attribute (.Name x _) g _] (.Name y _) _ :: r => decide (g = f) && decide (y = f) && decide (N[0]? = some x) && decide (sc.names.lookup x = some .local) && decide (sc.names.lookup y = some .local) && !(x == ("__debug__" : Str)) && !(x == ("__classdict__" : Str)) && !(y == ("__debug__" : Str)) && !(y == ("__classdict__" : Str)) && xStC sc N fs r
  | _, _ => false
def xBodyC (sc : Scope) (self : Str) (x : XSig) : List Stmt → Bool
  | .Expr (.Call (.Attribute (.Call (.Name s _) [] [] _) m p2) [E] [] p3) _ :: r => decide (s = "super") && decide (m = "__init__") && xArgC sc (self :: x.fs) x.ps E && (p2.endLine == p3.line) && xStC sc (self :: x.fs) x.fs r && !x.fs.isEmpty && decide (x.fs.length ≤ 900) &&
      (match E with
      | .Starred _ _ => false
      | _ => true)
  | _ => false

section
variable {G : Gs} {Av : Addr → Prop} {X : Cx} {H : Hp} {σ : L2.St} {sc : Scope} {N : List Str}
def XVals (G : Gs) (Av : Addr → Prop) (H : Hp) (σ : L2.St) (ds : List D) : Prop := ∀ i d, ds[i]? = some d → ∃ v, σ[i + 1]? = some (some v) ∧ Rep G Av H d v
theorem len_add {a b : Str} : (a ++ b).length = a.length + b.length := by
  show (a.cps ++ b.cps).size = _
  rw [Array.size_append]; rfl
/-- a part's text is short -/
theorem xp_ok {ds : List D} {p : XP} {e : Expr} (hN : X.N = N) (hs : X.env.scope = sc) (h : xpC sc N p e = true) : ∃ t : TE, PE X e t ∧ ∀ {Av H σ Q}, XVals G Av H σ ds → xpOk ds p = true → (∀ y : Str, y.length ≤ 200000 → Q (.str y) H) → t σ H Q := by
  unfold xpC at h
  split at h
  · rename_i s t k pos
    refine ⟨_, pe_str, fun {Av H σ Q} _ ok q => q _ ?_⟩
    have h := of_decide_eq_true h
    have ok := of_decide_eq_true (show decide (s.length ≤ 100000) = true from ok)
    rw [← h]; omega
  · rename_i i x xp n pos
    simp only [Bool.and_eq_true, decide_eq_true_eq, Bool.not_eq_true'] at h
    obtain ⟨⟨⟨⟨rfl, h1⟩, h2⟩, h3⟩, h4⟩ := h
    refine ⟨_, pe_fmt (pe_var (i := i + 1) (hN ▸ h1) (.inl (hs ▸ h2)) h3 h4), fun {Av H σ Q} xv ok q => ?_⟩
    have ok : (match ds[i]? with
      | some (.str y) => decide (y.length ≤ 100000)
      | some (.int n) => decide (n.natAbs.log2 < 1920)
      | _ => false) = true := ok
    split at ok
    · rename_i y e
      obtain ⟨v, h5, h6⟩ := xv i _ e
      have ok := of_decide_eq_true ok
      exact ⟨v, h5, .inl ⟨y, h6, by rw [sizeLine_eq]; omega, q y (by omega)⟩⟩
    · rename_i m e
      obtain ⟨v, h5, h6⟩ := xv i _ e
      have ok := of_decide_eq_true ok
      refine ⟨v, h5, .inr ⟨m, h6, ok, q _ ?_⟩⟩
      have := int_text_length_le (k := 1920) (by decide) ok
      rw [PySem.ofString_length]; omega
    · cases ok
  · cases h
theorem xps_ok {ds : List D} (hN : X.N = N) (hs : X.env.scope = sc) : ∀ {ps : List XP} {es : List Expr}, xpsC sc N ps es = true → ∃ ts : List TE, PJ X es ts ∧ ∀ {Av H σ Q} (acc : Str), XVals G Av H σ ds → ps.all (xpOk ds) = true → acc.length + 200000 * es.length ≤ 10000000 → (∀ y : Str, Q y H) → tJs ts acc σ H Q
  | [], [], _ => ⟨[], .nil, fun acc _ _ _ q => q acc⟩
  | p :: ps, e :: es, h => by
    have h : (xpC sc N p e && xpsC sc N ps es) = true := h
    rw [Bool.and_eq_true] at h
    obtain ⟨t, h1, h2⟩ := xp_ok (G := G) (ds := ds) hN hs h.1
    obtain ⟨ts, h3, h4⟩ := xps_ok (ds := ds) hN hs h.2
    refine ⟨t :: ts, .cons h1 h3, fun {Av H σ Q} acc xv ok hl q => ?_⟩
    rw [List.all_cons, Bool.and_eq_true] at ok
    have hl : acc.length + 200000 * (es.length + 1) ≤ 10000000 := hl
    refine h2 xv ok.1 fun y hy => ⟨y, rfl, by rw [len_add, sizeLine_eq]; omega, h4 (acc ++ y) xv ok.2 (by rw [len_add]; omega) q⟩
  | [], _ :: _, h => by cases h
  | _ :: _, [], h => by cases h
/-- the text that is handed up -/
theorem xarg_ok {ds : List D} {ps : List XP} {E : Expr} (hN : X.N = N) (hs : X.env.scope = sc) (h : xArgC sc N ps E = true) : ∃ t : TE, PE X E t ∧ ∀ {Av H σ Q}, XVals G Av H σ ds → ps.all (xpOk ds) = true → (∀ y : Str, Q (.str y) H) → t σ H Q := by
  unfold xArgC at h
  split at h
  · rename_i es pos
    simp only [Bool.and_eq_true, decide_eq_true_eq] at h
    obtain ⟨⟨h1, h2⟩, h3⟩ := h
    obtain ⟨ts, k1, k2⟩ := xps_ok (G := G) (ds := ds) hN hs h3
    cases es with
    | nil => simp at h1
    | cons e1 es =>
      cases es with
      | nil => simp at h1
      | cons e2 es => exact ⟨_, pe_joined k1, fun {Av H σ Q} xv ok q => k2 _ xv ok (by show 0 + _ ≤ _; omega) q⟩
  · cases ps with
    | nil => cases h
    | cons p ps =>
      have h : (xpC sc N p E && xpsC sc N ps []) = true := h
      rw [Bool.and_eq_true] at h
      cases ps with
      | cons _ _ => cases h.2
      | nil =>
        obtain ⟨t, h1, h2⟩ := xp_ok (G := G) (ds := ds) hN hs h.1
        refine ⟨t, h1, fun {Av H σ Q} xv ok q => h2 xv ?_ fun y _ => q y⟩
        rw [List.all_cons, Bool.and_eq_true] at ok
        exact ok.1

/-- the stores: the exception has its fields then -/
structure XSt (H0 H : Hp) (a C d : Addr) (fs : List (Str × V)) : Prop where
  at_ : H a = some (exo a C (some d))
  dx : H d = some (exd d fs)
  new : H0 d = none
  ne : d ≠ a
  rest : ∀ b, b ≠ a → b ≠ d → H b = H0 b
def fldV : List Str → List V → List (Str × V) → List (Str × V)
  | f :: fs, v :: vs, acc => fldV fs vs ((f, v) :: acc)
  | _, _, acc => acc
theorem xst_more (hN : X.N = N) (hs : X.env.scope = sc) {a C : Addr} (T : OexC X.K C) : ∀ {fs : List Str} {r : List Stmt} (j : Nat), xStC sc N fs r = true → N.drop j = fs → (∀ f ∈ fs, PySem.W.findIn X.K (.ref C) f = some none) →
    ∃ u : TS, PSs X r u ∧ ∀ {Z : Ends} {σ : L2.St} {H0 H : Hp} {d : Addr} {acc : List (Str × V)} {ws : List V}, XSt H0 H a C d acc → σ[0]? = some (some (.ref a)) → acc.length + fs.length ≤ 900 → σ.drop j = ws.map some → ws.length = fs.length →
      (∀ H', XSt H0 H' a C d (fldV fs ws acc) → Z.nx σ H') → u Z σ H
  | [], [], j, _, _, _ => ⟨_, pss_nil, fun {Z σ H0 H d acc ws} x _ _ _ _ q => q H (by cases ws <;> exact x)⟩
  | [], _ :: _, _, h, _, _ => by cases h
  | f :: fs, [], _, h, _, _ => by cases h
  | f :: fs, st :: r, j, h, hd, hf => by
    unfold xStC at h
    split at h
    · rename_i h1 h2; cases h1
    · rename_i f' fs' x p1 g p2 y p3 pos r' e1 e2
      cases e1; cases e2
      simp only [Bool.and_eq_true, decide_eq_true_eq, Bool.not_eq_true'] at h
      obtain ⟨⟨⟨⟨⟨⟨⟨⟨⟨rfl, rfl⟩, n0⟩, l0⟩, l1⟩, k1⟩, k2⟩, k3⟩, k4⟩, h⟩ := h
      have nj : N[j]? = some y := by
        have : (N.drop j)[0]? = some y := by rw [hd]; rfl
        rwa [List.getElem?_drop, Nat.add_zero] at this
      obtain ⟨u, u1, u2⟩ := xst_more hN hs T (fs := fs) (j + 1) h (by rw [← List.drop_drop, hd]; rfl) (fun f hf' => hf f (List.mem_cons_of_mem _ hf'))
      refine ⟨_, pss_cons (ps_ost (pe_var (i := 0) (hN ▸ n0) (.inl (hs ▸ l0)) k1 k2) (pe_var (i := j) (hN ▸ nj) (.inl (hs ▸ l1)) k3 k4) (by rfl)) u1, fun {Z σ H0 H d acc ws} x h0 hl hσ hw q => ?_⟩
      cases ws with
      | nil => simp at hw
      | cons w ws =>
        have sj : σ[j]? = some (some w) := by
          have : (σ.drop j)[0]? = some (some w) := by rw [hσ]; rfl
          rwa [List.getElem?_drop, Nat.add_zero] at this
        have hl : acc.length + (fs.length + 1) ≤ 900 := hl
        refine ⟨w, sj, .ref a, h0, a, C, rfl, T, hf _ (by simp), .inr ⟨d, acc, x.at_, x.dx, by omega, ?_⟩⟩
        refine u2 (Z := Z) (H0 := H0) (d := d) (acc := (y, w) :: acc) (ws := ws) ⟨by rw [upd_ne (Ne.symm x.ne)]; exact x.at_, upd_same, x.new, x.ne, fun b h1 h2 => by rw [upd_ne h2]; exact x.rest b h1 h2⟩ h0 (by simp; omega) (by rw [← List.drop_drop, hσ]; rfl) (by simpa using hw) q
    · cases h
/-- all of them -/
theorem xst_all (hN : X.N = N) (hs : X.env.scope = sc) {a C : Addr} (T : OexC X.K C) {f : Str} {fs : List Str} {r : List Stmt} (h : xStC sc N (f :: fs) r = true) (hd : N.drop 1 = f :: fs) (hf : ∀ g ∈ f :: fs, PySem.W.findIn X.K (.ref C) g = some none) :
    ∃ u : TS, PSs X r u ∧ ∀ {Z : Ends} {σ : L2.St} {H : Hp} {w : V} {ws : List V}, H a = some (exo a C none) → σ[0]? = some (some (.ref a)) → fs.length ≤ 899 → σ.drop 1 = (w :: ws).map some → ws.length = fs.length →
      (∀ H' d, XSt H H' a C d (fldV (f :: fs) (w :: ws) []) → Z.nx σ H') → u Z σ H := by
  cases r with
  | nil => cases h
  | cons st r =>
    unfold xStC at h
    split at h
    · rename_i h1 h2; cases h1
    · rename_i f' fs' x p1 g p2 y p3 pos r' e1 e2
      cases e1; cases e2
      simp only [Bool.and_eq_true, decide_eq_true_eq, Bool.not_eq_true'] at h
      obtain ⟨⟨⟨⟨⟨⟨⟨⟨⟨rfl, rfl⟩, n0⟩, l0⟩, l1⟩, k1⟩, k2⟩, k3⟩, k4⟩, h⟩ := h
      have nj : N[1]? = some y := by
        have : (N.drop 1)[0]? = some y := by rw [hd]; rfl
        rwa [List.getElem?_drop] at this
      obtain ⟨u, u1, u2⟩ := xst_more hN hs T (fs := fs) 2 h (by rw [show (2 : Nat) = 1 + 1 from rfl, ← List.drop_drop, hd]; rfl) (fun f hf' => hf f (List.mem_cons_of_mem _ hf'))
      refine ⟨_, pss_cons (ps_ost (pe_var (i := 0) (hN ▸ n0) (.inl (hs ▸ l0)) k1 k2) (pe_var (i := 1) (hN ▸ nj) (.inl (hs ▸ l1)) k3 k4) (by rfl)) u1, fun {Z σ H w ws} x h0 hl hσ hw q => ?_⟩
      have sj : σ[1]? = some (some w) := by
        have : (σ.drop 1)[0]? = some (some w) := by rw [hσ]; rfl
        rwa [List.getElem?_drop] at this
      refine ⟨w, sj, .ref a, h0, a, C, rfl, T, hf _ (by simp), .inl ⟨x, fun d nd ne => ?_⟩⟩
      refine u2 (Z := Z) (H0 := H) (d := d) (acc := [(y, w)]) (ws := ws) ⟨upd_same, by rw [upd_ne ne, upd_same], nd, ne, fun b h1 h2 => by rw [upd_ne h1, upd_ne h2]⟩ h0 (by simp; omega) (by rw [show (2 : Nat) = 1 + 1 from rfl, ← List.drop_drop, hσ]; rfl) hw fun H' x' => q H' d x'
    · cases h
end
end Eng

namespace Eng
open PySem PySem.Spec L2
open PyProof.Rows hiding St

/-- the class at C of an exception that is being made, D the class of the method that runs -/
structure SupE (K : PySem.W.Frag) (C D : Addr) : Prop where
  mro : PySem.W.mroIn K C (.ref D) = some true
  sup : PySem.W.ks_superIn K C D "__init__" = some (some (.builtin "ValueError.__init__"))
  op : PySem.W.nsIn K cStatics "thirdparty.any" = some none
  sub : PySem.W.subIn K (.ref C) (.type "ValueError") = some true
  oex : OexC K C
section
variable {X : Cx} {cc D C x : Addr} {ar : Str} {σ : L2.St} {H : Hp} {s : Shared}
/-- the bound ValueError.__init__ is called -/
theorem call_mw {A : Around} {u : Addr} {v : Value} {Q : Value → Shared → Prop} {E : Value → Shared → Prop} (T : OexC X.K C) (I : Inv X [] σ H s) (e : H x = some (exo x C none)) (hu : s.heap.get? u = some (PySem.W.kxs_mw "ValueError.__init__" x)) (h : ∀ s', Inv X [] σ H s' → Q .none s') :
    wpAny (model X.prog X.w) A (call (.ref u) [v]) Q E s := by
  obtain ⟨nm, q, N, bs, bm, sn, sub, ab, col, dd, k0, k1, k2, k3, k5, hC, hbm⟩ := T.cls
  obtain ⟨t1, ho⟩ := exo_at I.hok e
  have hC' := I.kIn _ _ hC
  obtain ⟨hp, g, d, t, os⟩ := s
  refine wpAny_call (codeAny_of_tree ?_)
  show wpAny _ A.in1 (callAny (.ref u) ⟨[v], []⟩) _ _ _
  unfold callAny
  refine wpAny_bind (wpAny_load hu ?_)
  simp only [PySem.W.kxs_mw, show (Value.type "method-wrapper" == Value.type "method" || Value.type "method-wrapper" == Value.type "builtin_function_or_method" || Value.type "method-wrapper" == Value.type "method-wrapper") = true by decide, if_true]
  refine PySem.W.KFB.if_so (by decide) ?_
  refine wpAny_bind (PySem.W.check_bound_init (F.excBase_ValueError).toExcCallFacts hC' ho rfl ?_)
  refine wpAny_bind (wpAny_pure (wpAny_pure ⟨plainId_quiet (F.excBase_ValueError).init.plain _, codeAny_builtin (F.excBase_ValueError).initEntry ?_⟩))
  refine PySem.W.exc_init_tree (cls := .ref C) (t0 := t1) (dv := none) (c2 := .none) (c3 := .none) (b4 := .bool false) ho (by simp [sizeLine_eq]) fun h' k hx _ => ?_
  have J := I.write (t' := t) (x := x) (e := x) (o := exo x C none) (by rw [e]; exact True.intro) (.inl rfl) k ⟨_, hx⟩ (exo_ok hx)
  have eu : upd H x (exo x C none) = H := by
    funext b
    by_cases hb : b = x
    · rw [hb, upd_same, e]
    · rw [upd_ne hb]
  rw [eu] at J
  exact h _ J
/-- super().__init__(arg) of an exception, then the rest -/
def tSupX (K : PySem.W.Frag) (D : Addr) (te : TE) (u : TS) : TS := fun Z σ H => ∃ x C, σ[0]? = some (some (.ref x)) ∧ H x = some (exo x C none) ∧ SupE K C D ∧ te σ H fun _ H1 => H1 x = some (exo x C none) ∧ u Z σ H1
theorem pat_supX {e : Expr} {rest : List Stmt} {p0 p1 p2 p3 p4 : Pos} {te : TE} {u : TS} (T : SupX X cc D ar) (ha : PE X e te) (hu : PSs X rest u) (he : starEach [e] X.env = [(false, eval e X.env)]) (hi : interactive X.env = false)
    (hf : methodCallForm ([e].length + ([] : List Keyword).length) (backTo p3 (starEach [e] X.env)) (backToKw p3 (keywordEach [] X.env)) = true) (hl : (p2.endLine == p3.line) = true) :
    PAt X (.Expr (.Call (.Attribute (.Call (.Name "super" p0) [] [] p1) "__init__" p2) [e] [] p3) p4 :: rest) (tSupX X.K D te u) := by
  rintro s σ H Z I ⟨x, C, h0, hx, SC, ht⟩
  obtain ⟨nm, q, NN, bs, bm, sn, sub, ab, col, dd, k0, k1, k2, k3, k5, hC, hbm⟩ := SC.oex.cls
  obtain ⟨t1, hobj⟩ := exo_at I.hok hx
  refine ks_wpAt_execs_cons ?_
  refine ks_wpAt_Expr_any ?_ hi (by rfl)
  refine ks_wpAt_MethodCall ?_ (call_form hf hl)
  refine sup_front T I h0 hobj rfl (fun c z => by cases z) SC.mro (by decide) fun so h' keep hso => ?_
  have I1 : Inv X [] σ H { s with heap := h' } := I.kept (t' := s.toks) keep
  have kin := I1.kIn
  cases hc : PySem.W.clsIn X.K C with
  | none => have := SC.sup; unfold PySem.W.ks_superIn at this; rw [hc] at this; cases this
  | some cd =>
    have hm := SC.sup
    unfold PySem.W.ks_superIn at hm
    rw [hc] at hm
    have nxC : x ≠ C := fun z => by
      obtain ⟨o, z1, z2⟩ := cls_at kin hc
      have z3 := keep _ _ hobj
      rw [← z] at z1
      cases z1.symm.trans z3
      cases z2
    have isI : PySem.W.Looks (model X.prog X.w) h' (isInstance (.ref x) (.type "ValueError")) true := (show PySem.W.InstAt h' x _ C none from ⟨keep _ _ hobj, rfl, rfl, trivial⟩).type.andThen (PySem.W.looks_subIn kin SC.sub)
    obtain ⟨hh, gg, d, tt, os⟩ := s
    refine PySem.W.kxs_getMethod PySem.W.kxs_ValueError hso (PySem.W.looks_opaque kin SC.op) (l₀ := cd.mro) (fun A Q E s k q => wpAny_bind ((PySem.W.looks_clsIn kin hc) A _ E s k (wpAny_pure q))) rfl kin hm isI nxC (by decide) ?_
    have keep2 : ∀ b o, h'.get? b = some o → (h'.push (PySem.W.kxs_mw "ValueError.__init__" x)).get? b = some o := fun b o q => Heap.get?_push_of_some _ q
    have hq : (h'.push (PySem.W.kxs_mw "ValueError.__init__" x)).get? h'.objs.size = some (PySem.W.kxs_mw "ValueError.__init__" x) := Heap.get?_push_size _ rfl
    have I2 : Inv X [] σ H ⟨h'.push (PySem.W.kxs_mw "ValueError.__init__" x), gg, d, tt + 1, os⟩ := I1.kept (t' := tt + 1) keep2
    have nl : h'.objs.size ≠ X.env.locals := fun z => absurd I1.lt (by show ¬ X.env.locals < h'.objs.size; rw [z]; exact Nat.lt_irrefl _)
    have I3 : Inv X [(h'.objs.size, PySem.W.kxs_mw "ValueError.__init__" x)] σ H ⟨h'.push (PySem.W.kxs_mw "ValueError.__init__" x), gg, d, tt + 1, os⟩ := Eng.Inv.pins' I2 fun p hp => by
      rw [List.mem_singleton] at hp
      subst hp
      exact ⟨hq, I1.hok.fresh (Nat.le_refl _), nl, I1.nofs (Nat.le_refl _), fun v z => by cases z⟩
    refine PySem.W.kxs_callWith (i := "ValueError.__init__") (x := x) (by rw [he]; rfl) ?_
    rw [he]
    refine PySem.Calls.evalArgs_plain (Calls.spliced_cons (thn (ha.run _ _ σ H _ I3 ht) fun v s4 ⟨y, H4, I4, r4, hx4, want⟩ => Calls.spliced_nil ?_))
    have hq4 := (I4.pin _ (List.mem_append_right _ (List.mem_singleton.mpr rfl))).1
    refine ⟨hq4, ?_⟩
    exact call_mw SC.oex (Eng.Inv.unpin' I4) hx4 hq4 fun s5 I5 => wpAt_of_wpAny (hu.run [] s5 σ H4 Z I5 want)
end

/-- what the __init__ of an exception promises -/
def spX (G : Gs) (K : PySem.W.Frag) (D : Addr) (x : XSig) : Sp := fun vs H Q _ => ∃ Av ds a C ws, vs = .ref a :: ws ∧ ws.length = x.fs.length ∧ Reps G Av H ds ws ∧ x.ps.all (xpOk ds) = true ∧ SupE K C D ∧ (∀ f ∈ x.fs, PySem.W.findIn K (.ref C) f = some none) ∧ H a = some (exo a C none) ∧
  ∀ H' d, XSt H H' a C d (fldV x.fs ws []) → Q .non H'
/-- what is known of such a def -/
structure DefX (P : Program) (K : PySem.W.Frag) (f cc D : Addr) (fd : FuncData) (x : XSig) (sf : Str) : Prop where
  ex : ∃ name qual params body scope dV kV doc pm an cda ct oc od osl cl cld csl co vs file tf ar cd,
    fd = PySem.W.ksFn name qual params body scope dV kV doc pm an (.ref cda) ct cc ∧ K.lookup f = some ⟨oc, od, .func fd, osl⟩ ∧ PySem.W.codeIn K (.ref cda) qual = true ∧ K.lookup cc = some ⟨cl, cld, .cell (some (.ref D)), csl⟩ ∧
    K.lookup cda = some co ∧ co.data = .fields vs ∧ vs[2]? = some (.str file tf) ∧ ((P.main.file : Str) == file) = true ∧ (P.main.scope.names.lookup ("super" : Str)).isSome = false ∧ PySem.W.clsIn K D = some cd ∧
    scS (sf :: x.fs) (sf :: x.fs) scope = true ∧ scope.names.lookup ("super" : Str) = some .globalImplicit ∧ (params.posonlyargs ++ params.args).head? = some ar ∧ ar.arg = sf ∧ xBodyC scope sf x body = true
theorem xinit_ok {CX : CXT} {P : Program} {w : World} {G : Gs} {K : PySem.W.Frag} {mg : Str → Option Value} {base : Heap} {f cc D : Addr} {fd : FuncData} {x : XSig} {self : Str} (Dx : DefX P K f cc D fd x self) (hmg : mg "super" = none) : FnOk P w K mg base CX 1 f fd (self :: x.fs) (spX G K D x) := by
  obtain ⟨name, qual, params, body, scope, dV, kV, doc, pm, an, cda, ct, oc, od, osl, cl, cld, csl, co, vs, file, tf, ar, cd, rfl, lk, hcd, hcell, c1, c2, c3, c4, top, hD, hsc, hks, hpar, rfl, hb⟩ := Dx.ex
  have S := scopeS_by hsc
  refine fnOk_ofS lk hcd hcell S (fun vs H Q E h => ?_) fun A outer s H vs' Q E room want => ?_
  · obtain ⟨Av, ds, a, C, ws, rfl, hl, _⟩ := h
    simp [hl]
  obtain ⟨Av, ds, a, C, ws, rfl, hl, hr, hp, SE, hf, ha, k⟩ := want
  unfold xBodyC at hb
  split at hb
  · rename_i sn ps0 ps1 m p2 E' p3 p5 rest
    simp only [Bool.and_eq_true, decide_eq_true_eq, Bool.not_eq_true'] at hb
    obtain ⟨⟨⟨⟨⟨⟨⟨rfl, rfl⟩, h1⟩, h2⟩, h3⟩, h4⟩, h5⟩, h6⟩ := hb
    obtain ⟨fs, ps⟩ := x
    cases fs with
    | nil => cases h4
    | cons g gs =>
      cases ws with
      | nil => cases hl
      | cons w0 ws =>
        have hl : ws.length = gs.length := by simpa using hl
        have hst : L2.start (ar.arg :: g :: gs) (.ref a :: w0 :: ws) = (V.ref a :: w0 :: ws).map some := by
          unfold L2.start
          rw [show (ar.arg :: g :: gs).length - (V.ref a :: w0 :: ws).length = 0 by simp [hl]]
          simp
        obtain ⟨te, t1, t2⟩ := xarg_ok (G := G) (X := cxS CX P w K mg base (ar.arg :: g :: gs) qual scope f (.ref cda) cc A outer s H E) (ds := ds) rfl rfl h1
        obtain ⟨u, u1, u2⟩ := xst_all (X := cxS CX P w K mg base (ar.arg :: g :: gs) qual scope f (.ref cda) cc A outer s H E) (N := ar.arg :: g :: gs) rfl rfl SE.oex h3 rfl hf
        have he : starEach [E'] (envS qual scope s.heap.objs.size f (.ref cda) cc) = [(false, eval E' (envS qual scope s.heap.objs.size f (.ref cda) cc))] := by
          cases E' <;> first | rfl | cases h6
        refine ⟨_, pat_supX (cc := cc) (D := D) (ar := ar.arg) ⟨hks, S.has, S.par _ (by simp), ⟨f, _, _, _, rfl, lk, rfl, hpar, rfl⟩, ⟨cda, co, vs, file, tf, rfl, c1, c2, c3, c4⟩, top, hmg, rfl, ⟨_, _, _, hcell⟩, ⟨cd, hD⟩, rfl⟩ t1 u1 he (by unfold interactive; simp [show (cxS CX P w K mg base (ar.arg :: g :: gs) qual scope f (.ref cda) cc A outer s H E).env.scope.kind = .function from S.kind]) ?_ h2, ?_⟩
        · show methodCallForm 1 (backTo p3 (starEach [E'] (envS qual scope s.heap.objs.size f (.ref cda) cc))) (backToKw p3 (keywordEach [] (envS qual scope s.heap.objs.size f (.ref cda) cc))) = true
          rw [he]; rfl
        · rw [hst]
          refine ⟨a, C, rfl, ha, SE, t2 (Av := Av) (H := H) (fun i d e => ?_) hp fun y => ⟨ha, ?_⟩⟩
          · obtain ⟨v, q1, q2⟩ := hr.get' e
            exact ⟨v, by rw [List.getElem?_map]; show ((w0 :: ws)[i]?).map some = _; rw [q1]; rfl, q2⟩
          · exact u2 (H := H) (w := w0) (ws := ws) ha rfl (by have h5 : gs.length + 1 ≤ 900 := h5; omega) rfl hl fun H' d x => k H' d x
  · cases hb
end Eng

namespace Eng
open PySem PySem.Spec L2
open PyProof.Rows hiding St

theorem fldV_eq : ∀ (fs : List Str) (vs : List V) (acc : List (Str × V)), fldV fs vs acc = (fs.zip vs).reverse ++ acc
  | [], _, acc => by simp [fldV]
  | _ :: _, [], acc => by simp [fldV]
  | f :: fs, v :: vs, acc => by rw [fldV, fldV_eq fs vs]; simp
theorem zip_rev {α β : Type} : ∀ {as : List α} {bs : List β}, bs.length = as.length → (as.zip bs).reverse = as.reverse.zip bs.reverse
  | [], [], _ => rfl
  | a :: as, b :: bs, h => by
    have h : bs.length = as.length := by simpa using h
    rw [List.zip_cons_cons, List.reverse_cons, List.reverse_cons, List.reverse_cons, zip_rev h, List.zip_append (by simp [h])]
    rfl
  | [], _ :: _, h => by cases h
  | _ :: _, [], h => by cases h
theorem fldV_rev {fs : List Str} {vs : List V} (h : vs.length = fs.length) : fldV fs vs [] = fs.reverse.zip vs.reverse := by
  rw [fldV_eq, List.append_nil]
  exact zip_rev h
/-- what is known of an exception class -/
structure ExcC (P : Program) (w : World) (K : PySem.W.Frag) (mg : Str → Option Value) (base : Heap) (G : Gs) (c : Nat) (nm : Str) (xs : XSig) : Prop where
  at_ : mg nm = some (.ref (G.c c))
  ex : ∃ fI cc D fd self, FnOk P w K mg base (L2.CX P w) 1 fI fd (self :: xs.fs) (spX G K D xs) ∧ PySem.W.findIn K (.ref (G.c c)) "__init__" = some (some (.ref fI)) ∧ PySem.W.typeIn K (.ref fI) = some (.type "function") ∧ Binds K fd (self :: xs.fs) [] ∧ SupE K (G.c c) D ∧ (cc : Addr) = cc
  nf : ∀ f ∈ xs.fs, PySem.W.findIn K (.ref (G.c c)) f = some none
  few : xs.fs.length ≤ 900
section
variable {X : Cx} {G : Gs} {W : WX} {c k : Nat} {nm : Str} {xs : XSig} {g : SS → R (List Eng.D)} {e : Expr} {es : List Expr} {p pos pos2 : Pos}
theorem passX : Passes (L2.CX X.prog X.w) X (fun _ _ _ => False) := fun pins σ H s e s' _ h => by
  obtain ⟨_, _, _, _, _, _, _, _, _, _, _, _, z⟩ := h
  exact z.elim
theorem tri_raise {σ : L2.St} {H : Hp} {Z : Ends} {D : Addr} (SE : SupE X.K (G.c c) D) (nf : ∀ f ∈ xs.fs, PySem.W.findIn X.K (.ref (G.c c)) f = some none) (few : xs.fs.length ≤ 900)
    (h : tS G W (fun S => (g S).toF fun ds S1 => match xMake c xs ds with | some e => .exc e S1 | none => .bad) Z σ H) : tMkO (G.c c) (spX G X.K D xs) [] (tL G W (ErD G) g) σ H fun cls d H' => W cls d σ H' := by
  obtain ⟨Av, S, st, h⟩ := h
  refine ⟨Av, S, st, ?_⟩
  have h : RdS G W ((g S).toF fun ds S1 => match xMake c xs ds with | some e => F.exc e S1 | none => .bad) Av S σ H Z := h
  cases eg : g S with
  | bad => rw [eg] at h; exact h
  | exc x S1 =>
    rw [eg] at h
    exact fun cls d H' z => h cls d σ H' (by
      obtain ⟨Av', P, r⟩ := z.ex
      exact ⟨Av', P.s, r⟩)
  | ok ds S1 =>
    rw [eg] at h
    have h : RdS G W (match xMake c xs ds with | some e => F.exc e S1 | none => .bad) Av S σ H Z := h
    intro Av1 vs H1 P1 r1
    have r1 := r1.reps
    split at h
    · rename_i ex hex
      unfold xMake at hex
      split at hex
      · rename_i hz
        obtain ⟨h1, h2⟩ := hz
        cases hex
        have hl : vs.length = xs.fs.length := by rw [r1.length, h1]
        refine ⟨by omega, fun a na => ?_⟩
        rw [List.append_nil]
        refine ⟨Av1, ds, a, G.c c, vs, rfl, hl, ?_, h2, SE, nf, upd_same, fun H' d x => ⟨rfl, d, _, x.at_, x.dx, ?_, ?_⟩⟩
        · exact Reps.mono (fun b o q _ _ => ext_upd na b o q) (fun b q => .inl q) ds r1
        · have := x.new
          rwa [upd_ne x.ne] at this
        · have nd : H1 d = none := by
            have := x.new
            rwa [upd_ne x.ne] at this
          have eH : upd (L2.del H' a) d (.xd (fldV xs.fs vs [])) = upd H1 d (.xd (fldV xs.fs vs [])) := by
            funext b
            by_cases hb : b = d
            · rw [hb, upd_same, upd_same]
            · rw [upd_ne hb, upd_ne hb]
              by_cases ha : b = a
              · rw [ha, del_same, na]
              · rw [del_ne ha, x.rest b ha hb, upd_ne ha]
          rw [eH]
          have Pe : Post G Av1 S1 σ H1 Av1 S1 (upd H1 d (.xd (fldV xs.fs vs []))) := Post.ext P1.st (ext_upd nd) (fun b q => .inl q) (fun b q => let ⟨o, w, m⟩ := P1.st.dom b q; ⟨o, ext_upd nd b o w, m⟩) fun b q => q
          refine h _ _ _ _ ⟨Av1, (P1.trans Pe).s, c, xs.fs.reverse, ds.reverse, rfl, rfl, d, vs.reverse, rfl, fun z => ?_, ?_, by simp [hl], ?_⟩
          · obtain ⟨o, w, _⟩ := P1.st.dom d z
            rw [nd] at w; cases w
          · rw [upd_same, fldV_rev hl]
          · exact Reps.mono (fun b o q _ _ => ext_upd nd b o q) (fun b q => .inl q) _ r1.reverse
      · cases hex
    · exact h.elim
theorem s_raise (C : ExcC X.prog X.w X.K X.mg X.base G c nm xs) (hc : X.calm = true) (tk : Takes X W) (hr : Room 2 X.A) (hg : Gl X nm) (ha : PA X (e :: es) (tL G W (ErD G) g)) (hdb : (nm == ("__debug__" : Str)) = false)
    (he : starEach (e :: es) X.env = (false, eval e X.env) :: starEach es X.env) (hpl : (backTo pos (starEach es X.env)).any (·.1) = false) :
    PS X (.Raise (some (.Call (.Name nm p) (e :: es) [] pos)) none pos2) (tS G W fun S => (g S).toF fun ds S1 => match xMake c xs ds with | some e => .exc e S1 | none => .bad) := by
  obtain ⟨fI, cc, D, fd, self, F, i1, i2, hb, SE, _⟩ := C.ex
  exact PS_imp (ps_raise hc tk (pmk_oex SE.oex i1 i2 F hr hb .nil passX hg C.at_ ha hdb he hpl)) fun Z σ H h => tri_raise SE C.nf C.few h
end
end Eng

namespace Eng
open PySem PySem.Spec L2
open PyProof.Rows hiding St

/-- an exception's object that is held as a value -/
def XOg (cls : Value) (d : Option Addr) (a : Addr) : HO := .ext fun h => ∃ (oe : Obj) (vs : Array Value), h.get? a = some oe ∧ oe.cls = cls ∧ oe.dict = d ∧ oe.data = .fields vs
section
variable {X : Cx} {pins : List (Addr × Obj)} {σ : L2.St} {H : Hp} {s : Shared}
/-- an object that is no one's yet is told of from now on -/
theorem track {a : Addr} {oe : Obj} {vs : Array Value} {cls : Value} {d : Option Addr} (I : Inv X pins σ H s) (na : H a = none) (at_ : s.heap.get? a = some oe) (z : Zc cls d oe) (dt : oe.data = .fields vs) (fresh : X.s_0.heap.get? a = none) (nL : a ≠ X.env.locals)
    (nC : ∀ x c, X.env.cells.lookup x = some c → c ≠ a) (nP : ∀ p ∈ X.pn ++ pins, p.1 ≠ a) : Inv X pins σ (upd H a (XOg cls d a)) s := by
  have other : ∀ {b u}, H b = some u → b ≠ a := fun {b u} e q => by rw [q, na] at e; cases e
  refine ⟨I.ok, I.os, I.bare, ⟨I.base.keep, I.base.slot, fun b o e n hx => ?_, I.base.there, fun b xs e => ?_, fun b o u e => ?_, fun b ps e => ?_⟩, I.loc, I.cell, ?_, fun y c e => ?_, fun p hp => ?_, fun b u e => ?_, I.len⟩
  · rw [upd_ne (fun q => by rw [q, fresh] at e; cases e)]
    exact I.base.free b o e n hx
  · have e1 := I.base.tups b xs e
    rw [upd_ne (other e1)]; exact e1
  · have e1 := I.base.frzs b o u e
    rw [upd_ne (other e1)]; exact e1
  · obtain ⟨more, e1⟩ := I.base.tbls b ps e
    exact ⟨more, by rw [upd_ne (other e1)]; exact e1⟩
  · rw [upd_ne (Ne.symm nL)]; exact I.free
  · rw [upd_ne (nC y c e)]; exact I.freeC y c e
  · obtain ⟨p1, p2, p3⟩ := I.pin p hp
    exact ⟨p1, by rw [upd_ne (nP p hp)]; exact p2, p3⟩
  · by_cases hb : b = a
    · subst hb
      rw [upd_same] at e
      cases e
      exact ⟨⟨oe, vs, at_, z.1, z.2, dt⟩, ⟨oe, at_⟩, fun h1 h2 ⟨o, us, q1, q2⟩ k => ⟨o, us, k _ q1, q2⟩⟩
    · rw [upd_ne hb] at e
      exact (I.hok b u e).stay (fun _ _ _ q => q) (fun c q => by rw [upd_ne (other q)]; exact q) fun c xs q => by rw [upd_ne (other q)]; exact q
/-- an except suite in which the exception is a value like others -/
abbrev suiteT (X : Cx) (a : Addr) (pn : List (Addr × Obj)) : Cx := { X with A := X.A.mark (some (.ref a)), calm := false, pn := pn, xe := fun _ _ => False }
theorem suiteT_ok {a : Addr} {pn : List (Addr × Obj)} (ok : X.Ok) : (suiteT X a pn).Ok :=
  ⟨ok.mod, ok.kind, ok.glob, ok.blt, ok.above, ok.inj, ok.has, ok.cab, fun z => (nomatch (show false = true from z)), ok.frames, ok.stk, ok.exf, ok.bs, ok.bsz, ok.noex, ok.exfs, ok.funs, ok.frf⟩
theorem into_suiteT (I : Inv X pins σ H s) (a : Addr) : Inv (suiteT X a (X.pn ++ pins)) [] σ H s :=
  ⟨suiteT_ok I.ok, I.os, I.bare, I.base, I.loc, I.cell, I.free, I.freeC, fun p hp => I.pin p (by rw [List.append_nil] at hp; exact hp), I.hok, I.len⟩
theorem from_suiteT {a : Addr} {qn : List (Addr × Obj)} (ok : X.Ok) (I : Inv (suiteT X a (X.pn ++ pins)) qn σ H s) : Inv X pins σ H s :=
  ⟨ok, I.os, I.bare, I.base, I.loc, I.cell, I.free, I.freeC, fun p hp => I.pin p (List.mem_append_left _ hp), I.hok, I.len⟩
/-- what 'except x as n' wishes of the body's exceptions -/
def wAsT (K : PySem.W.Frag) (c : Value) (i : Nat) (ts : TS) (Wout : WX) (D : Ends) : WX := fun cls d σ H =>
  ∃ b, PySem.W.exmOne K cls c = some b ∧ (b = true → ∀ a, H a = none → ts { nx := fun σ' H' => D.nx (σ'.set i none) H', rt := D.rt, bk := fun σ' H' => D.bk (σ'.set i none) H', ct := fun σ' H' => D.ct (σ'.set i none) H' } (σ.set i (some (.ref a))) (upd H a (XOg cls d a))) ∧
    (b = false → Wout cls d σ H)
end
section
variable {X : Cx} {x n : Str} {c : Value} {i : Nat} {body suite : List Stmt} {b₀ : Stmt} {np pos pos' : Pos} {tb : WX → TS} {ts : TS} {Wout : WX}
theorem ps_try_T (stk : X.stack = X.env :: X.outer) (hex : X.ex = []) (frm : X.env.frame = some X.env.locals) (nd : X.N.Nodup) (hi : X.N[i]? = some n) (hln : X.env.kindOf n = some .local) (names : Names X x c) (tk : Takes X Wout)
    (hb : ∀ (W : WX) (pn : List (Addr × Obj)) (xe : Value → Shared → Prop), Takes (X.tr pn xe) W → PassesOwn (model X.prog X.w) X.A X.env xe → PSs (X.tr pn xe) body (tb W))
    (hsu : ∀ (a : Addr) (pn : List (Addr × Obj)), PSs (suiteT X a pn) (b₀ :: suite) ts) :
    PS X (.Try body [.ExceptHandler (some (.Name x np)) (some n) (b₀ :: suite) pos'] [] [] pos) (fun D σ H => tb (wAsT X.K c i ts Wout D) D σ H) := by
  constructor
  intro pins s σ H D I want
  have ok := I.ok
  have frames : X.A.frames = some (X.env :: X.outer) := by rw [ok.frames, stk]
  let catchAll : Value → Shared → Prop := fun e t1 => wpAny (model X.prog X.w) X.A (noteFrame e X.env) (fun _ t2 => wpAny (model X.prog X.w) X.A (setFlight e none)
    (fun _ t3 => wpAny (model X.prog X.w) X.A (handleBy e X.env [.ExceptHandler (some (.Name x np)) (some n) (b₀ :: suite) pos']) (SP X pins D) X.xe t3) X.xe t2) X.xe t1
  have caught : Takes (X.tr (X.pn ++ pins) catchAll) (wAsT X.K c i ts Wout D) := by
    rintro u t ⟨a, B, t0, pins2, σ1, H1, cls, d, rfl, J, nb, up, sky, na, os, ag, b, hb1, yes, no⟩
    have J := J.ofTry ok
    have sky2 : Sky B (X.env :: X.outer) a (Zc cls d) X.env.locals t.heap := by rw [← stk]; exact sky
    show wpAny (model X.prog X.w) X.A (noteFrame (.ref a) X.env) _ _ _
    refine Sky.land Zc.steady frames frm sky2 fun g1 fly1 up1 => ?_
    have J1 := J.landed (s' := { t with heap := g1 }) nb fly1.1 (up.trans up1) os ag
    obtain ⟨o1, v1, at1, z1, d1⟩ := fly1.there
    have noFrame : a ∉ frs (X.env :: X.outer) := fun hm => by
      obtain ⟨_, o', e', hnf⟩ := fly1.2.2.1.mem hm
      rw [at1] at e'; cases e'
      exact hnf _ d1
    have nL : a ≠ X.env.locals := fun z => noFrame (List.mem_filterMap.mpr ⟨X.env, List.mem_cons_self, by rw [frm, z]⟩)
    have nF : a ∉ X.fs := fun hm => by
      obtain ⟨e, he, q⟩ := List.mem_filterMap.mp hm
      exact noFrame (List.mem_filterMap.mpr ⟨e, List.mem_cons_of_mem _ he, q⟩)
    -- where the body began, and all along, there was nothing at a
    have a0 : t0.heap.get? a = none := by
      cases e : t0.heap.get? a with
      | none => rfl
      | some o =>
        have := nb a o e (by rw [stk]; exact noFrame)
        rw [fly1.2.1] at this; cases this
    have fresh : X.s_0.heap.get? a = none := by
      cases e : X.s_0.heap.get? a with
      | none => rfl
      | some o =>
        obtain ⟨o', e'⟩ := J.base.there a o e (by rw [hex]; simp)
        rw [a0] at e'; cases e'
    have nC : ∀ y k, X.env.cells.lookup y = some k → k ≠ a := fun y k e z => by
      obtain ⟨v, o, e1, _⟩ := J.cell y k e
      rw [z, a0] at e1; cases e1
    have nP : ∀ p ∈ X.pn ++ pins, p.1 ≠ a := fun p hp z => by
      have := (J.pin p hp).1
      rw [z, a0] at this; cases this
    have S1 := J1.suite at1 d1 na nL nF
    refine wpAny_handleBy_cons (codeAny_handlers_test ?_) (by intro q; cases q)
    have typ : PySem.W.Looks (model X.prog X.w) g1 (typeOf (.ref a)) cls := fun A Q E s k q => wpAny_typeOf_ref (k _ _ at1) (by rw [z1.1]; exact q)
    have isx := PySem.W.exm_one (M := model X.prog X.w) J1.kIn typ hb1
    have ask : ∀ {Q : Value → Shared → Prop} {E : Value → Shared → Prop}, Q c { t with heap := g1 } → wpAny (model X.prog X.w) (X.A.mark (some (.ref a))) (eval (.Name x np) X.env) Q E { t with heap := g1 } := fun {Q E} q => by
      obtain ⟨hg, hdbg, hm | ⟨hm, hv, hnn⟩⟩ := names
      · exact ld_glob (X := X.suite a ((a, o1) :: (X.pn ++ pins))) S1 hg hm q hdbg
      · exact ld_blt (X := X.suite a ((a, o1) :: (X.pn ++ pins))) S1 hg hm hv q hnn hdbg
    refine ask (isx.here ?_)
    cases b with
    | true =>
      refine codeAny_handlers_suite_as (HandSPX.lands_againZ fly1 fun g2 fly2 up2 => ?_)
      have J2 := J.landed (s' := { t with heap := g2 }) nb fly2.1 ((up.trans up1).trans up2) os ag
      obtain ⟨o2, v2, at2, z2, d2⟩ := fly2.there
      have T2 := into_suiteT (track J2 na at2 z2 d2 fresh nL nC nP) a
      refine store_ok (X := suiteT X a (X.pn ++ pins)) (v := .ref a) T2 nd hi (.inl hln) rfl (fun t5 T5 => ?_) (.inr hln)
      refine wpAny_mono ((hsu a (X.pn ++ pins)).run [] t5 _ _ _ T5 (yes rfl a na)) (fun f t6 hsp => ?_) (fun _ _ z => False.elim z)
      have leave : ∀ {σ6 : L2.St} {H6 : Hp} {Q : Shared → Prop}, Inv (suiteT X a (X.pn ++ pins)) [] σ6 H6 t6 → (∀ t7, Inv X pins (σ6.set i none) H6 t7 → Q t7) →
          wpAny (model X.prog X.w) X.A (do bindName X.env n .none; unbindBehindTheSuite X.env n pos') (fun _ t7 => Q t7) X.xe t6 := fun {σ6 H6 Q} T6 hq => gone_ok (from_suiteT ok T6) nd hi hln hq
      cases f with
      | next =>
        obtain ⟨σ6, H6, T6, q6⟩ := hsp
        exact leave T6 fun t7 J7 => ⟨_, _, J7, q6⟩
      | brk =>
        obtain ⟨σ6, H6, T6, q6⟩ := hsp
        exact leave T6 fun t7 J7 => ⟨_, _, J7, q6⟩
      | cont =>
        obtain ⟨σ6, H6, T6, q6⟩ := hsp
        exact leave T6 fun t7 J7 => ⟨_, _, J7, q6⟩
      | ret u =>
        obtain ⟨v6, σ6, H6, T6, r6, q6⟩ := hsp
        exact leave T6 fun t7 J7 => ⟨_, _, _, J7, r6, q6⟩
    | false =>
      show wpAny _ X.A (handleBy (.ref a) X.env []) _ _ _
      refine wpAny_handleBy_nil ?_
      obtain ⟨_, _, _, oe, vs, T, oT, ts', he, hz, hd, h1, hr⟩ := id fly1
      unfold PySem.passOn
      refine wpAny_bind (wpAny_field he hd h1 ?_)
      rw [if_neg (show ¬ ((Value.ref T == Value.none) = true) from by simp)]
      have out : wpAny (model X.prog X.w) X.A (setFlight (.ref a) X.env.frame) (fun _ t4 => wpAny (model X.prog X.w) X.A (throw (.ref a) : Sem Flow) (SP X pins D) X.xe t4) X.xe { t with heap := g1 } := by
        rw [frm]
        refine HandSPX.setFlight_upZ fly1 fun g4 held4 up4 => wpAny_throw (tk _ _ ?_)
        exact ⟨a, B, t0, pins, σ1, H1, cls, d, rfl, J, nb, (up.trans up1).trans up4, .inr (.inr (by rw [stk]; exact held4)), na, os, ag, no rfl⟩
      first
        | exact wpAny_bind (wpAny_pure (wpAny_bind out))
        | exact wpAny_bind out
  refine wpAny_Try_except (wpAny_mono ((hb (wAsT X.K c i ts Wout D) (X.pn ++ pins) catchAll caught PassesOwn.looking).run [] s σ H D (I.toTry _) want) (fun f s1 hsp => ?_) fun e s1 he => he)
  cases f with
  | next =>
    obtain ⟨σ', H', J', q⟩ := hsp
    exact wpAny_execs_nil ⟨σ', H', J'.ofTry ok, q⟩
  | brk =>
    obtain ⟨σ', H', J', q⟩ := hsp
    exact ⟨σ', H', J'.ofTry ok, q⟩
  | cont =>
    obtain ⟨σ', H', J', q⟩ := hsp
    exact ⟨σ', H', J'.ofTry ok, q⟩
  | ret u =>
    obtain ⟨v, σ', H', J', r, q⟩ := hsp
    exact ⟨v, σ', H', J'.ofTry ok, r, q⟩
end
end Eng

namespace Eng
open PySem PySem.Spec L2
open PyProof.Rows hiding St
section
variable {G : Gs} {W : WX} {Av Av1 Av2 : Addr → Prop} {S S1 S2 : SS} {σ σ1 σ2 : L2.St} {H H1 H2 : Hp} {i : Nat}
theorem StOk.unset (st : StOk G Av S σ H) (i : Nat) : StOk G Av (S.set i .no) (σ.set i none) H := by
  have get : ∀ {k s}, (S.set i .no)[k]? = some s → s ≠ .no → k ≠ i ∧ S[k]? = some s := fun q n => by
    rcases get_set_cases q with ⟨_, rfl⟩ | z
    · exact absurd rfl n
    · exact z
  have hol : ∀ {k}, Holds (S.set i .no) k → Holds S k ∧ k ≠ i := fun {k} ⟨s, d, q, r⟩ => by
    obtain ⟨n, q⟩ := get q (by rintro rfl; cases r)
    exact ⟨⟨s, d, q, r⟩, n⟩
  have at_ : ∀ {k a}, k ≠ i → (At (σ.set i none) k a ↔ At σ k a) := fun {k a} n => by unfold At; rw [set_ne n]
  refine ⟨by rw [List.length_set, List.length_set]; exact st.len, st.dom, st.tb, fun k d q => ?_, fun k s d q r => ?_, fun k l a h1 h2 a1 a2 => st.dis k l a (hol h1).1 (hol h2).1 ((at_ (hol h1).2).mp a1) ((at_ (hol h2).2).mp a2)⟩
  · obtain ⟨n, q⟩ := get q (by intro z; cases z)
    rw [set_ne n]; exact st.sh k d q
  · obtain ⟨n, q⟩ := get q (by rintro rfl; cases r)
    obtain ⟨p, h1, h2⟩ := st.ow k s d q r
    exact ⟨p, (at_ n).mpr h1, h2⟩
theorem SPost.unset (P : SPost G Av S σ H Av1 S1 σ1 H1) (hi : ∀ d, S[i]? ≠ some (.io d) ∧ S[i]? ≠ some (.lk d)) : SPost G Av S σ H Av1 (S1.set i .no) (σ1.set i none) H1 := by
  refine ⟨P.frame, P.stay, P.sub, P.held, fun a ⟨k, ⟨s, d, q, r⟩, ha⟩ => ?_, fun k d q => ?_, fun k d q => ?_, P.st.unset i⟩
  · rcases get_set_cases q with ⟨_, rfl⟩ | ⟨n, q⟩
    · cases r
    · refine P.roots a ⟨k, ⟨s, d, q, r⟩, ?_⟩
      have ha : (σ1.set i none)[k]? = _ := ha
      rwa [set_ne n] at ha
  · have n : k ≠ i := fun z => (hi d).1 (z ▸ q)
    obtain ⟨⟨d', e1⟩, e2⟩ := P.ios k d q
    exact ⟨⟨d', by rw [set_ne n]; exact e1⟩, by rw [set_ne n]; exact e2⟩
  · have n : k ≠ i := fun z => (hi d).2 (z ▸ q)
    obtain ⟨e1, e2⟩ := P.lks k d q
    exact ⟨by rw [set_ne n]; exact e1, by rw [set_ne n]; exact e2⟩
/-- behind an except suite -/
def clrF (i : Nat) : F → F
  | .nx S => .nx (S.set i .no)
  | .bk S => .bk (S.set i .no)
  | .ct S => .ct (S.set i .no)
  | .rt fr d S => .rt fr d S
  | .exc _ _ => .bad
  | .bad => .bad
/-- what is caught -/
def catchF (yes no : List Nat) (i : Nat) (s : SS → F) : F → F
  | .exc (.exo c ns ds) S => if c ∈ yes then (if freeAt S i then clrF i (s (S.set i (.sh (.exo c ns ds)))) else .bad) else if c ∈ no then .exc (.exo c ns ds) S else .bad
  | .exc _ _ => .bad
  | r => r
def noexcF : F → F
  | .exc _ _ => .bad
  | r => r
abbrev noW : WX := fun _ _ _ _ => False
theorem tri_try {K : PySem.W.Frag} {cH : Value} {yes no : List Nat} {f g : SS → F} {Z : Ends} (hy : ∀ c ∈ yes, PySem.W.exmOne K (.ref (G.c c)) cH = some true) (hn : ∀ c ∈ no, PySem.W.exmOne K (.ref (G.c c)) cH = some false)
    (h : tS G W (fun S => catchF yes no i g (f S)) Z σ H) : tS G (wAsT K cH i (tS G noW fun S => noexcF (g S)) W Z) f Z σ H := by
  obtain ⟨Av, S, st, h⟩ := h
  refine ⟨Av, S, st, ?_⟩
  have h : RdS G W (catchF yes no i g (f S)) Av S σ H Z := h
  cases ef : f S with
  | nx S1 => rw [ef] at h; exact h
  | bk S1 => rw [ef] at h; exact h
  | ct S1 => rw [ef] at h; exact h
  | rt fr d S1 => rw [ef] at h; exact h
  | bad => rw [ef] at h; exact h
  | exc e S1 =>
    rw [ef] at h
    intro cls d σ1 H1 xp
    obtain ⟨Av1, P1, c, ns, ds, rfl, rfl, dx, vs, rfl, nd, hd, hl, hr⟩ := xp.ex
    have h : RdS G W (if c ∈ yes then (if freeAt S1 i then clrF i (g (S1.set i (.sh (.exo c ns ds)))) else .bad) else if c ∈ no then .exc (.exo c ns ds) S1 else .bad) Av S σ H Z := h
    split at h
    · rename_i hc
      refine ⟨true, hy c hc, fun _ a na => ?_, fun z => nomatch z⟩
      split at h
      · rename_i hf
        have st1 := P1.st
        have eE : Ext H1 (upd H1 a (XOg (.ref (G.c c)) (some dx) a)) := ext_upd na
        have Pe : Post G Av1 S1 σ1 H1 Av1 S1 (upd H1 a (XOg (.ref (G.c c)) (some dx) a)) := Post.ext st1 eE (fun b q => .inl q) (fun b q => let ⟨o, w, m⟩ := st1.dom b q; ⟨o, eE b o w, m⟩) fun b q => q
        have rp : Rep G Av1 (upd H1 a (XOg (.ref (G.c c)) (some dx) a)) (.exo c ns ds) (.ref a) := by
          refine ⟨a, dx, vs, rfl, fun z => ?_, nd, upd_same, ?_, hl, Reps.mono (fun b o q _ _ => eE b o q) (fun b q => .inl q) ds hr⟩
          · obtain ⟨o, w, _⟩ := st1.dom a z
            rw [na] at w; cases w
          · exact eE _ _ hd
        have Pp := Pe.st.put hf rp
        have P2 : SPost G Av S σ H Av1 (S1.set i (.sh (.exo c ns ds))) (σ1.set i (some (.ref a))) _ := SPost.trans st P1 (SPost.trans st1 Pe.s Pp)
        have hi : ∀ d, S[i]? ≠ some (.io d) ∧ S[i]? ≠ some (.lk d) := fun d => by
          constructor
          · intro z
            obtain ⟨⟨d', e1⟩, _⟩ := P1.ios i d z
            unfold freeAt at hf; rw [e1] at hf; cases hf
          · intro z
            obtain ⟨e1, _⟩ := P1.lks i d z
            unfold freeAt at hf; rw [e1] at hf; cases hf
        refine ⟨Av1, _, Pp.st, ?_⟩
        show RdS G noW (noexcF (g (S1.set i (.sh (.exo c ns ds))))) Av1 _ _ _ _
        cases eg : g (S1.set i (.sh (.exo c ns ds))) with
        | nx S3 => rw [eg] at h; exact fun Av3 σ3 H3 Q => h Av3 _ H3 ((SPost.trans st P2 Q).unset hi)
        | bk S3 => rw [eg] at h; exact fun Av3 σ3 H3 Q => h Av3 _ H3 ((SPost.trans st P2 Q).unset hi)
        | ct S3 => rw [eg] at h; exact fun Av3 σ3 H3 Q => h Av3 _ H3 ((SPost.trans st P2 Q).unset hi)
        | rt fr d S3 => rw [eg] at h; exact fun Av3 σ3 v H3 Q r => h Av3 σ3 v H3 (SPost.trans st P2 Q) (r.trans P2)
        | exc e S3 => rw [eg] at h; exact h.elim
        | bad => rw [eg] at h; exact h.elim
      · exact h.elim
    · split at h
      · rename_i hc
        exact ⟨false, hn c hc, fun z => (nomatch z), fun _ => h _ _ _ _ xp⟩
      · exact h.elim
end
end Eng

namespace Eng
open PySem PySem.Spec L2
open PyProof.Rows hiding St

/-! ### a lambda: no parameter, or one with a number for its default -/
def lamPB (p : Arguments) : Bool := p.posonlyargs.isEmpty && p.vararg.isNone && p.kwonlyargs.isEmpty && p.kw_defaults.isEmpty && p.kwarg.isNone && (match p.args, p.defaults with
  | [], [] => true
  | [_], [.Constant (.int _) _ _] => true
  | _, _ => false)
def lamNs (p : Arguments) : List Str := p.args.map (·.arg)
theorem lamPB_two {p : Arguments} (h : lamPB p = true) : p = ⟨[], [], none, [], [], none, []⟩ ∨ ∃ a i j q, p = ⟨[], [a], none, [], [], none, [Expr.Constant (.int i) j q]⟩ := by
  obtain ⟨po, ar, va, ko, kd, ka, de⟩ := p
  unfold lamPB at h
  simp only [Bool.and_eq_true, List.isEmpty_iff, Option.isNone_iff_eq_none] at h
  obtain ⟨⟨⟨⟨⟨rfl, rfl⟩, rfl⟩, rfl⟩, rfl⟩, h⟩ := h
  split at h
  · exact .inl rfl
  · exact .inr ⟨_, _, _, _, rfl⟩
  · cases h
/-- the object of the defaults -/
def DefV (h : Heap) (dV : Value) (dv : List Value) : Prop := (dV = .none ∧ dv = []) ∨ ∃ T, dV = .ref T ∧ h.get? T = some (PySem.W.kdv_tup dv)
theorem lam_binds {p : Arguments} {s : Shared} {name qual : Str} {body : FuncBody} {scope : Scope} {cl : List (Str × Addr)} {dV doc pm cv ctv : Value} {dv : List Value} (h : lamPB p = true) (hl : dv.length = p.args.length) (d : DefV s.heap dV dv) :
    BindsTo s (PySem.W.kdv_fn name qual p body scope cl dV doc pm cv ctv) ⟨[], []⟩ ((lamNs p).zip dv) := by
  rcases lamPB_two h with rfl | ⟨a, i, j, q, rfl⟩
  · cases dv with
    | cons _ _ => cases hl
    | nil =>
      rcases d with ⟨rfl, _⟩ | ⟨T, rfl, hT⟩
      · exact BindsTo.of_eq rfl
      · exact BindsTo.of_defaults rfl hT rfl rfl rfl
  · match dv, hl with
    | [v], _ =>
      rcases d with ⟨_, z⟩ | ⟨T, rfl, hT⟩
      · cases z
      · refine BindsTo.of_defaults rfl hT rfl rfl ?_
        simp [lamNs]

structure LamN (N : List Str) (p : Arguments) (sc scope : Scope) : Prop where
  kind : scope.kind = .function
  co : scope.isCoroutine = false
  gen : scope.isGenerator = false
  nocell : ∀ y ∈ scope.names, y.2 ≠ .cell
  own : ∀ y ∈ scope.names, y.2 = .local → y.1 ∉ N
  par : ∀ x ∈ lamNs p, scope.names.lookup x = some .local
  free : ∀ y ∈ scope.names, y.2 = .free → sc.names.lookup y.1 = some .cell ∨ sc.names.lookup y.1 = some .free
def lamNB (N : List Str) (p : Arguments) (sc scope : Scope) : Bool :=
  decide (scope.kind = .function) && !scope.isCoroutine && !scope.isGenerator && (lamNs p).all (fun x => decide (scope.names.lookup x = some .local)) &&
    scope.names.all fun y => !decide (y.2 = .cell) && (!decide (y.2 = .local) || !N.contains y.1) && (!decide (y.2 = .free) || decide (sc.names.lookup y.1 = some .cell) || decide (sc.names.lookup y.1 = some .free))
theorem lamN_by {N : List Str} {p : Arguments} {sc scope : Scope} (h : lamNB N p sc scope = true) : LamN N p sc scope := by
  unfold lamNB at h
  simp only [Bool.and_eq_true, Bool.or_eq_true, Bool.not_eq_true', decide_eq_true_eq, decide_eq_false_iff_not, List.all_eq_true] at h
  obtain ⟨⟨⟨⟨a, b⟩, c⟩, d⟩, e⟩ := h
  refine ⟨a, b, c, fun y m => (e y m).1.1, fun y m q z => ?_, d, fun y m q => ?_⟩
  · rcases (e y m).1.2 with n | n
    · exact n q
    · exact absurd z (by simpa using n)
  · rcases (e y m).2 with (n | n) | n
    · exact absurd q n
    · exact .inl n
    · exact .inr n
section
variable {X : Cx} {pins : List (Addr × Obj)} {σ : L2.St} {H : Hp} {s : Shared}
theorem LamN.has {N : List Str} {p : Arguments} {scope : Scope} (L : LamN N p X.env.scope scope) (ok : X.Ok) : ∀ y ∈ scope.names, y.2 = .free → ∃ c, X.env.cells.lookup y.1 = some c :=
  fun y m q => ok.has _ (L.free y m q)
abbrev lamO (X : Cx) (p : Arguments) (body : Expr) (scope : Scope) (dV doc pm cv ctv : Value) : Obj :=
  { cls := .type "function", data := .func (PySem.W.kdv_fn "<lambda>" (X.env.qual ++ "<lambda>") p (.expr body) scope (cloFrom X.env.cells scope.names []) dV doc pm cv ctv) }
/-- behind the making of a lambda -/
structure Made (X : Cx) (pins : List (Addr × Obj)) (σ : L2.St) (T : List (Addr × Str)) (p : Arguments) (body : Expr) (scope : Scope) (dV : Value) (H : Hp) (s : Shared) (f c' : Addr) (H1 : Hp) (s' : Shared) : Prop where
  inv : Inv X pins σ H1 s'
  ext : LamX.ExtN H H1
  stay : ∀ a o, H a = some o → ∃ o', H1 a = some o'
  tabs : LamX.Tabs T H1
  obj : ∃ doc pm ctv, s'.heap.get? f = some (lamO X p body scope dV doc pm (.ref c') ctv)
  none : H1 f = none
  nofr : f ∉ frs X.stack
  code : H1 c' = some (LamX.CodeO c' (X.env.qual ++ "<lambda>"))
  old : ∀ b o, s.heap.get? b = some o → H b = .none → s'.heap.get? b = some o ∧ H1 b = .none
theorem made_tail {T : List (Addr × Str)} {c P : Addr} {p : Arguments} {body : Expr} {scope : Scope} {dV : Value} {pos : Pos} {n : Nat} {E : Value → Shared → Prop} {Q : Value → Shared → Prop} (I : Inv X pins σ H s) (B : LamX.TabB X.base X.mg c P) (hcode : X.env.code = .ref c)
    (mem : (P, X.env.qual ++ "<lambda>") ∈ T) (one : ∀ q ∈ T, q.1 = P → q.2 = X.env.qual ++ "<lambda>") (hT : LamX.Tabs T H) (hcl : closureFor scope X.env = pure (cloFrom X.env.cells scope.names []))
    (h : ∀ (f c' : Addr) (H1 : Hp) (s' : Shared), Made X pins σ T p body scope dV H s f c' H1 s' → Q (.ref f) s') :
    wpAny (model X.prog X.w) X.A (makeTail "<lambda>" (X.env.qual ++ "<lambda>") p (.expr body) scope X.env dV .none .none pos n) Q E s := by
  obtain ⟨ps, hP, tr, am⟩ := hT _ mem
  have bP : s.heap.BuiltinsAt X.mg P := B.bm.keeps I.bk
  have atP : s.heap.get? P = some { cls := .none, data := .fields ps } := I.hok P _ hP
  have nf : ∀ b, s.heap.objs.size ≤ b → b ∉ frs X.stack := fun b hb z => by
    rcases List.mem_cons.mp (I.stkSub _ z) with rfl | e
    · exact absurd I.lt (Nat.not_lt.mpr hb)
    · exact I.nofs hb e
  cases hc : codeAmong pos ps.toList with
  | some cv =>
    obtain ⟨c', rfl, hco⟩ := am pos cv hc
    refine PySem.W.kdv_makeTailHit (mg := X.mg) (c := c) (P := P) (ps := ps) hcl I.ok.glob (I.mod.glob.keeps I.bk) hcode (B.code.keeps I.bk) atP tr hc bP fun ctv doc h' tk keep big => ?_
    have keep2 : ∀ b o, s.heap.get? b = some o → (h'.push (lamO X p body scope dV doc ((X.mg "__name__").getD .none) (.ref c') ctv)).get? b = some o := fun b o e => Heap.get?_push_of_some _ (keep b o e)
    exact h _ c' H _ ⟨I.kept keep2, LamX.ExtN.refl H, fun a o q => ⟨o, q⟩, hT, ⟨_, _, _, Heap.get?_push_size _ rfl⟩, I.hok.fresh big, nf _ big, hco, fun b o e q => ⟨keep2 b o e, q⟩⟩
  | none =>
    refine PySem.W.kdv_makeTail (mg := X.mg) (c := c) (P := P) (ps := ps) hcl I.ok.glob (I.mod.glob.keeps I.bk) hcode (B.code.keeps I.bk) atP tr hc B.gP bP fun c' ctv doc h' tk hx ge lt hrec htb => ?_
    obtain ⟨c2, oc, us, t, k0, k1, k2, k3⟩ := hrec
    cases k0
    have big : s.heap.objs.size ≤ h'.objs.size := Nat.le_trans ge (Nat.le_of_lt lt)
    have nC : H c' = none := I.hok.fresh ge
    have keep2 : ∀ b o, b ≠ P → s.heap.get? b = some o → (h'.push (lamO X p body scope dV doc ((X.mg "__name__").getD .none) (.ref c') ctv)).get? b = some o := fun b o n e => Heap.get?_push_of_some _ (hx b o n e)
    let H1 := upd (upd H P (.tbl (ps ++ #[rawInt pos.line, rawInt pos.col, .ref c']))) c' (LamX.CodeO c' (X.env.qual ++ "<lambda>"))
    have atC : H1 c' = some (LamX.CodeO c' (X.env.qual ++ "<lambda>")) := upd_same
    have nPC : P ≠ c' := ne_of_none hP nC
    have atT : H1 P = some (.tbl (ps ++ #[rawInt pos.line, rawInt pos.col, .ref c'])) := (upd_ne nPC).trans upd_same
    have els : ∀ b, b ≠ P → b ≠ c' → H1 b = H b := fun b n1 n2 => (upd_ne n2).trans (upd_ne n1)
    have eN : LamX.ExtN H H1 := fun b o e n => (els b (fun z => by rw [z, hP] at e; cases e; exact n ps rfl) (ne_of_none e nC)).trans e
    refine h h'.objs.size c' H1 _ ⟨LamX.inv_table (t' := tk) I hP keep2 (Heap.get?_push_of_some _ htb) ge ⟨oc, us, t, Heap.get?_push_of_some _ k1, k2, k3⟩, eN, fun a o q => ?_, fun q hq => ?_, ⟨_, _, _, Heap.get?_push_size _ rfl⟩, ?_, nf _ big, atC, fun b o e q => ⟨keep2 b o (fun z => by rw [z, hP] at q; cases q) e, ?_⟩⟩
    · by_cases z : a = P
      · rw [z]; exact ⟨_, atT⟩
      · exact ⟨o, (els a z (ne_of_none q nC)).trans q⟩
    · by_cases z : q.1 = P
      · have e : (ps ++ #[rawInt pos.line, rawInt pos.col, .ref c']).toList = ps.toList ++ [rawInt pos.line, rawInt pos.col, .ref c'] := by simp
        rw [one q hq z, z]
        refine ⟨_, atT, by rw [e]; exact PySem.TriplesOk_snoc _ _ _ _ tr, fun p' cv hcv => ?_⟩
        rw [e] at hcv
        rcases LamX.among_app _ tr hcv with y | rfl
        · obtain ⟨c0, e1, e2⟩ := am p' cv y
          exact ⟨c0, e1, eN _ _ e2 LamX.codeO_ne⟩
        · exact ⟨c', rfl, atC⟩
      · obtain ⟨ps', a1, a2, a3⟩ := hT q hq
        refine ⟨ps', (els _ z (ne_of_none a1 nC)).trans a1, a2, fun p' cv hcv => ?_⟩
        obtain ⟨c0, e1, e2⟩ := a3 p' cv hcv
        exact ⟨c0, e1, eN _ _ e2 LamX.codeO_ne⟩
    · exact (els _ (Nat.ne_of_gt (Nat.lt_of_lt_of_le (Heap.lt_size atP) big)) (Nat.ne_of_gt lt)).trans (I.hok.fresh big)
    · exact (els b (fun z => by rw [z, hP] at q; cases q) (Nat.ne_of_lt (Nat.lt_of_lt_of_le (Heap.lt_size e) ge))).trans q
theorem lam_made {T : List (Addr × Str)} {c P : Addr} {p : Arguments} {body : Expr} {scope : Scope} {pos : Pos} {Q : Value → Shared → Prop} (I : Inv X pins σ H s) (B : LamX.TabB X.base X.mg c P) (hcode : X.env.code = .ref c)
    (mem : (P, X.env.qual ++ "<lambda>") ∈ T) (one : ∀ q ∈ T, q.1 = P → q.2 = X.env.qual ++ "<lambda>") (hT : LamX.Tabs T H) (hp : lamPB p = true) (hcl : closureFor scope X.env = pure (cloFrom X.env.cells scope.names []))
    (h : ∀ (f c' : Addr) (dV : Value) (dv : List Value) (s0 : Shared) (H1 : Hp) (s' : Shared), dv.length = p.args.length → DefV s0.heap dV dv → (∀ T, dV = .ref T → H T = none ∧ T ∉ frs X.stack) → Made X pins σ T p body scope dV H s0 f c' H1 s' → Q (.ref f) s') :
    wpAny (model X.prog X.w) X.A (eval (.Lambda p body scope pos) X.env) Q X.xe s := by
  rcases lamPB_two hp with rfl | ⟨a, i, j, q, rfl⟩
  · refine PySem.W.kla_eval rfl ?_
    rw [makeFunction_eq]
    exact wpAny_bind (wpAny_pure (wpAny_bind (wpAny_pure (wpAny_bind (wpAny_pure (made_tail I B hcode mem one hT hcl fun f c' H1 s' m => h f c' .none [] s H1 s' rfl (.inl ⟨rfl, rfl⟩) (fun T z => by cases z) m))))))
  · refine PySem.W.kdv_lam (by rfl) rfl ?_
    refine PySem.W.kdv_all1 (thn ((pe_int (i := i) (j := j) (pos := q)).run pins s σ H (fun v H' => H' = H) I rfl) ?_)
    rintro u s1 ⟨v, H', I1, _, rfl⟩
    refine PySem.W.kdv_all0 ?_
    rw [makeFunction_eq]
    refine wpAny_bind (wpAny_newTextTuple ?_)
    have fresh : s1.heap.objs.size ∉ frs X.stack := fun z => by
      rcases List.mem_cons.mp (I1.stkSub _ z) with e | e
      · exact absurd I1.lt (by rw [e]; exact Nat.lt_irrefl _)
      · exact I1.nofs (Nat.le_refl _) e
    exact wpAny_bind (wpAny_pure (wpAny_bind (wpAny_pure (made_tail (I1.kept (t' := s1.toks) fun b o e => Heap.get?_push_of_some _ e) B hcode mem one hT hcl
      fun f c' H1 s' m => h f c' _ [u] _ H1 s' rfl (.inr ⟨_, rfl, Heap.get?_push_size _ rfl⟩) (fun T z => by cases z; exact ⟨I1.hok.fresh (Nat.le_refl _), fresh⟩) m))))
end
end Eng

namespace Eng
open PySem PySem.Spec L2
open PyProof.Rows hiding St

section
variable {X : Cx} {pins : List (Addr × Obj)} {σ : L2.St} {H J : Hp} {s s1 : Shared}
theorem lam_in {A : Around} {outer : List Env} {E : XK} {p : Arguments} {scope : Scope} {f c' : Addr} {h₁ : Heap} {tk : Nat} {m : Str → Option Value} (I : Inv X pins σ H s) (L : LamN X.N p X.env.scope scope) (Z : Env0 X.prog X.w X.K X.mg X.base A outer s1 J) (hd : A.handled = none)
    (un : Un (frs X.stack) [] H J s.heap s1.heap) (ns : h₁.Ns s1.heap.objs.size m) (kp : ∀ b o, s1.heap.get? b = some o → h₁.get? b = some o) :
    Inv (LamX.lamCx X A outer s1 J E scope f c') [] σ J { s1 with heap := h₁, toks := tk } := by
  have has := L.has I.ok
  let cells := cloFrom X.env.cells scope.names []
  have down : ∀ {y c}, cells.lookup y = some c → X.env.cells.lookup y = some c := fun {y c} e => by
    rcases cloFrom_mem (PySem.mem_of_lookup e) with z | ⟨z1, z2⟩
    · cases z
    · obtain ⟨d, hd⟩ := has _ z1 rfl
      have hd : X.env.cells.lookup y = some d := hd
      have : c = d := by rw [z2, hd] <;> rfl
      rw [this]; exact hd
  have up : ∀ {y}, scope.names.lookup y = some .free → ∃ c, cells.lookup y = some c := fun {y} q =>
    mem_lookup (cloFrom_has (cells := X.env.cells) (acc := []) (PySem.mem_of_lookup q))
  have cellK : ∀ {c : Addr} {v : Option Value}, H c = none → s.heap.IsCell c v → h₁.IsCell c v := fun {c v} n ⟨o, q, d⟩ => by
    obtain ⟨sl, z⟩ := un.any q n (by simp)
    exact ⟨_, kp _ _ z, d⟩
  have noA : ∀ b : Addr, b ∉ (LamX.lamCx X A outer s1 J E scope f c').ex := fun b z => by cases z
  have clash : ∀ {y}, X.env.scope.names.lookup y = some .local → (X.env.scope.names.lookup y = some .cell ∨ X.env.scope.names.lookup y = some .free) → False := fun a b => by
    rcases b with b | b <;> rw [a] at b <;> cases b
  have ok : (LamX.lamCx X A outer s1 J E scope f c').Ok := by
    refine ⟨Z.mod, L.kind, rfl, rfl, Nat.le_refl _, fun y z c e1 e2 => I.ok.inj y z c (down e1) (down e2), fun y q => ?_, fun y c z _ => (by cases z), fun _ => hd, Around.frames_deeper Z.frames, .inr ⟨rfl, rfl⟩, fun b z => absurd z (noA b), Z.bs, Z.bsz, fun b _ _ => noA b, fun b z => absurd z (noA b), Z.funs, Z.frf⟩
    have q : scope.names.lookup y = some .cell ∨ scope.names.lookup y = some .free := q
    rcases q with q | q
    · exact absurd rfl (L.nocell _ (PySem.mem_of_lookup q))
    · exact up q
  refine ⟨ok, rfl, Z.bare, Un.kept kp, ⟨_, ns, fun i y v e1 e2 e3 => ?_⟩, fun y c e => ?_, Z.hok.fresh (Nat.le_refl _), fun y c e => ?_, fun q z => (by cases z), Z.hok.kept kp, I.len⟩
  · have e3 : Vis scope y := e3
    rcases e3 with k | k | k
    · exact absurd (List.mem_of_getElem? e1) (L.own _ (PySem.mem_of_lookup k) rfl)
    · exact absurd rfl (L.nocell _ (PySem.mem_of_lookup k))
    · have fr := L.free _ (PySem.mem_of_lookup k) rfl
      obtain ⟨m0, _, hl⟩ := I.loc
      obtain ⟨u, r, q⟩ := hl i y v e1 e2 (fr.elim (fun z => .inr (.inl z)) fun z => .inr (.inr z))
      obtain ⟨c2, h2⟩ := up k
      refine ⟨u, r, .inr ⟨.inr k, c2, h2, ?_⟩⟩
      have d2 := down h2
      rcases q with ⟨z, _⟩ | ⟨_, c3, z1, z2⟩
      · exact (clash z fr).elim
      · rw [d2] at z1; cases z1
        exact cellK (I.freeC y _ d2) z2
  · obtain ⟨v, z⟩ := I.cell y c (down e)
    exact ⟨v, cellK (I.freeC y c (down e)) z⟩
  · obtain ⟨v, o, q, _⟩ := I.cell y c (down e)
    exact un.free c o q (I.freeC y c (down e)) (by simp)
/-- the def's context, entered at s -/
abbrev heardCx (X : Cx) (Ng : List Str) (qg : Str) (sg : Scope) (g : Addr) (cdg : Value) (s : Shared) (H : Hp) : Cx :=
  cxOf C8.CX0 X.prog X.w X.K X.mg X.base Ng qg sg g cdg X.A X.stack s H C8.E0
/-- the function's object lies in the heap, and no one has it -/
structure LamIn (X : Cx) (p : Arguments) (body : Expr) (scope : Scope) (H : Hp) (s : Shared) (f c' : Addr) : Prop where
  ex : ∃ dV doc pm ctv dv, s.heap.get? f = some (lamO X p body scope dV doc pm (.ref c') ctv) ∧ dv.length = p.args.length ∧ DefV s.heap dV dv ∧ ∀ T, dV = .ref T → H T = none ∧ T ∉ frs X.stack
  none : H f = none
  nofr : f ∉ frs X.stack
theorem ask_ok {Ng : List Str} {qg : Str} {sg : Scope} {g f c' : Addr} {cdg : Value} {p : Arguments} {body : Expr} {scope : Scope} {k i : Nat} {a : Str} {pn : List (Addr × Obj)} {xe : Value → Shared → Prop} {W : WX} {tb : XK → TE} {p1 p2 : Pos}
    (I : Inv X pins σ H s) (hp : lamPB p = true) (L : LamN X.N p X.env.scope scope) (O : LamIn X p body scope H s f c')
    (tk : Takes ((heardCx X Ng qg sg g cdg s H).tr pn xe) W) (room : Room (k + 1) (X.A.deeper (envOfC qg sg s.heap.objs.size g cdg))) (guards : X.A.guards = some [])
    (hb : ∀ (A : Around) (outer : List Env) (s : Shared) (H : Hp) (E : XK), A.guards = some [] → Room k (A.deeper (LamX.lamEnv X scope s.heap.objs.size f c')) → PE (LamX.lamCx X A outer s H E scope f c') body (tb E))
    (hN : Ng[i]? = some a) (hv : Vis sg a) (d1 : (a == ("__debug__" : Str)) = false) (d2 : (a == ("__classdict__" : Str)) = false) :
    PE ((heardCx X Ng qg sg g cdg s H).tr pn xe) (.Call (.Name a p1) [] [] p2)
      (fun τ J Q => τ[i]? = some (some (.ref f)) ∧ J c' = some (LamX.CodeO c' (X.env.qual ++ "<lambda>")) ∧ ∃ E : XK, (∀ cls d H', E cls d H' → W cls d τ H') ∧ tb E σ J Q) := by
  constructor
  rintro pins' s' τ J Q IZ ⟨ha, hc, E, le, ht⟩
  refine wpAny_Call_Name_kw (thn ((pe_var (pos := p1) (i := i) hN hv d1 d2).run pins' s' τ J (fun v J1 => v = .ref f ∧ J1 = J) IZ ⟨.ref f, ha, rfl, rfl⟩) ?_)
  rintro u s1 ⟨v, J1, I1, r1, rfl, rfl⟩
  obtain rfl : u = Value.ref f := r1
  obtain ⟨dV, doc, pm, ctv, dv, at_, hl, df, dfr⟩ := O.ex
  have stays : ∀ {b o}, s.heap.get? b = some o → H b = none → b ∉ frs X.stack → s1.heap.get? b = some o := fun {b o} e n nf => I1.base.keep b o e n nf (by intro z; cases z)
  have fo := stays at_ O.none O.nofr
  have df1 : DefV s1.heap dV dv := by
    rcases df with z | ⟨T, rfl, hT⟩
    · exact .inl z
    · obtain ⟨n1, n2⟩ := dfr T rfl
      exact .inr ⟨T, rfl, stays hT n1 n2⟩
  refine PySem.W.callWith_F0 ⟨_, _, _, _, fo⟩ ?_
  have un : Un (frs X.stack) [] H J1 s.heap s1.heap := I1.base
  obtain ⟨⟨oc, us, t, k1, k2, k3⟩, _, _⟩ := I1.hok c' _ hc
  let A1 := X.A.deeper (envOfC qg sg s.heap.objs.size g cdg)
  let O1 := envOfC qg sg s.heap.objs.size g cdg :: X.stack
  have runs : codeAny (model X.prog X.w) A1 (.call (.ref f) ⟨[], []⟩) (CR (L2.CX X.prog X.w) O1 X.prog X.w J1 s1 Q E) s1 := by
    refine PySem.W.kla_callFunE room.depth fo rfl L.co L.gen rfl ⟨c', oc, us, t, rfl, k1, k2, k3⟩ (lam_binds hp hl df1 _ _ _ _ ?_)
    refine wpAny_newFunctionEnv L.nocell (fun y hy => L.par _ (List.of_mem_zip hy).1) (fun h₁ ns sb => ⟨I1.nolimit.fresh _ sb, ?_⟩) L.kind
    have kp : ∀ b o, s1.heap.get? b = some o → h₁.get? b = some o := fun b o e => sb.extBut b o (Nat.ne_of_lt (Heap.lt_size e)) (Heap.get?_push_of_some _ e)
    have IL := lam_in (A := A1) (outer := O1) (E := E) (f := f) (c' := c') (tk := s1.toks + ((lamNs p).zip dv).length) I L I1.env0 room.hd un ns kp
    show codeAny _ _ (.expr body (LamX.lamEnv X scope s1.heap.objs.size f c')) _ _
    refine PySem.W.kla_codeExpr (wpAny_mono ((hb A1 O1 s1 J1 E guards (room.deeper _)).run [] _ _ J1 Q IL ht) ?_ fun e s2 z => z)
    rintro v s2 ⟨w', J2, I2, r2, q2⟩
    exact ⟨w', J2, I2.os, I2.bare, I2.base, I2.hok, r2, q2⟩
  refine wpAny_call (codeAny_mono runs fun r s2 z => ?_)
  cases r with
  | error e => exact tk e s2 (XE.of_call I1 le z)
  | ok fl =>
    cases fl with
    | ret u => exact I1.after z
    | next => exact z.elim
    | brk => exact z.elim
    | cont => exact z.elim
/-- the def that is given the lambda: TT is what it makes of the lambda's reading -/
def GivesG (X : Cx) (Ng : List Str) (x : Str) (sg : Scope) (g : Addr) (cdg : Value) (bg : List Stmt) (a : Str) (q : Str) (TT : (XK → Hp → VK → Prop) → Hp → VK → Prop) : Prop :=
  ∀ (f c' : Addr) (s : Shared) (H : Hp) (Q : VK) (tl : XK → Hp → VK → Prop),
    (∀ (W : WX) (pn : List (Addr × Obj)) (xe : Value → Shared → Prop) (p1 p2 : Pos), Takes ((heardCx X Ng x sg g cdg s H).tr pn xe) W →
      PE ((heardCx X Ng x sg g cdg s H).tr pn xe) (.Call (.Name a p1) [] [] p2) (fun τ J Q => τ[0]? = some (some (.ref f)) ∧ J c' = some (LamX.CodeO c' q) ∧ ∃ E : XK, (∀ cls d H', E cls d H' → W cls d τ H') ∧ tl E J Q)) →
    H c' = some (LamX.CodeO c' q) → TT tl H Q → Room 2 (X.A.deeper (envOfC x sg s.heap.objs.size g cdg)) →
    ∃ t, PSs (heardCx X Ng x sg g cdg s H).nox bg t ∧ t { nx := fun _ H' => Q .non H', rt := Q } (L2.start Ng [.ref f]) H
/-- what the making of a lambda asks of the def in which it stands -/
structure LamAt (X : Cx) (T : List (Addr × Str)) : Prop where
  ex : ∃ c P, LamX.TabB X.base X.mg c P ∧ X.env.code = .ref c ∧ (P, X.env.qual ++ "<lambda>") ∈ T ∧ ∀ p ∈ T, p.1 = P → p.2 = X.env.qual ++ "<lambda>"
/-- to a heap where tables and code objects were written, no more -/
structure Grown (T : List (Addr × Str)) (H H1 : Hp) : Prop where
  ext : LamX.ExtN H H1
  stay : ∀ a o, H a = some o → ∃ o', H1 a = some o'
  tabs : LamX.Tabs T H1
def tLamG (T : List (Addr × Str)) (TT : (XK → Hp → VK → Prop) → Hp → VK → Prop) (t : XK → TE) : TE := fun σ H Q => LamX.Tabs T H ∧ ∀ H1, Grown T H H1 → TT (fun E H' Q' => t E σ H' Q') H1 Q
theorem pe_heard {T : List (Addr × Str)} {TT : (XK → Hp → VK → Prop) → Hp → VK → Prop} {x a : Str} {g : Addr} {k : Nat} {pg : Arguments} {bg : List Stmt} {sg : Scope} {dV kV doc pm cdv ct oc : Value} {an od : Option Addr} {osl : Array (Option Value)} {Ng : List Str}
    {p : Arguments} {body : Expr} {scope : Scope} {t : XK → TE} {xpos lpos pos : Pos} (hg : Gl X x) (hm : X.mg x = some (.ref g)) (hk : PySem.W.keepIn X.K (.ref g) = true)
    (lk : X.K.lookup g = some ⟨oc, od, .func (PySem.W.fnOf x x pg bg sg dV kV doc pm an cdv ct), osl⟩) (hcg : PySem.W.codeIn X.K cdv x = true) (hb : L2.Binds X.K (PySem.W.fnOf x x pg bg sg dV kV doc pm an cdv ct) [a] []) (Sg : FnScope Ng [a] sg) (hN : Ng[0]? = some a) (hva : Vis sg a)
    (gives : GivesG X Ng x sg g cdv bg a (X.env.qual ++ "<lambda>") TT) (at_ : LamAt X T) (room : Room (k + 4) X.A) (guards : X.A.guards = some []) (hp : lamPB p = true) (L : LamN X.N p X.env.scope scope)
    (hbody : ∀ (A : Around) (outer : List Env) (s : Shared) (H : Hp) (E : XK) (f c' : Addr), A.guards = some [] → Room k (A.deeper (LamX.lamEnv X scope s.heap.objs.size f c')) → PE (LamX.lamCx X A outer s H E scope f c') body (t E))
    (d0 : (x == ("__debug__" : Str)) = false) (d1 : (a == ("__debug__" : Str)) = false) (d2 : (a == ("__classdict__" : Str)) = false) :
    PE X (.Call (.Name x xpos) [.Lambda p body scope lpos] [] pos) (tLamG T TT t) := by
  constructor
  rintro pins s σ H Q I ⟨hT, h⟩
  obtain ⟨c, P, tb, hcode, hmT, hu⟩ := at_.ex
  refine wpAny_Call_Name_kw (ld_glob I hg hm (PySem.W.callWith_K (h₀ := X.base) I.ok.mod.kin hk ?_ (by rfl) (by rfl)) d0)
  show wpAny _ _ (spliced ((false, eval (.Lambda p body scope lpos) X.env) :: backTo pos (starEach [] X.env))) _ _ s
  refine Calls.spliced_cons (lam_made I tb hcode hmT hu hT hp (closure_ok (L.has I.ok)) fun f c' dV dv s0 H1 s' hl df dfr M => Calls.spliced_nil ⟨M.inv.kIn, ?_⟩)
  have I1 := M.inv
  have O : LamIn X p body scope H1 s' f c' := by
    obtain ⟨doc, pm, ctv, hf⟩ := M.obj
    refine ⟨⟨dV, doc, pm, ctv, dv, hf, hl, ?_, fun T z => ?_⟩, M.none, M.nofr⟩
    · rcases df with z | ⟨T, rfl, hT⟩
      · exact .inl z
      · exact .inr ⟨T, rfl, (M.old T _ hT (dfr T rfl).1).1⟩
    · rcases df with ⟨rfl, _⟩ | ⟨T', rfl, hT⟩
      · cases z
      · cases z
        exact ⟨(M.old T _ hT (dfr T rfl).1).2, (dfr T rfl).2⟩
  have runs : codeAny (model X.prog X.w) X.A (.call (.ref g) ⟨[.ref f], []⟩) (CR C8.CX0 X.stack X.prog X.w H1 s' Q C8.E0) s' := by
    refine LamX.run_ofS (k := k + 3) (N := Ng) (ps := [a]) (us := [.ref f]) (vs := [.ref f]) lk hcg Sg room I1.env0 (hb s' [.ref f] I1.kIn rfl) (.cons rfl .nil) rfl fun hr' => ?_
    obtain ⟨t', z1, z2⟩ := gives f c' s' H1 Q (fun E H' Q' => t E σ H' Q') (fun W pn xe p1 p2 tk => ask_ok (i := 0) I1 hp L O tk (hr'.mono (by omega)) guards (fun A outer s H E hgd hr2 => hbody A outer s H E f c' hgd hr2) hN hva d1 d2) M.code (h H1 ⟨M.ext, M.stay, M.tabs⟩) (hr'.mono (by omega))
    exact ⟨t', z1.nox, z2⟩
  refine wpAny_call (codeAny_mono runs fun r s2 z => ?_)
  cases r with
  | error e => exact (show False from z).elim
  | ok fl =>
    cases fl with
    | ret u => exact I1.after z
    | next => exact z.elim
    | brk => exact z.elim
    | cont => exact z.elim
end
end Eng

namespace Eng
open PySem PySem.Spec L2
open PyProof.Rows hiding St

section
variable {G : Gs} {W : WX} {Av Av1 Av2 : Addr → Prop} {S S1 S2 : SS} {σ τ τ2 : L2.St} {H H1 H2 : Hp}
theorem Mu.nt {o : HO} (m : Mu o) : NT o := fun ps z => by subst z; exact m
theorem Post.none (st : StOk G Av S σ H) (c : CPost G Av [] [] H Av1 H1 []) : Post G Av S σ H Av1 S H1 :=
  CPost.post (as := []) (vs := []) (outs := []) st rfl List.nodup_nil c rfl
theorem Post.grown (st : StOk G Av S σ H) (g : Grown G.T H H1) : Post G Av S σ H Av S H1 :=
  Post.none st ⟨fun a o q _ n => g.ext a o q n, g.stay, fun a q => .inl q, fun a q => q, fun a q => let ⟨o, w, m⟩ := st.dom a q; ⟨o, g.ext a o w m.nt, m⟩, g.tabs, rfl⟩
theorem hs_get {n ic : Nat} {d : D} {i : Nat} {s : SV} (h : (hSlots n ic d)[i]? = some s) : (i = ic ∧ s = .sh d) ∨ s = .no := by
  rcases get_set_cases h with z | ⟨_, z⟩
  · exact .inl z
  · exact .inr (List.eq_of_mem_replicate (List.mem_of_getElem? z))
theorem hs_noroot {n ic : Nat} {d : D} {i : Nat} : ¬ Holds (hSlots n ic d) i := fun ⟨s, e, q, r⟩ => by
  rcases hs_get q with ⟨_, rfl⟩ | rfl <;> cases r
/-- the slots of the def that hears -/
theorem hs_ok {n ic : Nat} {d : D} {v : V} (dom : ∀ a, Av a → ∃ o, H a = some o ∧ Mu o) (tb : Tabs G H) (len : τ.length = n) (at_ : τ[ic]? = some (some v)) (r : Rep G Av H d v) : StOk G Av (hSlots n ic d) τ H := by
  refine ⟨?_, dom, tb, fun i e q => ?_, fun i s e q z => absurd ⟨s, e, q, z⟩ hs_noroot, fun i j a h1 => absurd h1 hs_noroot⟩
  · unfold hSlots
    rw [List.length_set, List.length_replicate, len]
  · rcases hs_get q with ⟨rfl, z⟩ | z
    · cases z; exact ⟨v, at_, r⟩
    · cases z
/-- what a def did that has no roots, seen from its caller -/
theorem SPost.idle {n ic : Nat} {d : D} {S' : SS} (st : StOk G Av S σ H) (P : SPost G Av (hSlots n ic d) τ H Av2 S' τ2 H2) : Post G Av S σ H Av2 S H2 := by
  have nr : ∀ a, ¬ Root (hSlots n ic d) τ a := fun a ⟨i, h, _⟩ => hs_noroot h.holds
  exact Post.none st ⟨fun a o q _ t => P.frame a o q (nr a) t, P.stay, P.sub, fun a q => P.held a q (nr a), P.st.dom, P.st.tb, rfl⟩
variable {u : TS} {b : SS → F} {n ic : Nat} {Q : VK}
/-- the tail's end is the call's end -/
theorem hear_end {d : D} {v : V} (st : StOk G Av S σ H) (P : Post G Av S σ H Av1 S1 H1) (len : τ.length = n) (at_ : τ[ic]? = some (some v)) (r : Rep G Av1 H1 d v) (h : RdE G W (hEnd (tailFO b (hSlots n ic d)) S1) Av S σ H Q) :
    tS G noW b { nx := fun _ H' => Q .non H', rt := Q } τ H1 := by
  refine ⟨Av1, _, hs_ok P.st.dom P.st.tb len at_ r, ?_⟩
  have fin : ∀ {fr : Bool} {y : D} {S' : SS} {Av2 τ2 w H2}, SPost G Av1 (hSlots n ic d) τ H1 Av2 S' τ2 H2 → RtOk G Av1 (hSlots n ic d) τ H1 Av2 S' τ2 H2 fr y w → EPost G Av S σ H (if fr then .fr y else .sh y) S1 w H2 := fun {fr y S' Av2 τ2 w H2} P2 r2 => by
    refine ⟨Av2, P.trans (P2.idle P.st), ?_⟩
    unfold RtOk at r2
    cases fr with
    | false => exact r2
    | true =>
      obtain ⟨p, rfl, k1, k2, _, k4, k5⟩ := r2
      refine ⟨p, rfl, k1, ?_, k4, k5⟩
      rcases k2 with ⟨i, hi, _⟩ | k2
      · exact absurd hi.holds hs_noroot
      · exact P.back_none k2
  unfold tailFO at h
  cases e : b (hSlots n ic d) with
  | nx S' => rw [e] at h; exact fun Av2 τ2 H2 P2 => h .non H2 (fin (fr := false) P2 rfl)
  | rt fr y S' => rw [e] at h; exact fun Av2 τ2 w H2 P2 r2 => h w H2 (fin P2 r2)
  | bk S' => rw [e] at h; exact h.elim
  | ct S' => rw [e] at h; exact h.elim
  | exc x S' => rw [e] at h; exact h.elim
  | bad => rw [e] at h; exact h.elim
end

/-! ### the def that hears -/
theorem set_at {α : Type} {l : List α} (i : Nat) {x : α} (h : i < l.length) : (l.set i x)[i]? = some x := List.getElem?_set_self h
theorem start_len {N : List Str} {v : V} (h : 1 ≤ N.length) : (L2.start N [v]).length = N.length := by
  unfold L2.start
  simp only [List.map_cons, List.map_nil, List.length_append, List.length_cons, List.length_nil, List.length_replicate]
  omega
/-- caught = None; try: ask() except C as error: caught = error; then the tail u -/
def TTh (K : PySem.W.Frag) (Ng : List Str) (CS : Value) (ic ie : Nat) (u : TS) : (XK → Hp → VK → Prop) → Hp → VK → Prop := fun tl H Q => ∀ f : Addr,
  tl (fun cls d H' => ∃ b, PySem.W.exmOne K cls CS = some b ∧ (b = true → ∀ a, H' a = none → u { nx := fun _ H2 => Q .non H2, rt := Q } (((((L2.start Ng [.ref f]).set ic (some .non)).set ie (some (.ref a))).set ic (some (.ref a))).set ie none) (upd H' a (XOg cls d a))) ∧ (b = false → False))
    H (fun _ H' => u { nx := fun _ H2 => Q .non H2, rt := Q } ((L2.start Ng [.ref f]).set ic (some .non)) H')
section
variable {X : Cx} {G : Gs} {W : WX}
theorem heard_gives {Ng : List Str} {x a q eC cn n : Str} {sg : Scope} {g : Addr} {CS cdg : Value} {ic ie : Nat} {j : Nat} {p0 p1 p2 p3 p4 p5 p6 p7 q1 q2 q3 q4 : Pos} {tail : List Stmt} {u : TS} (hge : sg.names.lookup eC = some .globalImplicit) (hme : X.mg eC = some CS) (hde : (eC == ("__debug__" : Str)) = false)
    (nd : Ng.Nodup) (hic : Ng[ic]? = some cn) (hie : Ng[ie]? = some n) (lc : sg.names.lookup cn = some .local) (le : sg.names.lookup n = some .local) (n0 : ic ≠ 0) (hne : ie ≠ ic) (d1 : (n == ("__debug__" : Str)) = false) (d2 : (n == ("__classdict__" : Str)) = false)
    (ht : ∀ (s : Shared) (H : Hp), Room 2 (X.A.deeper (envOfC x sg s.heap.objs.size g cdg)) → PSs (heardCx X Ng x sg g cdg s H).nox tail u) (h0 : ∀ f : Addr, (L2.start Ng [V.ref f])[0]? = some (some (V.ref f))) :
    GivesG X Ng x sg g cdg (.Assign [.Name cn p0] (.Constant .none j p1) p2 :: .Try [.Expr (.Call (.Name a p3) [] [] p4) p5] [.ExceptHandler (some (.Name eC p6)) (some n) [.Assign [.Name cn q1] (.Name n q2) q3] q4] [] [] p7 :: tail) a q (TTh X.K Ng CS ic ie u) := by
  intro f c' s H Q tl act hc h room
  let Y := (heardCx X Ng x sg g cdg s H).nox
  have asg : ∀ (Z : Cx), Z.N = Ng → Z.env = Y.env → PG Z (.Name cn p0) (gName ic) := fun Z e1 e2 => pg_name (by rw [e1]; exact nd) (by rw [e1]; exact hic) (.inl (by rw [e2]; exact lc)) (.inr (by rw [e2]; exact lc))
  refine ⟨_, pss_cons (ps_asg (X := Y) pe_non (asg _ rfl rfl)) (pss_cons (ps_try_T (X := Y) (c := CS) (i := ie) (Wout := noW)
      (tb := fun W D σ H => σ[0]? = some (some (.ref f)) ∧ H c' = some (LamX.CodeO c' q) ∧ ∃ Ech : XK, (∀ cls d H', Ech cls d H' → W cls d σ H') ∧ tl Ech H (fun _ H' => D.nx σ H'))
      (ts := tAsg (tVar ie) (gName ic)) rfl rfl rfl nd hie le ⟨hge, hde, .inl hme⟩ LamX.takes0 (fun W pn xe tk _ => pss_one ?_) fun a pn => pss_one ?_) (ht s H room)), ?_⟩
  · exact ps_expr (pos := p5) (act W pn xe p3 p4 tk)
  · exact ps_asg (pe_var (X := suiteT Y a pn) hie (.inl le) d1 d2) (pg_name (X := suiteT Y a pn) nd hic (.inl lc) (.inr lc))
  · refine ⟨?_, hc, _, ?_, h f⟩
    · show ((L2.start Ng [V.ref f]).set ic (some V.non))[0]? = _
      rw [set_ne (Ne.symm n0)]
      exact h0 f
    · rintro cls d H' ⟨b, e1, e2, e3⟩
      exact ⟨b, e1, fun hb a na => ⟨.ref a, set_at ie (by rw [List.length_set, start_len (Nat.lt_of_le_of_lt (Nat.zero_le _) (List.getElem?_eq_some_iff.mp hie).1)]; exact (List.getElem?_eq_some_iff.mp hie).1), e2 hb a na⟩, fun hb => (e3 hb).elim⟩
theorem tri_heard {K : PySem.W.Frag} {Ng : List Str} {CS : Value} {ic ie : Nat} {yes : List Nat} {b : SS → F} {p : KE} {σ : L2.St} {H : Hp} {Q : VK} (hy : ∀ c ∈ yes, PySem.W.exmOne K (.ref (G.c c)) CS = some true) (hic : ic < Ng.length) (hie : ie < Ng.length) (hne : ie ≠ ic)
    (h : tE G W (kHeard ⟨Ng.length, ic, yes, tailFO b⟩ p) σ H Q) : tLamG G.T (TTh K Ng CS ic ie (tS G noW b)) (fun E => tE G (fun cls d _ H => E cls d H) p) σ H Q := by
  obtain ⟨Av, S, st, h⟩ := h
  refine ⟨st.tb, fun H1 gr f => ⟨Av, S, (Post.grown st gr).st, ?_⟩⟩
  have P0 := Post.grown st gr
  have len : ∀ v, (L2.start Ng [v]).length = Ng.length := fun v => start_len (by omega)
  have h : RdE G W (match p S with
    | .ok _ S1 => hEnd (tailFO b (hSlots Ng.length ic .non)) S1
    | .exc e S1 => (match e with
      | .exo c ns ds => if c ∈ yes then hEnd (tailFO b (hSlots Ng.length ic (.exo c ns ds))) S1 else .bad
      | _ => .bad)
    | .bad => .bad) Av S σ H Q := h
  cases ep : p S with
  | bad => rw [ep] at h; exact h
  | ok rv S1 =>
    rw [ep] at h
    intro v H2 ⟨Av1, P1, _⟩
    exact hear_end (d := .non) st (P0.trans P1) (by rw [List.length_set, len]) (set_at ic (by rw [len]; exact hic)) (rfl : V.non = V.non) h
  | exc e S1 =>
    rw [ep] at h
    rintro cls d H2 ⟨Av1, P1, c, ns, ds, rfl, rfl, dx, vs, rfl, nd, hd, hl, hr⟩
    have h : RdE G W (if c ∈ yes then hEnd (tailFO b (hSlots Ng.length ic (.exo c ns ds))) S1 else .bad) Av S σ H Q := h
    split at h
    · rename_i hc
      refine ⟨true, hy c hc, fun _ a na => ?_, fun z => (nomatch z)⟩
      have st1 := P1.st
      have eE : Ext H2 (upd H2 a (XOg (.ref (G.c c)) (some dx) a)) := ext_upd na
      have Pe : Post G Av1 S1 σ H2 Av1 S1 (upd H2 a (XOg (.ref (G.c c)) (some dx) a)) := Post.ext st1 eE (fun b q => .inl q) (fun b q => let ⟨o, w, m⟩ := st1.dom b q; ⟨o, eE b o w, m⟩) fun b q => q
      have rp : Rep G Av1 (upd H2 a (XOg (.ref (G.c c)) (some dx) a)) (.exo c ns ds) (.ref a) := by
        refine ⟨a, dx, vs, rfl, fun z => ?_, nd, upd_same, eE _ _ hd, hl, Reps.mono (fun b o q _ _ => eE b o q) (fun b q => .inl q) ds hr⟩
        obtain ⟨o, w, _⟩ := st1.dom a z
        rw [na] at w; cases w
      refine hear_end st ((P0.trans P1).trans Pe) ?_ ?_ rp h
      · simp only [List.length_set, len]
      · rw [set_ne (Ne.symm hne)]
        exact set_at ic (by simp only [List.length_set, len]; exact hic)
    · exact h.elim
end
end Eng

namespace Eng
open PySem PySem.Spec L2
open PyProof.Rows hiding St

/-! ### isinstance of own classes; the fields of an exception -/
def tyNames : List String := ["NoneType", "bool", "int", "str", "list", "tuple", "dict"]
/-- what isinstance asks of a class of instances -/
structure PlainK (K : PySem.W.Frag) (C : Addr) : Prop where
  cl : Cls K C
  ha : PySem.W.findIn K (.ref C) "__class__" = some (some (.builtin "object.__class__"))
  hn : PySem.W.specialIn K (.builtin "object.__class__") "__get__" = some (some (.builtin "getset_descriptor.__get__"))
  ht : PySem.W.takesIn K (.builtin "object.__class__") = some true
  hm : PySem.W.mroIn K C (.type "object") = some true
/-- of a class of exceptions -/
structure ExcK (K : PySem.W.Frag) (C : Addr) : Prop where
  xf : XfC K C
  hc : (PySem.W.clsIn K C).isSome = true
  ha : PySem.W.findIn K (.ref C) "__class__" = some (some (.builtin "object.__class__"))
  hn : PySem.W.specialIn K (.builtin "object.__class__") "__get__" = some (some (.builtin "getset_descriptor.__get__"))
  ht : PySem.W.takesIn K (.builtin "object.__class__") = some true
  hm : PySem.W.mroIn K C (.type "object") = some true
structure OtyOk (K : PySem.W.Frag) (mg : Str → Option Value) (G : Gs) (o : OTy) : Prop where
  at_ : mg o.x = some (.ref (G.c o.c))
  bt : ∀ n ∈ tyNames, PySem.W.kitOne K (.type n) (.ref (G.c o.c)) = some false
  yo : ∀ c ∈ o.yo, PySem.W.kitOne K (.ref (G.c c)) (.ref (G.c o.c)) = some true ∧ PlainK K (G.c c)
  no : ∀ c ∈ o.no, PySem.W.kitOne K (.ref (G.c c)) (.ref (G.c o.c)) = some false ∧ PlainK K (G.c c)
  ye : ∀ c ∈ o.ye, PySem.W.kitOne K (.ref (G.c c)) (.ref (G.c o.c)) = some true ∧ ExcK K (G.c c)
  ne : ∀ c ∈ o.ne, PySem.W.kitOne K (.ref (G.c c)) (.ref (G.c o.c)) = some false ∧ ExcK K (G.c c)
inductive TyO (K : PySem.W.Frag) (H : Hp) : V → Value → Prop where
  | x {v : V} {t : Value} (h : TyX K H v t) : TyO K H v t
  | exo {a C dx : Addr} {fs : List (Str × V)} (e : H a = some (XO C dx a)) (d : H dx = some (.xd fs)) (k : ExcK K C) : TyO K H (.ref a) (.ref C)
section
variable {X : Cx} {pins : List (Addr × Obj)} {σ : L2.St} {H : Hp} {s : Shared}
theorem exo_inst {a C dx : Addr} {fs : List (Str × V)} (I : Inv X pins σ H s) (e : H a = some (XO C dx a)) (d : H dx = some (.xd fs)) : ∃ (oe od : Obj) (mA : Str → Option Value), PySem.W.InstAt s.heap a oe C (some od) ∧ (∀ f, RelO (fs.lookup f) (mA f)) ∧ ∀ n, PySem.W.lookIn n od = some (mA n) := by
  obtain ⟨⟨oe, vs, h1, h2, h3, h4⟩, _⟩ := I.hok a _ e
  obtain ⟨mA, ns, r⟩ := (show ObjOk X.prog X.w H s.heap dx (.xd fs) from I.hok dx _ d)
  obtain ⟨od, ho, hl⟩ := lookIn_ns ns
  exact ⟨oe, od, mA, ⟨h1, h2, by unfold PySem.W.notCls; rw [h4] <;> rfl, by rw [h3]; exact ho⟩, r, hl⟩
theorem kit_ofO {v : V} {u t : Value} (I : Inv X pins σ H s) (rx : RelV v u) (ty : TyO X.K H v t) : ∃ P : Heap → Prop, PySem.W.KitX X.K u t P ∧ P s.heap ∧ u ≠ .builtin "__main__.__loader__#opaque" := by
  cases ty with
  | x h => exact kit_of I rx h
  | @exo a C dx fs e d k =>
    cases (show u = Value.ref a from rx)
    obtain ⟨oe, od, mA, J, _⟩ := exo_inst I e d
    exact ⟨_, PySem.W.kitx_exc k.hc k.xf.ga k.xf.gg k.xf.exC k.ha k.hn k.ht k.hm, J, fun z => nomatch z⟩
def rIsO (K : PySem.W.Frag) : List V → Hp → VK → Prop := fun xs H Q => ∃ (v c : V) (t u : Value) (b : Bool), xs = [v, c] ∧ ClsV c u ∧ TyO K H v t ∧ PySem.W.kitOne K t u = some b ∧ Q (.bl b) H
def rIsOT (K : PySem.W.Frag) : List V → Hp → VK → Prop := fun xs H Q => ∃ (v : V) (tp : Addr) (cs : List V) (t : Value) (us : List Value) (b : Bool), xs = [v, .ref tp] ∧ H tp = some (.tup cs) ∧ Paired ClsV cs us ∧ TyO K H v t ∧ PySem.W.kitAny K t us = some b ∧ Q (.bl b) H
theorem call_isO : CallR X (.builtin "isinstance") (rIsO X.K) := by
  rintro pins s σ H xs us Q I r ⟨v, c, t, u, b, rfl, k, ty, e, q⟩
  obtain ⟨u1, u2, rfl, r1, r2⟩ := vals2 r
  cases k.eq r2
  obtain ⟨P, Z, p, n⟩ := kit_ofO I r1 ty
  exact PySem.W.kia_one Z I.kIn p e n fun tk => ⟨.bl b, H, I.tok tk, rfl, q⟩
theorem call_isOT : CallR X (.builtin "isinstance") (rIsOT X.K) := by
  rintro pins s σ H xs us Q I r ⟨v, tp, cs, t, ws, b, rfl, hT, k, ty, e, q⟩
  obtain ⟨u1, u2, rfl, r1, r2⟩ := vals2 r
  cases (show u2 = Value.ref tp from r2)
  obtain ⟨P, Z, p, n⟩ := kit_ofO I r1 ty
  obtain ⟨_, its, rv, ⟨oc, od, dt, sl⟩, h1, h2, m, h3⟩ := (show ObjOk X.prog X.w H s.heap tp (.tup cs) from I.hok tp _ hT)
  cases ClsV.all k rv
  simp only at h2 h3
  subst h2 h3
  exact PySem.W.kia_tup Z I.kIn p h1 e n fun tk => ⟨.bl b, H, I.tok tk, rfl, q⟩
end
section
variable {X : Cx} {G : Gs} {W : WX} {a : Expr} {p : KE} {pos : Pos} {es : List Expr}
theorem isO_kit {Av : Addr → Prop} {H : Hp} {d : Eng.D} {v : V} {o : OTy} {b : Bool} (ok : OtyOk X.K X.mg G o) (vd : Vx G Av H d v) (h : isO d o = some b) : ∃ t, TyO X.K H v t ∧ PySem.W.kitOne X.K t (.ref (G.c o.c)) = some b ∧ (∀ n, tyD d = some n → t = .type n) ∧ (∀ c ns ds, d = .obj c ns ds ∨ d = .exo c ns ds → t = .ref (G.c c)) := by
  have two_of : ∀ {ys ns c}, two ys ns c = some b → (c ∈ ys ∧ b = true) ∨ (c ∈ ns ∧ b = false) := fun {ys ns c} e => by
    unfold two at e
    split at e
    · cases e; exact .inl ⟨by assumption, rfl⟩
    · split at e
      · cases e; exact .inr ⟨by assumption, rfl⟩
      · cases e
  have bt : ∀ {n}, tyD d = some n → n ∈ tyNames → b = false → (∀ c ns ds, ¬ (d = .obj c ns ds ∨ d = .exo c ns ds)) → _ := fun {n} e hn hb no => (⟨.type n, .x (vx_ty vd e), by rw [hb]; exact ok.bt n hn, fun m q => (by rw [e] at q; cases q; rfl), fun c ns ds z => (no c ns ds z).elim⟩ : ∃ t, TyO X.K H v t ∧ PySem.W.kitOne X.K t (.ref (G.c o.c)) = some b ∧ (∀ n, tyD d = some n → t = .type n) ∧ (∀ c ns ds, d = .obj c ns ds ∨ d = .exo c ns ds → t = .ref (G.c c)))
  cases d with
  | obj c ns ds =>
    obtain ⟨q, dx, vs, rfl, g1, g2, g3⟩ := vd.1
    have fin : PySem.W.kitOne X.K (.ref (G.c c)) (.ref (G.c o.c)) = some b ∧ PlainK X.K (G.c c) := by
      rcases two_of h with ⟨m, rfl⟩ | ⟨m, rfl⟩
      · exact ok.yo c m
      · exact ok.no c m
    obtain ⟨k1, k2⟩ := fin
    exact ⟨_, .x (.base (.ins g1 k2.cl k2.ha k2.hn k2.ht k2.hm)), k1, fun n z => (by cases z), fun c' ns' ds' z => by rcases z with z | z <;> cases z; rfl⟩
  | exo c ns ds =>
    obtain ⟨q, dx, vs, rfl, _, _, g1, g2, g3, g4⟩ := vd.1
    have fin : PySem.W.kitOne X.K (.ref (G.c c)) (.ref (G.c o.c)) = some b ∧ ExcK X.K (G.c c) := by
      rcases two_of h with ⟨m, rfl⟩ | ⟨m, rfl⟩
      · exact ok.ye c m
      · exact ok.ne c m
    obtain ⟨k1, k2⟩ := fin
    exact ⟨_, .exo g1 g2 k2, k1, fun n z => (by cases z), fun c' ns' ds' z => by rcases z with z | z <;> cases z; rfl⟩
  | scr _ => cases h
  | non => cases h; exact bt rfl (by decide) rfl fun c ns ds z => by rcases z with z | z <;> cases z
  | bl _ => cases h; exact bt rfl (by decide) rfl fun c ns ds z => by rcases z with z | z <;> cases z
  | int _ => cases h; exact bt rfl (by decide) rfl fun c ns ds z => by rcases z with z | z <;> cases z
  | str _ => cases h; exact bt rfl (by decide) rfl fun c ns ds z => by rcases z with z | z <;> cases z
  | lst _ => cases h; exact bt rfl (by decide) rfl fun c ns ds z => by rcases z with z | z <;> cases z
  | tup _ => cases h; exact bt rfl (by decide) rfl fun c ns ds z => by rcases z with z | z <;> cases z
  | dic _ _ => cases h; exact bt rfl (by decide) rfl fun c ns ds z => by rcases z with z | z <;> cases z
theorem s_isc1 {o : OTy} {pn pt : Pos} (ok : OtyOk X.K X.mg G o) (hg : Gl X "isinstance") (hm : X.mg "isinstance" = none) (hgt : Gl X o.x) (hd : (o.x == ("__debug__" : Str)) = false) (ha : PE X a (tE G W p))
    (hs1 : starEach [a, .Name o.x pt] X.env = (false, eval a X.env) :: starEach [.Name o.x pt] X.env) (hpl : (backTo pos (starEach [.Name o.x pt] X.env)).any (·.1) = false) :
    PE X (.Call (.Name "isinstance" pn) [a, .Name o.x pt] [] pos) (tE G W (kUn (isOs [o]) p)) :=
  PE_imp (pe_callB call_isO hg hm (by decide +kernel) (pa_cons ha (pa_cons (pe_glob (v := .ref (G.c o.c)) hgt ok.at_ rfl hd) pa_nil rfl) hs1) (by decide +kernel) (by decide +kernel) hs1 hpl) fun σ H Q ⟨Av, S, st, h⟩ =>
    tE_bind st h fun r S1 v H1 P1 h1 => by
      obtain ⟨Av1, P1, v1⟩ := P1.vok st
      obtain ⟨ro, e, h1⟩ := prim_some (h1.trans P1)
      obtain ⟨d, e1, e⟩ := Option.bind_eq_some_iff.mp e
      have vd := v1.vx P1.st e1
      have e : (match isO d o with | some true => some (bo true) | some false => some (bo false) | none => none) = some ro := e
      cases ei : isO d o with
      | none => rw [ei] at e; cases e
      | some r =>
        obtain ⟨t, k1, k2, _⟩ := isO_kit ok vd ei
        have er : ro = bo r := by rw [ei] at e; cases r <;> (cases e; rfl)
        subst er
        exact ⟨v, .ref (G.c o.c), t, _, r, rfl, .own _, k1, k2, h1 (.bl r) H1 ⟨Av1, Post.refl P1.st, (rfl : V.bl r = V.bl r)⟩⟩
/-- the classes as values -/
def tOts (G : Gs) (os : List OTy) : TA := fun σ H Q => Q (os.map fun o => V.ref (G.c o.c)) H
theorem ots_paired : ∀ os : List OTy, Paired ClsV (os.map fun o => V.ref (G.c o.c)) (os.map fun o => Value.ref (G.c o.c))
  | [] => .nil
  | o :: os => .cons (.own _) (ots_paired os)
theorem isOs_kit {Av : Addr → Prop} {H : Hp} {d : Eng.D} {v : V} (vd : Vx G Av H d v) : ∀ {os : List OTy} {ro : RO}, (∀ o ∈ os, OtyOk X.K X.mg G o) → os ≠ [] → isOs os d = some ro → ∃ t b, ro = bo b ∧ TyO X.K H v t ∧ PySem.W.kitAny X.K t (os.map fun o => Value.ref (G.c o.c)) = some b ∧ (∀ n, tyD d = some n → t = .type n) ∧ (∀ c ns ds, d = .obj c ns ds ∨ d = .exo c ns ds → t = .ref (G.c c))
  | [], _, _, n, _ => absurd rfl n
  | o :: os, ro, ok, _, h => by
    have h : (match isO d o with | some true => some (bo true) | some false => isOs os d | none => none) = some ro := h
    cases ei : isO d o with
    | none => rw [ei] at h; cases h
    | some r =>
      obtain ⟨t, k1, k2, k3, k4⟩ := isO_kit (ok o (.head _)) vd ei
      rw [ei] at h
      cases r with
      | true => cases h; exact ⟨t, true, rfl, k1, kitAny_cons k2 (fun z => nomatch z) fun _ => rfl, k3, k4⟩
      | false =>
        cases os with
        | nil => cases h; exact ⟨t, false, rfl, k1, kitAny_cons k2 (fun _ => rfl) fun z => (nomatch z), k3, k4⟩
        | cons o2 os =>
          obtain ⟨t', b, rfl, j1, j2, j3, j4⟩ := isOs_kit vd (fun o m => ok o (.tail _ m)) (by simp) h
          have : t' = t := by
            cases d with
            | scr _ => cases ei
            | obj c ns ds => rw [j4 c ns ds (.inl rfl), k4 c ns ds (.inl rfl)]
            | exo c ns ds => rw [j4 c ns ds (.inr rfl), k4 c ns ds (.inr rfl)]
            | _ => rw [j3 _ rfl, k3 _ rfl]
          subst this
          exact ⟨_, b, rfl, k1, kitAny_cons k2 (fun _ => j2) fun z => (nomatch z), k3, k4⟩
theorem s_iscT {o : OTy} {os : List OTy} {pn pt : Pos} {kt : Nat} (ok : ∀ q ∈ o :: os, OtyOk X.K X.mg G q) (hl : (o :: os).length ≤ 9) (hg : Gl X "isinstance") (hm : X.mg "isinstance" = none) (ht' : PA X es (tOts G (o :: os))) (ha : PE X a (tE G W p))
    (hs1 : starEach [a, .Tuple es kt pt] X.env = (false, eval a X.env) :: starEach [.Tuple es kt pt] X.env) :
    PE X (.Call (.Name "isinstance" pn) [a, .Tuple es kt pt] [] pos) (tE G W (kUn (isOs (o :: os)) p)) :=
  PE_imp (pe_callB call_isOT hg hm (by decide +kernel) (pa_cons ha (pa_cons (pe_tup ht') pa_nil rfl) hs1) (by decide +kernel) (by decide +kernel) hs1 rfl) fun σ H Q ⟨Av, S, st, h⟩ =>
    tE_bind st h fun r S1 v H1 P1 h1 => by
      obtain ⟨Av1, P1, v1⟩ := P1.vok st
      obtain ⟨ro, e, h1⟩ := prim_some (h1.trans P1)
      obtain ⟨d, e1, e⟩ := Option.bind_eq_some_iff.mp e
      refine ⟨by rw [List.length_map, sizeLine_eq]; omega, fun T hT => ?_⟩
      have PH : Post G Av1 S1 σ H1 Av1 S1 (upd H1 T (.tup ((o :: os).map fun o => V.ref (G.c o.c)))) := Post.ext P1.st (ext_upd hT) (fun a q => .inl q) (fun a q => let ⟨o, w, m⟩ := P1.st.dom a q; ⟨o, ext_upd hT a o w, m⟩) fun a q => q
      obtain ⟨t, b, rfl, k1, k2, _⟩ := isOs_kit ((v1.on P1.st PH).vx PH.st e1) ok (by simp) e
      exact ⟨v, T, _, _, _, b, rfl, upd_same, ots_paired _, k1, k2, h1 (.bl b) _ ⟨Av1, PH, (rfl : V.bl b = V.bl b)⟩⟩
/-- e.f, e an exception of an own class -/
def tXv (K : PySem.W.Frag) (f : Str) (te : TE) : TE := fun σ H Q => te σ H fun x H1 => ∃ a C dx fs v, x = .ref a ∧ H1 a = some (XO C dx a) ∧ H1 dx = some (.xd fs) ∧ XfC K C ∧ PySem.W.findIn K (.ref C) f = some none ∧ fs.lookup f = some v ∧ Q v H1
theorem pe_xv {f : Str} {te : TE} (he : PE X a te) (hb : attributeBase a f X.env (eval a X.env) = eval a X.env) : PE X (.Attribute a f pos) (tXv X.K f te) := by
  refine ⟨fun pins s σ H Q I h => attr_of hb (thn (he.run pins s σ H _ I h) ?_)⟩
  rintro u s1 ⟨x, H1, I1, rx, b, C, dx, fs, v, rfl, e, d, T, no, l, q⟩
  obtain rfl : u = Value.ref b := rx
  obtain ⟨oe, od, mA, J, hr, hl⟩ := exo_inst I1 e d
  obtain ⟨u, hu, ru⟩ := RelO.some_of (v := v) (o := mA f) (by rw [← l]; exact hr f)
  exact HandSPX.exc_get I1.kIn J T.ga T.gg T.exC (PySem.W.findObj_own T.hdC no rfl (by rw [hl, hu])) (handed_of ru) ⟨v, H1, I1.tok _, ru, q⟩
theorem s_fldX {f : Str} {cs : List Nat} (hc : ∀ c ∈ cs, XfC X.K (G.c c) ∧ PySem.W.findIn X.K (.ref (G.c c)) f = some none) (ha : PE X a (tE G W p)) (hb : attributeBase a f X.env (eval a X.env) = eval a X.env) : PE X (.Attribute a f pos) (tE G W (kUn (fldX cs f) p)) :=
  PE_imp (pe_xv ha hb) fun σ H Q ⟨Av, S, st, h⟩ =>
    tE_bind st h fun r S1 v H1 P0 h0 => by
      obtain ⟨Av1, P1, v1⟩ := P0.vok st
      obtain ⟨ro, e, h1⟩ := prim_some (h0.trans P1)
      obtain ⟨d, e1, e⟩ := Option.bind_eq_some_iff.mp e
      have vd := v1.vx P1.st e1
      clear h0 P0 v1
      cases d with
      | exo c ns ds =>
        have e : (if c ∈ cs ∧ ns.length = ds.length then ((ns.zip ds).lookup f).map RO.sh else none) = some ro := e
        split at e
        · rename_i hz
          obtain ⟨d', e2, rfl⟩ := Option.map_eq_some_iff.mp e
          obtain ⟨q, dx, vs, rfl, _, _, g1, g2, _, g3⟩ := vd.1
          obtain ⟨u, k1, k2⟩ := zip_get g3 e2
          exact ⟨q, _, dx, _, u, rfl, g1, g2, (hc c hz.1).1, (hc c hz.1).2, k1, h1 u H1 ⟨Av1, Post.refl P1.st, k2⟩⟩
        · cases e
      | _ => cases e
end
end Eng

namespace Eng
open PySem PySem.Spec L2
open PyProof.Rows hiding St

/-! ### a tree of the text is a core tree -/
def isStar : Expr → Bool
  | .Starred _ _ => true
  | _ => false
def noStars (es : List Expr) : Bool := es.all fun e => !isStar e
def plainT : Expr → Bool
  | .UnaryOp .Not _ _ => false
  | .BoolOp _ _ _ => false
  | .IfExp _ _ _ _ => false
  | .Compare _ _ _ _ => false
  | _ => true
def noComp : Expr → Bool
  | .ListComp _ _ _ _ => false
  | .SetComp _ _ _ _ => false
  | .DictComp _ _ _ _ _ => false
  | _ => true
def isSetE : Expr → Bool
  | .Set _ _ _ => true
  | _ => false
def isSliceE : Expr → Bool
  | .Slice _ _ _ _ => true
  | _ => false
def isTupE : Expr → Bool
  | .Tuple _ _ _ => true
  | _ => false
def isCallE : Expr → Bool
  | .Call _ _ _ _ => true
  | _ => false
def CL.isNil : CL → Bool
  | .nil => true
  | _ => false
def CI.isRng : CI → Bool
  | .rng1 _ => true
  | .rng2 _ _ => true
  | _ => false
/-- the target is to be written as a tuple -/
def CI.needT : CI → Bool
  | .enum _ => true
  | .zip _ _ => true
  | _ => false
section
variable (sc : Scope) (N L : List Str)
def varC (i : Nat) (x : Str) : Bool := decide (N[i]? = some x) && (match sc.names.lookup x with
  | some .local => true
  | some .cell => true
  | some .free => true
  | _ => false) && !(x == ("__debug__" : Str)) && !(x == ("__classdict__" : Str))
def glC (x : Str) : Bool := decide (sc.names.lookup x = some .globalImplicit)
def asgC (i : Nat) (x : Str) : Bool := decide (N[i]? = some x) && (match sc.names.lookup x with
  | some .local => true
  | some .cell => L.contains x
  | _ => false)
def tyC (t : Ty) : Expr → Bool
  | .Name x _ => decide (x = Str.ofString t.nm) && glC sc x && t.ok
  | _ => false
def tysC : List Ty → List Expr → Bool
  | [], [] => true
  | t :: ts, e :: es => tyC sc t e && tysC ts es
  | _, _ => false
def otyC (o : OTy) : Expr → Bool
  | .Name x _ => decide (x = o.x) && glC sc x && !(x == ("__debug__" : Str))
  | _ => false
def otysC : List OTy → List Expr → Bool
  | [], [] => true
  | o :: os, e :: es => otyC sc o e && otysC os es
  | _, _ => false
def chkT : Tg → Expr → Bool
  | .nm i, .Name x _ => asgC sc N L i x
  | .tup l, .Tuple es _ _ => chkTs l es
  | _, _ => false
where chkTs : Tg → List Expr → Bool
  | .nil, [] => true
  | .cons a b, e :: es => chkT a e && chkTs b es
  | _, _ => false
end
def cellsOf (scope : Scope) : List Str := (scope.names.filter fun y => decide (y.2 = .cell) && decide (scope.names.lookup y.1 = some .cell)).map (·.1)
def ownP (N : List Str) (own : List Nat) : List (Str × Nat) := own.map fun i => ((N[i]?).getD (Str.ofString ""), i)
def memAll (l own : List Nat) : Bool := l.all fun j => own.contains j
mutual
def chk (sc : Scope) (N L : List Str) : CE → Expr → Bool
  | .non, E => match E with
    | .Constant .none _ _ => true
    | _ => false
  | .bl b, E => match E with
    | .Constant (.bool c) _ _ => decide (b = c)
    | _ => false
  | .int i, E => match E with
    | .Constant (.int j) _ _ => decide (i = j)
    | _ => false
  | .str x, E => match E with
    | .Constant (.str y) _ _ => decide (x = y)
    | _ => false
  | .var i, E => match E with
    | .Name x _ => varC sc N i x
    | _ => false
  | .glob x d, E => match E with
    | .Name y _ => decide (x = y) && glC sc x && !(x == ("__debug__" : Str))
    | _ => false
  | .bin op a b, E => match E with
    | .BinOp l o r _ => decide (op = o) && chk sc N L a l && chk sc N L b r
    | _ => false
  | .neg a, E => match E with
    | .UnaryOp .USub e _ => chk sc N L a e
    | _ => false
  | .cmp op a b, E => match E with
    | .Compare l [o] [r] _ => decide (op = o) && !isSetE r && chk sc N L a l && chk sc N L b r
    | _ => false
  | .chain op op' a b c, E => match E with
    | .Compare l [o, o'] [r, r'] _ => decide (op = o) && decide (op' = o') && !isSetE r && !isSetE r' && chk sc N L a l && chk sc N L b r && chk sc N L c r'
    | _ => false
  | .not a, E => match E with
    | .UnaryOp .Not e _ => chk sc N L a e
    | _ => false
  | .and_ l, E => match E with
    | .BoolOp .And es _ => !es.isEmpty && chkL sc N L l es
    | _ => false
  | .or_ l, E => match E with
    | .BoolOp .Or es _ => !es.isEmpty && chkL sc N L l es
    | _ => false
  | .ite c a b, E => match E with
    | .IfExp c' a' b' _ => chk sc N L c c' && chk sc N L a a' && chk sc N L b b'
    | _ => false
  | .tup l, E => match E with
    | .Tuple es _ _ => chkL sc N L l es
    | _ => false
  | .lst l, E => match E with
    | .List es _ => chkL sc N L l es
    | _ => false
  | .dict0 _, E => match E with
    | .Dict [] [] _ => true
    | _ => false
  | .dic1 a b, E => match E with
    | .Dict [some x] [y] _ => chk sc N L a x && chk sc N L b y
    | _ => false
  | .lset a, E => match E with
    | .Call (.Name x _) [.Call (.Name y _) [e] [] _] [] _ => decide (x = Str.ofString "len") && decide (y = Str.ofString "set") && glC sc x && glC sc y && !isStar e && chk sc N L a e
    | _ => false
  | .lrg tp it, E => match E with
    | .Call (.Name x _) [R] [] _ => decide (x = if tp then Str.ofString "tuple" else Str.ofString "list") && glC sc x && it.isRng && chkI sc N L it R
    | _ => false
  | .sub a b, E => match E with
    | .Subscript l r _ => !isSliceE r && chk sc N L a l && chk sc N L b r
    | _ => false
  | .noe, _ => false
  | .slc a lo hi, E => match E with
    | .Subscript l (.Slice lo' hi' none _) _ => chk sc N L a l && (match lo' with
      | none => lo.isNoe
      | some e => !lo.isNoe && chk sc N L lo e) && (match hi' with
      | none => hi.isNoe
      | some e => !hi.isNoe && chk sc N L hi e)
    | _ => false
  | .rev a, E => match E with
    | .Subscript l (.Slice none none (some (.UnaryOp .USub (.Constant (.int 1) _ _) _)) _) _ => chk sc N L a l
    | _ => false
  | .fld a f cs, E => match E with
    | .Attribute e f' _ => decide (f = f') && !isCallE e && chk sc N L a e
    | _ => false
  | .bi b l, E => match E with
    | .Call (.Name x _) (e :: es) [] _ => decide (x = Str.ofString b.nm) && glC sc x && noStars (e :: es) && chkL sc N L l (e :: es)
    | _ => false
  | .bm _ _ _, _ => false
  | .mm m i l, E => match E with
    | .Call (.Attribute (.Name x _) f ap) es [] cp => decide (f = Str.ofString m.nm) && m.ok && varC sc N i x && (ap.endLine == cp.line) && noStars es && decide (es.length < 29) && (match es with
      | [] => l.isNil
      | e :: es => chkL sc N L l (e :: es))
    | _ => false
  | .isi a ts, E => match E with
    | .Call (.Name x _) [e, t] [] _ => decide (x = Str.ofString "isinstance") && glC sc x && chk sc N L a e && (match t with
      | .Tuple es _ _ => !ts.isEmpty && decide (ts.length ≤ 9) && tysC sc ts es
      | .Name y p => tysC sc ts [.Name y p]
      | _ => false)
    | _ => false
  | .call x sg l, E => match E with
    | .Call (.Name y _) es [] _ => decide (x = y) && glC sc x && !(x == ("__debug__" : Str)) && noStars es && (match es with
      | [] => l.isNil && sg.md.isEmpty
      | e :: es => chkL sc N L l (e :: es))
    | _ => false
  | .callk x ps sg l ks kl, E => match E with
    | .Call (.Name y _) es kws _ => decide (x = y) && glC sc x && !(x == ("__debug__" : Str)) && noStars es && decide (kws.map (·.arg) = ks.map some) && chkK sc N L kl kws && (match es with
      | [] => l.isNil
      | e :: es => chkL sc N L l (e :: es))
    | _ => false
  | .isc a os, E => match E with
    | .Call (.Name x _) [e, t] [] _ => decide (x = Str.ofString "isinstance") && glC sc x && !isStar e && chk sc N L a e && (match t with
      | .Tuple es _ _ => !os.isEmpty && decide (os.length ≤ 9) && otysC sc os es
      | .Name y p => otysC sc os [.Name y p]
      | _ => false)
    | _ => false
  | .fldx a f cs, E => match E with
    | .Attribute e f' _ => decide (f = f') && !isCallE e && chk sc N L a e
    | _ => false
  | .heard x h p, E => match E with
    | .Call (.Name y _) [.Lambda pr body scope _] [] _ => decide (x = y) && glC sc x && !(x == ("__debug__" : Str)) && lamPB pr && lamNB N pr sc scope && chk scope N [] p body
    | _ => false
  | .meth _ _ _ _ _, _ => false
  | .mk _ _ _ _, _ => false
  | .comp elt tg it ifs own, E => match E with
    | .ListComp e' [⟨tgE, iter, ifsE, z⟩] scope _ => decide (z = 0) && chkI sc N L it iter && blkC N sc scope (ownP N own) && chkT (relS scope sc) N (cellsOf scope) tg tgE && memAll tg.slots own && decide (ifsE.length ≤ 1) && noStars ifsE &&
        chkL (relS scope sc) N (cellsOf scope) ifs ifsE && chk (relS scope sc) N (cellsOf scope) elt e' && (!it.needT || isTupE tgE)
    | _ => false
def chkL (sc : Scope) (N L : List Str) : CL → List Expr → Bool
  | .nil, es => es.isEmpty
  | .cons e l, es => match es with
    | E :: es => !isStar E && chk sc N L e E && chkL sc N L l es
    | [] => false
  | .star e l, es => match es with
    | .Starred E _ :: es => chk sc N L e E && chkL sc N L l es
    | _ => false
def chkK (sc : Scope) (N L : List Str) : CL → List Keyword → Bool
  | .nil, kws => kws.isEmpty
  | .cons e l, kws => match kws with
    | k :: kws => chk sc N L e k.value && chkK sc N L l kws
    | [] => false
  | .star _ _, _ => false
def chkI (sc : Scope) (N L : List Str) : CI → Expr → Bool
  | .val e, E => !isSetE E && chk sc N L e E
  | .rng1 a, E => match E with
    | .Call (.Name x _) [e] [] _ => decide (x = Str.ofString "range") && glC sc x && !isStar e && chk sc N L a e
    | _ => false
  | .rng2 a b, E => match E with
    | .Call (.Name x _) [e, e'] [] _ => decide (x = Str.ofString "range") && glC sc x && !isStar e && !isStar e' && chk sc N L a e && chk sc N L b e'
    | _ => false
  | .enum a, E => match E with
    | .Call (.Name x _) [e] [] _ => decide (x = Str.ofString "enumerate") && glC sc x && !isStar e && chk sc N L a e
    | _ => false
  | .zip a b, E => match E with
    | .Call (.Name x _) [e, e'] [] _ => decide (x = Str.ofString "zip") && glC sc x && !isStar e && !isStar e' && chk sc N L a e && chk sc N L b e'
    | _ => false
end

/-- a def that hears what a lambda raises -/
structure HeardC (P : Program) (w : World) (K : PySem.W.Frag) (mg : Str → Option Value) (base : Heap) (G : Gs) (x : Str) (h : HSig) : Prop where
  ex : ∃ (g : Addr) (pg : Arguments) (bg : List Stmt) (sg : Scope) (dV kV doc pm cdv ct oc : Value) (an od : Option Addr) (osl : Array (Option Value)) (Ng : List Str) (a : Str) (CS : Value) (ic ie : Nat) (yes : List Nat) (b : SS → F),
    mg x = some (.ref g) ∧ PySem.W.keepIn K (.ref g) = true ∧ K.lookup g = some ⟨oc, od, .func (PySem.W.fnOf x x pg bg sg dV kV doc pm an cdv ct), osl⟩ ∧ PySem.W.codeIn K cdv x = true ∧ L2.Binds K (PySem.W.fnOf x x pg bg sg dV kV doc pm an cdv ct) [a] [] ∧
    FnScope Ng [a] sg ∧ Ng[0]? = some a ∧ Vis sg a ∧ (a == ("__debug__" : Str)) = false ∧ (a == ("__classdict__" : Str)) = false ∧ ic < Ng.length ∧ ie < Ng.length ∧ ie ≠ ic ∧ h = ⟨Ng.length, ic, yes, tailFO b⟩ ∧ (∀ c ∈ yes, PySem.W.exmOne K (.ref (G.c c)) CS = some true) ∧
    ∀ (X : Cx) (q : Str), X.prog = P → X.w = w → X.K = K → X.mg = mg → X.base = base → X.A.guards = some [] → GivesG X Ng x sg g cdv bg a q (TTh K Ng CS ic ie (tS G noW b))
/-- the calls in a tree, in order; the constants; the classes of its fields -/
structure Wants where
  call : Str → FSig → Prop
  callk : Str → List Str → FSig → Nat → List Str → Prop
  glob : Str → D → Prop
  fld : Nat → Str → Prop
  isc : OTy → Prop
  fldx : Nat → Str → Prop
  exc : Nat → Str → XSig → Prop
  heard : Str → HSig → Prop
  calm : Prop
  lam : Prop
  top : Prop
/-- within a lambda, a comprehension -/
abbrev Wants.sub (w : Wants) : Wants := { w with lam := False, top := False }
/-- within an except suite -/
abbrev Wants.suite (w : Wants) : Wants := { w with lam := False, top := False, calm := False, call := fun _ _ => False, callk := fun _ _ _ _ _ => False, exc := fun _ _ _ => False, heard := fun _ _ => False }
mutual
def needE (w : Wants) : CE → Prop
  | .isc a os => needE w a ∧ ∀ o ∈ os, w.isc o
  | .fldx a f cs => needE w a ∧ ∀ c ∈ cs, w.fldx c f
  | .heard x h p => w.heard x h ∧ w.lam ∧ needE w.sub p
  | .glob x d => w.glob x d
  | .bin _ a b => w.calm ∧ needE w a ∧ needE w b
  | .neg a => needE w a
  | .cmp _ a b => w.calm ∧ needE w a ∧ needE w b
  | .chain _ _ a b c => w.calm ∧ needE w a ∧ needE w b ∧ needE w c
  | .not a => needE w a
  | .and_ l => needL w l
  | .or_ l => needL w l
  | .ite c a b => needE w c ∧ needE w a ∧ needE w b
  | .tup l => needL w l
  | .lst l => needL w l
  | .sub a b => needE w a ∧ needE w b
  | .slc a lo hi => needE w a ∧ needE w lo ∧ needE w hi
  | .rev a => needE w a
  | .fld a f cs => needE w a ∧ ∀ c ∈ cs, w.fld c f
  | .bi _ l => w.calm ∧ needL w l
  | .bm _ a l => needE w a ∧ needL w l
  | .mm _ _ l => needL w l
  | .isi a _ => needE w a
  | .call x sg l => w.call x sg ∧ needL w l
  | .comp e _ it ifs _ => w.calm ∧ needI w it ∧ needL w.sub ifs ∧ needE w.sub e
  | .non => True
  | .bl _ => True
  | .int _ => True
  | .str _ => True
  | .var _ => True
  | .dict0 _ => True
  | .noe => True
  | .callk x ps sg l ks kl => w.callk x ps sg l.len ks ∧ needL w l ∧ needL w kl
  | .dic1 a b => needE w a ∧ needE w b
  | .lset a => w.calm ∧ needE w a
  | .lrg _ it => w.calm ∧ needI w it
  | .meth _ _ _ _ _ => True
  | .mk _ _ _ _ => True
def needL (w : Wants) : CL → Prop
  | .nil => True
  | .cons e l => needE w e ∧ needL w l
  | .star e l => needE w e ∧ needL w l
def needI (w : Wants) : CI → Prop
  | .val e => needE w e
  | .rng1 a => needE w a
  | .rng2 a b => needE w a ∧ needE w b
  | .enum a => needE w a
  | .zip a b => needE w a ∧ needE w b
end

/-- what is known of the names of the built-ins -/
def bnames : List Str := ["len", "int", "abs", "bool", "str", "repr", "list", "tuple", "sorted", "sum", "min", "max", "any", "all", "range", "isinstance", "set", "dict", "enumerate", "zip", "super"]
structure Gd (G : Gs) (W : WX) (k : Nat) (w : Wants) (sc : Scope) (N L : List Str) (X : Cx) : Prop where
  eN : X.N = N
  esc : X.env.scope = sc
  nd : N.Nodup
  eK : X.K = G.K
  gd : X.A.guards = some []
  tk : Takes X W
  own : PassesOwn (model X.prog X.w) X.A X.env X.xe
  fn : ∀ x ∈ L, X.fn x = true
  mg : ∀ x ∈ bnames, X.mg x = none
  cr : w.calm → X.calm = true ∧ Room k X.A
  top : w.top → X.stack = X.env :: X.outer ∧ X.ex = [] ∧ X.env.frame = some X.env.locals
  lam : w.lam → LamAt X G.T ∧ Room (k + 4) X.A
  call : ∀ x sg, w.call x sg → ∃ f, CallG X.prog X.w X.K X.mg X.base k f (spG G sg) ∧ X.mg x = some (.ref f) ∧ PySem.W.keepIn X.K (.ref f) = true ∧ Room k X.A
  isc : ∀ o, w.isc o → OtyOk X.K X.mg G o
  fldx : ∀ c f, w.fldx c f → XfC X.K (G.c c) ∧ PySem.W.findIn X.K (.ref (G.c c)) f = some none
  exc : ∀ c nm xs, w.exc c nm xs → ExcC X.prog X.w X.K X.mg X.base G c nm xs ∧ 2 ≤ k
  heard : ∀ x h, w.heard x h → HeardC X.prog X.w X.K X.mg X.base G x h
  callk : ∀ x ps sg n ks, w.callk x ps sg n ks → ∃ f fd, FnG X.prog X.w X.K X.mg X.base k f fd ps (spG G sg) ∧ X.mg x = some (.ref f) ∧ PySem.W.keepIn X.K (.ref f) = true ∧ BindsK fd ps ks n ∧ Room k X.A
  glob : ∀ x d, w.glob x d → ∃ u v, X.mg x = some u ∧ RelV v u ∧ ∀ Av H, Rep G Av H d v
  fld : ∀ c f, w.fld c f → Cls X.K (G.c c) ∧ NoAttr X.K (G.c c) f

section
variable {G : Gs} {W : WX} {k : Nat} {w : Wants} {sc : Scope} {N L : List Str} {X : Cx}
theorem Gd.calm (g : Gd G W k w sc N L X) (h : w.calm) : X.calm = true := (g.cr h).1
theorem Gd.room (g : Gd G W k w sc N L X) (h : w.calm) : Room k X.A := (g.cr h).2
theorem Gd.gl (g : Gd G W k w sc N L X) {x : Str} (h : glC sc x = true) : Gl X x := by
  have h := of_decide_eq_true h
  rw [← g.esc] at h
  exact h
theorem Gd.var (g : Gd G W k w sc N L X) {i : Nat} {x : Str} (h : varC sc N i x = true) : X.N[i]? = some x ∧ Vis X.env.scope x ∧ (x == ("__debug__" : Str)) = false ∧ (x == ("__classdict__" : Str)) = false := by
  unfold varC at h
  simp only [Bool.and_eq_true, decide_eq_true_eq, Bool.not_eq_true'] at h
  obtain ⟨⟨⟨h1, h2⟩, h3⟩, h4⟩ := h
  refine ⟨g.eN ▸ h1, ?_, h3, h4⟩
  rw [g.esc]
  split at h2
  · exact .inl (by assumption)
  · exact .inr (.inl (by assumption))
  · exact .inr (.inr (by assumption))
  · cases h2
theorem Gd.asg (g : Gd G W k w sc N L X) {i : Nat} {x : Str} (h : asgC sc N L i x = true) : X.N[i]? = some x ∧ Loc X.env.scope x ∧ (X.fn x = true ∨ X.env.scope.names.lookup x = some .local) := by
  unfold asgC at h
  simp only [decide_eq_true_eq, Bool.and_eq_true] at h
  obtain ⟨h1, h2⟩ := h
  rw [g.esc, g.eN]
  split at h2
  · exact ⟨h1, .inl (by assumption), .inr (by assumption)⟩
  · exact ⟨h1, .inr (by assumption), .inl (g.fn x (List.elem_iff.mp h2))⟩
  · cases h2
theorem star_cons {e : Expr} {es : List Expr} {env : Env} (h : isStar e = false) : starEach (e :: es) env = (false, eval e env) :: starEach es env := by
  cases e <;> first | rfl | cases h
theorem noStars_cons {e : Expr} {es : List Expr} (h : noStars (e :: es) = true) : isStar e = false ∧ noStars es = true := by
  unfold noStars at h
  simp only [List.all_cons, Bool.and_eq_true, Bool.not_eq_true'] at h
  exact h
theorem star_any {env : Env} {pos : Pos} : ∀ {es : List Expr}, noStars es = true → (backTo pos (starEach es env)).any (·.1) = false
  | [], _ => rfl
  | e :: es, h => by
    obtain ⟨h1, h2⟩ := noStars_cons h
    rw [star_cons h1]
    show (false || (backTo pos (starEach es env)).any (·.1)) = false
    rw [star_any h2]; rfl
theorem star_all {env : Env} {pos : Pos} : ∀ {es : List Expr}, noStars es = true → (backTo pos (starEach es env)).all (fun x => !x.1) = true
  | [], _ => rfl
  | e :: es, h => by
    obtain ⟨h1, h2⟩ := noStars_cons h
    rw [star_cons h1]
    show (true && (backTo pos (starEach es env)).all (fun x => !x.1)) = true
    rw [star_all h2]; rfl
theorem true_plain {e : Expr} {env : Env} (h : plainT e = true) : ∀ whole, isTrue e env whole = (do let v ← whole; standAt e.pos; holding [v] (truthy v)) := by
  intro whole
  cases e with
  | UnaryOp op x p => cases op <;> first | rfl | cases h
  | BoolOp _ _ _ => cases h
  | IfExp _ _ _ _ => cases h
  | Compare _ _ _ _ => cases h
  | _ => rfl
theorem nobehind' {op : CmpOp} {e : Expr} (h : isSetE e = false) : behindInMarks op e = false := by
  cases e <;> first | rfl | cases h
theorem plain_ix {e : Expr} (h : isSliceE e = false) : PlainIx e := fun o i => by
  cases e <;> first | rfl | cases h
theorem attr_base {e : Expr} {f : Str} {env : Env} {wh : Sem Value} (h : isCallE e = false) : attributeBase e f env wh = wh := by
  cases e <;> first | rfl | cases h
theorem sw_no {e : Expr} {t : Option Expr} {l : Nat} {env : Env} (h : noComp e = true) : swapsWith e t l env = pure false := by
  cases e <;> first | rfl | cases h
theorem fold_no {e : Expr} {env : Env} (h : isSetE e = false) : ∀ x, foldedSetIterable e env x = pure x := fun x => by
  cases e <;> first | rfl | cases h

structure EOk (G : Gs) (W : WX) (X : Cx) (p : EP) (E : Expr) : Prop where
  val : PE X E (tE G W p.val)
  tst : PT X E (tT G W p.tst)
  md : ∀ m, PE X E (t1 G W (ErA G) (p.md m))
structure LOk (G : Gs) (W : WX) (X : Cx) (p : LP) (es : List Expr) : Prop where
  vw : PA X es (tL G W (ErV G) p.vw)
  sh : PA X es (tL G W (ErD G) p.sh)
  md : ∀ ms, PA X es (tL G W (ErA G) (p.md ms))
  and_ : ∀ pos, es ≠ [] → PE X (.BoolOp .And es pos) (tE G W (p.an true)) ∧ PW X (.BoolOp .And es pos) (tT G W (p.tn true))
  or_ : ∀ pos, es ≠ [] → PE X (.BoolOp .Or es pos) (tE G W (p.an false)) ∧ PW X (.BoolOp .Or es pos) (tT G W (p.tn false))
  pts : es.length ≤ 1 → PTs X es (tT G W (p.tn true))
  cp : PA X es (tCp G W p.cp)
theorem md_bad {p : EP} {E : Expr} (hv : PE X E (tE G W p.val)) (hi : p.io = none) : ∀ m, PE X E (t1 G W (ErA G) (p.md m)) := fun m => by
  unfold EP.md
  cases m with
  | false => exact s_mdF hv
  | true =>
    refine PE_imp hv fun σ H Q ⟨Av, S, st, h⟩ => ?_
    rw [hi] at h
    exact h.elim
theorem EOk.of {E : Expr} {p : KE} (h : PE X E (tE G W p)) (ht : plainT E = true) : EOk G W X (mkp p) E :=
  ⟨h, s_test h (true_plain ht), md_bad (p := mkp p) h rfl⟩
theorem EOk.of2 {E : Expr} {p : KE} {t : KT} (h : PE X E (tE G W p)) (ht : PT X E (tT G W t)) : EOk G W X ⟨p, t, none⟩ E :=
  ⟨h, ht, md_bad (p := ⟨p, t, none⟩) h rfl⟩
theorem bad_PA {α : Type} {E : ER α} {es : List Expr} : PA X es (tL G W E fun _ => .bad) := ⟨fun _ _ _ _ _ _ _ ⟨_, _, _, h⟩ => h.elim⟩
theorem bad_PC {es : List Expr} : PA X es (tCp G W fun _ => .bad) := ⟨fun _ _ _ _ _ _ _ ⟨_, _, _, h⟩ => h.elim⟩
theorem bad_PE {e : Expr} : PE X e (tE G W fun _ => .bad) := ⟨fun _ _ _ _ _ _ ⟨_, _, _, h⟩ => h.elim⟩
theorem bad_PW {e : Expr} : PW X e (tT G W fun _ => .bad) := ⟨fun _ _ _ _ _ _ _ ⟨_, _, _, h⟩ => h.elim⟩
theorem bad_PTs {es : List Expr} : PTs X es (tT G W fun _ => .bad) := ⟨fun _ _ _ _ _ _ ⟨_, _, _, h⟩ => h.elim⟩
end
end Eng

namespace Eng
open PySem PySem.Spec L2
open PyProof.Rows hiding St

/-! ### calls of what keeps its promise -/
section
variable {X : Cx} {G : Gs} {W : WX} {k : Nat} {f : Addr} {sg : FSig} {sp : Sp} {E : L2.St → XK} {x : Str} {p pos : Pos} {e : Expr} {es : List Expr} {q : List Bool → SS → R (List AV)}
theorem run_C {pins : List (Addr × Obj)} {σ : L2.St} {H : Hp} {s : Shared} {Q : VK} {us : List Value} {vs : List V} (F : CallG X.prog X.w X.K X.mg X.base k f sp) (hgd : X.A.guards = some []) (hr : Room k X.A) (hx : PassesAt (L2.CX X.prog X.w) X σ (E σ))
    (I : Inv X pins σ H s) (r : Vals vs us) (h : sp vs H Q (E σ)) : wpAny (model X.prog X.w) X.A (call (.ref f) us) (L2.EP X pins σ Q) X.xe s :=
  wpAny_call (codeAny_mono (F.run X.A X.stack s H us vs Q (E σ) hgd hr I.env0 r h) (ended I (hx pins H s)))
theorem s_callC (F : CallG X.prog X.w X.K X.mg X.base k f (spG G sg)) (hgd : X.A.guards = some []) (hr : Room k X.A) (tk : Takes X W) (hg : Gl X x) (hm : X.mg x = some (.ref f)) (hk : PySem.W.keepIn X.K (.ref f) = true)
    (ha : PA X (e :: es) (tL G W (ErA G) (q sg.md))) (hdb : (x == ("__debug__" : Str)) = false) (he : starEach (e :: es) X.env = (false, eval e X.env) :: starEach es X.env) (hpl : (backTo pos (starEach es X.env)).any (·.1) = false) :
    PE X (.Call (.Name x p) (e :: es) [] pos) (tE G W (kCall sg q)) := PE_imp (t' := tCallS (spG G sg) (fun σ cls d H => W cls d σ H) (tL G W (ErA G) (q sg.md))) (.mk fun pins s σ H Q I want =>
  wpAny_Call_Name_kw (ld_glob I hg hm (PySem.W.callWith_K (h₀ := X.base) I.ok.mod.kin hk (thn (ha.run pos pins s σ H _ I want) fun _ _ ⟨_, _, I1, rel, post⟩ => ⟨I1.kIn, run_C (E := fun σ cls d H => W cls d σ H) F hgd hr (passAt tk σ) I1 rel post⟩) he hpl) hdb)) fun σ H Q h => tri_call h
theorem s_callC0 (F : CallG X.prog X.w X.K X.mg X.base k f (spG G sg)) (hgd : X.A.guards = some []) (hr : Room k X.A) (tk : Takes X W) (hg : Gl X x) (hm : X.mg x = some (.ref f)) (hk : PySem.W.keepIn X.K (.ref f) = true)
    (hq : q sg.md = kNil) (hdb : (x == ("__debug__" : Str)) = false) : PE X (.Call (.Name x p) [] [] pos) (tE G W (kCall sg q)) := PE_imp (t' := tCallS (spG G sg) (fun σ cls d H => W cls d σ H) tNil) (.mk fun pins s σ H Q I want =>
  wpAny_Call_Name_kw (ld_glob I hg hm (PySem.W.callWith_K0 I.kIn hk (run_C (us := []) (E := fun σ cls d H => W cls d σ H) F hgd hr (passAt tk σ) I .nil want)) hdb)) fun σ H Q h => by
  obtain ⟨Av, S, st, h⟩ := tri_call h
  rw [hq] at h
  exact h Av [] H (Post.refl st) rfl
end
/-- a call that gives the last parameters no value: they have dd -/
def FSig.dflt (sg : FSig) (dd : List Eng.D) : FSig := ⟨sg.md.take (sg.md.length - dd.length), fun ds => if ds.length + dd.length = sg.md.length then sg.m (ds ++ dd) else .bad⟩
section
variable {G : Gs} {Av Av' : Addr → Prop} {H H' : Hp}
theorem args_app {dvs : List V} : ∀ {ms : List Bool} {ds : List Eng.D} {vs : List V} {dd : List Eng.D}, Args G Av H ms ds vs → Reps G Av H dd dvs → Args G Av H (ms ++ List.replicate dd.length false) (ds ++ dd) (vs ++ dvs)
  | [], [], vs, dd, h, r => by
    cases (show vs = [] from h)
    simp only [List.nil_append]
    clear h
    induction dd generalizing dvs with
    | nil => exact r
    | cons d dd ih =>
      obtain ⟨v, w, rfl, h1, h2⟩ := r
      exact ⟨v, w, rfl, h1, ih h2⟩
  | m :: ms, d :: ds, vs, dd, ⟨v, r, e, h1, h2⟩, rr => by subst e; exact ⟨v, r ++ dvs, rfl, h1, args_app h2 rr⟩
  | [], _ :: _, _, _, h, _ => h.elim
  | _ :: _, [], _, _, h, _ => h.elim
theorem outs_app {dvs : List V} {n : Nat} : ∀ {ms : List Bool} {vs : List V} {outs : List Eng.D}, vs.length = ms.length → Outs G Av H (ms ++ List.replicate n false) (vs ++ dvs) outs → Outs G Av H ms vs outs
  | [], vs, outs, hl, h => by
    have z : vs = [] := List.length_eq_zero_iff.mp hl
    subst z
    show outs = []
    simp only [List.nil_append] at h
    clear hl
    induction n generalizing dvs with
    | zero => exact h
    | succ n ih =>
      obtain ⟨v, w, _, h1⟩ := (show ∃ v vr, dvs = v :: vr ∧ Outs G Av H (List.replicate n false) vr outs from h)
      exact ih h1
  | true :: ms, [], outs, hl, h => by cases hl
  | false :: ms, [], outs, hl, h => by cases hl
  | true :: ms, v :: vs, outs, hl, h => by
    obtain ⟨v', vr, d, r, e, eo, h1, h2, h3⟩ := h
    cases e
    exact ⟨v, vs, d, r, rfl, eo, h1, h2, outs_app (by simpa using hl) h3⟩
  | false :: ms, v :: vs, outs, hl, h => by
    obtain ⟨v', vr, e, h3⟩ := h
    cases e
    exact ⟨v, vs, rfl, outs_app (by simpa using hl) h3⟩
theorem io_app {dvs : List V} {n : Nat} {ms : List Bool} {vs : List V} (hl : vs.length = ms.length) {i : Nat} {v : V} : ((ms ++ List.replicate n false)[i]? = some true ∧ (vs ++ dvs)[i]? = some v) ↔ (ms[i]? = some true ∧ vs[i]? = some v) := by
  by_cases z : i < ms.length
  · rw [List.getElem?_append_left z, List.getElem?_append_left (by omega)]
  · constructor
    · rintro ⟨h, _⟩
      rw [List.getElem?_append_right (by omega)] at h
      have := List.eq_of_mem_replicate (List.mem_of_getElem? h)
      cases this
    · rintro ⟨h, _⟩
      exact absurd (List.getElem?_eq_some_iff.mp h).1 z
theorem spG_dflt {sg : FSig} {dd : List Eng.D} {dvs : List V} {vs : List V} {Q : VK} {E : XK} (hr : ∀ Av H, Reps G Av H dd dvs) (hm : sg.md = sg.md.take (sg.md.length - dd.length) ++ List.replicate dd.length false) (h : spG G (sg.dflt dd) vs H Q E) : spG G sg (vs ++ dvs) H Q E := by
  obtain ⟨Av, ds, dt, ha, io, h⟩ := h
  have lv : vs.length = (sg.md.take (sg.md.length - dd.length)).length := ha.len.1
  have h : (match (if ds.length + dd.length = sg.md.length then sg.m (ds ++ dd) else .bad : FO) with
    | .ok fr d outs => ∀ Av' v H', CPost G Av (sg.dflt dd).md vs H Av' H' outs → RvC G Av' H H' fr d v → Q v H'
    | .exc e outs => ∀ Av' cls dx H', CPost G Av (sg.dflt dd).md vs H Av' H' outs → XcOk G Av' H' e cls dx → E cls dx H'
    | .bad => False) := h
  split at h
  case h_3 => exact h.elim
  all_goals
    rename_i e0
    split at e0
    case isFalse => cases e0
    refine ⟨Av, ds ++ dd, dt, by rw [hm]; exact args_app ha (hr _ _), fun i j v h1 h2 h3 h4 => ?_, ?_⟩
    · rw [hm] at h1 h2
      obtain ⟨a1, a2⟩ := (io_app lv).mp ⟨h1, h3⟩
      obtain ⟨b1, b2⟩ := (io_app lv).mp ⟨h2, h4⟩
      exact io i j v a1 b1 a2 b2
    · rw [e0]
      have back : ∀ {Av' H' outs}, CPost G Av sg.md (vs ++ dvs) H Av' H' outs → CPost G Av (sg.dflt dd).md vs H Av' H' outs := fun {Av' H' outs} c => by
        rw [hm] at c
        refine ⟨fun a o q n t => c.frame a o q (fun ⟨i, k1, k2⟩ => n ?_) t, c.stay, c.sub, c.held, c.dom, c.tabs, outs_app lv c.outs⟩
        obtain ⟨a1, a2⟩ := (io_app lv).mp ⟨k1, k2⟩
        exact ⟨i, a1, a2⟩
      intro Av' v H'
      first
        | exact fun c r => h Av' v H' (back c) r
        | exact fun x c r => h Av' v H' x (back c) r
end
/-! ### a comprehension's parts -/
section
variable {G : Gs} {W : WX} {k : Nat} {w : Wants} {sc : Scope} {N L : List Str} {X : Cx}
theorem ownP_snd (N : List Str) (own : List Nat) : (ownP N own).map (·.2) = own := by
  unfold ownP
  rw [List.map_map]
  exact List.map_id' own |>.symm ▸ (by simp [Function.comp])
theorem cellsOf_mem {scope : Scope} {x : Str} (h : x ∈ cellsOf scope) : scope.names.lookup x = some .cell := by
  unfold cellsOf at h
  obtain ⟨y, hy, rfl⟩ := List.mem_map.mp h
  have := (List.mem_filter.mp hy).2
  simp only [Bool.and_eq_true, decide_eq_true_eq] at this
  exact this.2
theorem Gd.inner (g : Gd G W k w sc N L X) {scope : Scope} {s : Shared} {H : Hp} {C : Addr} {cl : List (Str × Addr)} {fp : List Addr} : Gd G (fun _ _ _ _ => False) k w.sub (relS scope sc) N (cellsOf scope) (X.blk s H scope (compEnvC scope cl C X.env) fp) where
  eN := g.eN
  esc := by rw [← g.esc]; rfl
  nd := g.nd
  cr := g.cr
  top := fun z => z.elim
  eK := g.eK
  gd := g.gd
  tk := takes0
  own := PassesOwn.never
  fn := fun x hx => by
    show (scope.names.lookup x == some .cell) = true
    rw [cellsOf_mem hx]; rfl
  mg := g.mg
  call := g.call
  callk := g.callk
  glob := g.glob
  fld := g.fld
  lam := fun z => z.elim
  isc := g.isc
  fldx := g.fldx
  exc := g.exc
  heard := g.heard
/-- what a target asks -/
def tgN (w : Wants) : Tg → Prop
  | .nm _ => True
  | _ => w.calm
theorem tgN_of {w : Wants} (h : w.calm) (tg : Tg) : tgN w tg := by cases tg <;> first | trivial | exact h
theorem tgt_len {env : Env} : ∀ {l : Tg} {es : List Expr}, chkT.chkTs sc N L l es = true → (assignEach es env).length = l.len ∧ (assignEach es env).findIdx? (·.1) = none
  | .nil, [], _ => ⟨rfl, rfl⟩
  | .cons a b, e :: es, h => by
    have h : (chkT sc N L a e && chkT.chkTs sc N L b es) = true := h
    rw [Bool.and_eq_true] at h
    obtain ⟨i1, i2⟩ := tgt_len (env := env) h.2
    have hs : assignEach (e :: es) env = (false, PySem.assign e env) :: assignEach es env := by
      cases e <;> first | rfl | (cases a <;> cases h.1)
    rw [hs]
    refine ⟨by simp [i1, Tg.len], ?_⟩
    rw [List.findIdx?_cons]
    simp [i2]
  | .nil, _ :: _, h => by cases h
  | .cons _ _, [], h => by cases h
  | .nm _, es, h => by cases es <;> cases h
  | .tup _, es, h => by cases es <;> cases h
mutual
theorem chkT_ok (g : Gd G W k w sc N L X) : ∀ {tg : Tg} {e : Expr}, chkT sc N L tg e = true → tgN w tg → PG X e (tG G tg)
  | .nm i, e, h, _ => by
    cases e <;> first | (cases h) | skip
    rename_i x p
    obtain ⟨h1, h2, h3⟩ := g.asg (show asgC sc N L i x = true from h)
    exact g_name (g.eN ▸ g.nd) h1 h2 h3
  | .tup l, e, h, hc => by
    cases e <;> first | (cases h) | skip
    rename_i es n p
    have h : chkT.chkTs sc N L l es = true := h
    exact g_tup (g.calm hc) (chkTs_ok g h hc) (tgt_len h).1 (fun ds S S' q => assigns_len' q) (tgt_len h).2
  | .nil, e, h, _ => by cases e <;> cases h
  | .cons _ _, e, h, _ => by cases e <;> cases h
theorem chkTs_ok (g : Gd G W k w sc N L X) : ∀ {tg : Tg} {es : List Expr}, chkT.chkTs sc N L tg es = true → w.calm → PGs X es (tGs G tg)
  | .nil, [], _, _ => g_nil
  | .cons a b, e :: es, h, hc => by
    have h : (chkT sc N L a e && chkT.chkTs sc N L b es) = true := h
    rw [Bool.and_eq_true] at h
    refine g_cons (chkT_ok g h.1 (tgN_of hc _)) (chkTs_ok g h.2 hc) ?_
    cases e <;> first | rfl | (cases a <;> cases h.1)
  | .nil, _ :: _, h, _ => by cases h
  | .cons _ _, [], h, _ => by cases h
  | .nm _, es, h, _ => by cases es <;> cases h
  | .tup _, es, h, _ => by cases es <;> cases h
end
end
end Eng

namespace Eng
open PySem PySem.Spec L2
open PyProof.Rows hiding St
section
variable {G : Gs} {W : WX} {k : Nat} {w : Wants} {sc : Scope} {N L : List Str} {X : Cx}
theorem EOk.ite' {p : EP} {E : Expr} (h : EOk G W X p E) : EOk G W X p E := h
theorem LOk.nil : LOk G W X (evl .nil) [] := ⟨s_nil, s_nil, fun ms => by
    cases ms with
    | nil => exact s_nil
    | cons _ _ => exact bad_PA, fun _ h => absurd rfl h, fun _ h => absurd rfl h, fun _ => by
    have := pts_nil (X := X)
    exact ⟨fun pins s σ H Q I ⟨Av, S, st, h⟩ => this.run pins s σ H Q I (h Av H (Post.refl st))⟩, sc_nil⟩
theorem LOk.one {e : CE} {E : Expr} (h : EOk G W X (evc e) E) (hs : isStar E = false) : LOk G W X (evl (.cons e .nil)) [E] := by
  refine ⟨s_cons lastsV (s_vw h.val) s_nil (star_cons hs), s_cons lastsD (s_shr h.val) s_nil (star_cons hs), fun ms => ?_, fun pos _ => ⟨pe_one h.val, pw_and1 h.tst⟩, fun pos _ => ⟨pe_one h.val, pw_or1 h.tst⟩, fun _ => pts_one h.tst, sc_cons h.val sc_nil (star_cons hs)⟩
  cases ms with
  | nil => exact bad_PA
  | cons m ms =>
    cases ms with
    | nil => exact s_cons lastsA (h.md m) s_nil (star_cons hs)
    | cons _ _ => exact bad_PA
theorem LOk.more {e e2 : CE} {l : CL} {E E2 : Expr} {es : List Expr} (h : EOk G W X (evc e) E) (hs : isStar E = false) (r : LOk G W X (evl (.cons e2 l)) (E2 :: es)) : LOk G W X (evl (.cons e (.cons e2 l))) (E :: E2 :: es) := by
  refine ⟨s_cons lastsV (s_vw h.val) r.vw (star_cons hs), s_cons lastsD (s_shr h.val) r.sh (star_cons hs), fun ms => ?_, fun pos _ => ⟨s_and h.val (r.and_ pos (by simp)).1, s_andT h.tst (r.and_ pos (by simp)).2⟩, fun pos _ => ⟨s_or h.val (r.or_ pos (by simp)).1, s_orT h.tst (r.or_ pos (by simp)).2⟩, fun h => by simp at h, sc_cons h.val r.cp (star_cons hs)⟩
  cases ms with
  | nil => exact bad_PA
  | cons m ms => exact s_cons lastsA (h.md m) (r.md ms) (star_cons hs)
/-- in front of a star there is none but in a display -/
theorem LOk.moreS {e e2 : CE} {l : CL} {E : Expr} {es : List Expr} (h : EOk G W X (evc e) E) (hs : isStar E = false) (r : LOk G W X (evl (.star e2 l)) es) (hne : ∃ a p r, es = .Starred a p :: r) : LOk G W X (evl (.cons e (.star e2 l))) (E :: es) := by
  obtain ⟨a, p, rr, rfl⟩ := hne
  refine ⟨s_cons lastsV (s_vw h.val) r.vw (star_cons hs), s_cons lastsD (s_shr h.val) r.sh (star_cons hs), fun ms => ?_, fun pos _ => ⟨s_and h.val (r.and_ pos (by simp)).1, s_andT h.tst (r.and_ pos (by simp)).2⟩, fun pos _ => ⟨s_or h.val (r.or_ pos (by simp)).1, s_orT h.tst (r.or_ pos (by simp)).2⟩, fun h => by simp at h, sc_cons h.val r.cp (star_cons hs)⟩
  cases ms with
  | nil => exact bad_PA
  | cons m ms => exact s_cons lastsA (h.md m) (r.md ms) (star_cons hs)
theorem LOk.star {e : CE} {l : CL} {E : Expr} {p : Pos} {es : List Expr} (h : EOk G W X (evc e) E) (r : LOk G W X (evl l) es) : LOk G W X (evl (.star e l)) (.Starred E p :: es) :=
  ⟨bad_PA, s_star h.val r.sh, fun _ => bad_PA, fun _ _ => ⟨bad_PE, bad_PW⟩, fun _ _ => ⟨bad_PE, bad_PW⟩, fun _ => bad_PTs, bad_PC⟩
theorem ty_mem {t : Ty} (h : t.ok = true) : Str.ofString t.nm ∈ bnames := by
  cases t with
  | cls _ _ => cases h
  | _ => simp only [Ty.nm]; decide +kernel
theorem s_iteT {c a b : Expr} {pos : Pos} {t u v : KT} (hc : PT X c (tT G W t)) (ha : PT X a (tT G W u)) (hb : PT X b (tT G W v)) : PT X (.IfExp c a b pos) (tT G W (kIfT t u v)) :=
  ⟨fun pins s σ H Q I ⟨Av, S, st, h⟩ => by
    have h' : tT G W t σ H fun kk H1 => if kk = true then tT G W u σ H1 Q else tT G W v σ H1 Q := tT_bindT st h fun kk S1 Av1 H1 P1 h1 => by
      have h1 := h1.trans P1
      cases kk with
      | true => exact ⟨Av1, S1, P1.st, h1⟩
      | false => exact ⟨Av1, S1, P1.st, h1⟩
    show wpAny (model X.prog X.w) X.A (do if ← isTrue c X.env (eval c X.env) then isTrue a X.env (eval a X.env) else isTrue b X.env (eval b X.env)) (TP X pins σ Q) X.xe s
    refine wpAny_bind (thn (hc.run pins s σ H _ I h') fun kk s1 ⟨H1, I1, q⟩ => ?_)
    cases kk with
    | true => exact ha.run pins s1 σ H1 Q I1 q
    | false => exact hb.run pins s1 σ H1 Q I1 q⟩
theorem tys_ok (g : Gd G W k w sc N L X) : ∀ {ts : List Ty} {es : List Expr}, tysC sc ts es = true → ts.all Ty.ok = true ∧ PA X es (tTys ts)
  | [], [], _ => ⟨rfl, PA_imp pa_nil fun σ H Q h => h⟩
  | t :: ts, e :: es, h => by
    have h : (tyC sc t e && tysC sc ts es) = true := h
    rw [Bool.and_eq_true] at h
    obtain ⟨h1, h2⟩ := h
    obtain ⟨i1, i2⟩ := tys_ok g h2
    cases e <;> first | (cases h1) | skip
    rename_i x p
    have h1 : (decide (x = Str.ofString t.nm) && glC sc x && t.ok) = true := h1
    simp only [decide_eq_true_eq, Bool.and_eq_true] at h1
    obtain ⟨⟨rfl, hg⟩, ho⟩ := h1
    exact ⟨by rw [List.all_cons, ho, i1]; rfl, PA_imp (pa_cons (s_tyName ho (g.gl hg) (g.mg _ (ty_mem ho))) i2) fun σ H Q h => h⟩
  | [], _ :: _, h => by cases h
  | _ :: _, [], h => by cases h
theorem bi_mem (b : BI) : Str.ofString b.nm ∈ bnames := by cases b <;> decide +kernel
theorem tup_of {e : Expr} (h : isTupE e = true) : ∃ es k p, e = .Tuple es k p := by
  cases e <;> first | exact ⟨_, _, _, rfl⟩ | cases h
theorem needT_of {it : CI} {e : Expr} (h : (!it.needT || isTupE e) = true) : it.needT = true → isTupE e = true := fun z => by rw [z] at h; exact h
theorem otys_ok (g : Gd G W k w sc N L X) : ∀ {os : List OTy} {es : List Expr}, otysC sc os es = true → (∀ o ∈ os, w.isc o) → (∀ o ∈ os, OtyOk X.K X.mg G o) ∧ PA X es (tOts G os)
  | [], [], _, _ => ⟨fun o h => (by cases h), PA_imp pa_nil fun σ H Q h => h⟩
  | o :: os, e :: es, h, n => by
    have h : (otyC sc o e && otysC sc os es) = true := h
    rw [Bool.and_eq_true] at h
    obtain ⟨h1, h2⟩ := h
    obtain ⟨i1, i2⟩ := otys_ok g h2 fun o m => n o (.tail _ m)
    cases e <;> first | (cases h1) | skip
    rename_i x p
    have h1 : (decide (x = o.x) && glC sc x && !(x == ("__debug__" : Str))) = true := h1
    simp only [decide_eq_true_eq, Bool.and_eq_true, Bool.not_eq_true'] at h1
    obtain ⟨⟨rfl, hg⟩, ho⟩ := h1
    have ok := g.isc o (n o (.head _))
    refine ⟨fun q m => ?_, PA_imp (pa_cons (pe_glob (v := .ref (G.c o.c)) (g.gl hg) ok.at_ rfl ho) i2) fun σ H Q h => h⟩
    rcases List.mem_cons.mp m with rfl | m
    · exact ok
    · exact i1 q m
  | [], _ :: _, h, _ => by cases h
  | _ :: _, [], h, _ => by cases h
/-- the lambda's body is in the same hands -/
theorem Gd.lamb (g : Gd G W k w sc N L X) {A : Around} {outer : List Env} {s : Shared} {H : Hp} {E : XK} {f c' : Addr} {scope : Scope} (guards : A.guards = some []) (room : Room k (A.deeper (LamX.lamEnv X scope s.heap.objs.size f c'))) :
    Gd G (fun cls d _ H => E cls d H) k w.sub scope N [] (LamX.lamCx X A outer s H E scope f c') where
  eN := g.eN
  esc := rfl
  nd := g.nd
  cr := fun _ => ⟨rfl, room⟩
  top := fun z => z.elim
  lam := fun z => z.elim
  eK := g.eK
  gd := guards
  tk := takes_of rfl rfl rfl rfl
  own := passes_of rfl
  fn := fun x hx => by cases hx
  mg := g.mg
  call := fun x sg h => let ⟨f, a, b, c, _⟩ := g.call x sg h; ⟨f, a, b, c, room⟩
  callk := fun x ps sg n ks h => let ⟨f, fd, a, b, c, d, _⟩ := g.callk x ps sg n ks h; ⟨f, fd, a, b, c, d, room⟩
  glob := g.glob
  fld := g.fld
  isc := g.isc
  fldx := g.fldx
  exc := g.exc
  heard := g.heard
/-- the parts of a comprehension -/
structure CompOk (G : Gs) (W : WX) (X : Cx) (elt : KE) (tg : Tg) (it : SS → R (List D × Option Nat)) (ifs : KT) (own : List Nat) (N : List Str) (E : Expr) : Prop where
  ex : ∃ e' tgE iter ifsE scope pos, E = .ListComp e' [⟨tgE, iter, ifsE, 0⟩] scope pos ∧ PI X tgE iter (tI G W it) ∧ BlkOk X.N X.env.scope scope (ownP N own) ∧ (∀ j ∈ tg.slots, j ∈ own) ∧
    (∀ (s : Shared) (H : Hp) (C : Addr) (cl : List (Str × Addr)) (fp : List Addr), PG (X.blk s H scope (compEnvC scope cl C X.env) fp) tgE (tG G tg)) ∧
    (∀ (s : Shared) (H : Hp) (C : Addr) (cl : List (Str × Addr)) (fp : List Addr), PTs (X.blk s H scope (compEnvC scope cl C X.env) fp) ifsE (tT G (fun _ _ _ _ => False) ifs)) ∧
    (∀ (s : Shared) (H : Hp) (C : Addr) (cl : List (Str × Addr)) (fp : List Addr), PE (X.blk s H scope (compEnvC scope cl C X.env) fp) e' (tE G (fun _ _ _ _ => False) elt)) ∧ (∀ x, foldedSetIterable iter X.env x = pure x)
theorem CompOk.pe {elt : KE} {tg : Tg} {it : SS → R (List D × Option Nat)} {ifs : KT} {own : List Nat} {E : Expr} (hc : X.calm = true) (hN : X.N.Nodup) (h : CompOk G W X elt tg it ifs own N E) : PE X E (tE G W (kComp elt tg it ifs own)) := by
  obtain ⟨e', tgE, iter, ifsE, scope, pos, rfl, h1, h2, h3, h4, h5, h6, h7⟩ := h.ex
  exact PE_imp (pe_lc hc hN h1 h2 h4 h5 h6 h7) fun σ H Q q => by rw [ownP_snd]; exact tri_comp h3 q
mutual
theorem chk_ok : ∀ (e : CE) {w : Wants} {W : WX} {sc : Scope} {L : List Str} {X : Cx} (g : Gd G W k w sc N L X) {E : Expr}, chk sc N L e E = true → needE w e → EOk G W X (evc e) E
  | .non, w, W, sc, L, X, g, E, h, n => by
    unfold chk at h; split at h
    · exact .of s_non rfl
    · cases h
  | .bl b, w, W, sc, L, X, g, E, h, n => by
    unfold chk at h; split at h
    · cases of_decide_eq_true h; exact .of s_bl rfl
    · cases h
  | .int i, w, W, sc, L, X, g, E, h, n => by
    unfold chk at h; split at h
    · cases of_decide_eq_true h; exact .of s_int rfl
    · cases h
  | .str x, w, W, sc, L, X, g, E, h, n => by
    unfold chk at h; split at h
    · cases of_decide_eq_true h; exact .of s_str rfl
    · cases h
  | .var i, w, W, sc, L, X, g, E, h, n => by
    unfold chk at h; split at h
    · obtain ⟨h1, h2, h3, h4⟩ := g.var h
      rename_i x xp
      have hv := s_var (G := G) (W := W) (pos := xp) h1 h2 h3 h4
      refine ⟨hv, s_test hv (true_plain rfl), fun m => ?_⟩
      cases m with
      | false => exact s_mdF hv
      | true => exact s_mdT (pe_var h1 h2 h3 h4)
    · cases h
  | .glob x d, w, W, sc, L, X, g, E, h, n => by
    unfold chk at h; split at h
    · simp only [Bool.and_eq_true, decide_eq_true_eq, Bool.not_eq_true'] at h
      obtain ⟨⟨rfl, h2⟩, h3⟩ := h
      obtain ⟨u, v, q1, q2, q3⟩ := g.glob x d n
      exact .of (PE_imp (pe_glob (g.gl h2) q1 q2 h3) fun σ H Q => tri_C q3) rfl
    · cases h
  | .bin op a b, w, W, sc, L, X, g, E, h, n => by
    unfold chk at h; split at h
    · simp only [decide_eq_true_eq, Bool.and_eq_true] at h
      obtain ⟨⟨rfl, h2⟩, h3⟩ := h
      exact .of (s_bin (o_bin (g.room n.1) op) (chk_ok a g h2 n.2.1).val (chk_ok b g h3 n.2.2).val) rfl
    · cases h
  | .neg a, w, W, sc, L, X, g, E, h, n => by
    unfold chk at h; split at h
    · exact .of (s_neg (chk_ok a g h n).val) rfl
    · cases h
  | .cmp op a b, w, W, sc, L, X, g, E, h, n => by
    unfold chk at h; split at h
    · simp only [Bool.and_eq_true, decide_eq_true_eq, Bool.not_eq_true'] at h
      obtain ⟨⟨⟨rfl, h1⟩, h2⟩, h3⟩ := h
      exact .of2 (s_cmp (o_cmp (g.room n.1) op) (nobehind' h1) (chk_ok a g h2 n.2.1).val (chk_ok b g h3 n.2.2).val) (s_cmpT (o_cmp (g.room n.1) op) (nobehind' h1) (chk_ok a g h2 n.2.1).val (chk_ok b g h3 n.2.2).val)
    · cases h
  | .chain op op' a b c, w, W, sc, L, X, g, E, h, n => by
    unfold chk at h; split at h
    · simp only [Bool.and_eq_true, decide_eq_true_eq, Bool.not_eq_true'] at h
      obtain ⟨⟨⟨⟨⟨⟨rfl, rfl⟩, h1⟩, h1'⟩, h2⟩, h3⟩, h4⟩ := h
      have ka := (chk_ok a g h2 n.2.1).val
      have kb := (chk_ok b g h3 n.2.2.1).val
      have kc := (chk_ok c g h4 n.2.2.2).val
      exact .of2 (s_chain (o_cmp (g.room n.1) op) (o_cmp (g.room n.1) op') (nobehind' h1') ka kb kc) (s_chainT (o_cmp (g.room n.1) op) (o_cmp (g.room n.1) op') (nobehind' h1') ka kb kc)
    · cases h
  | .not a, w, W, sc, L, X, g, E, h, n => by
    unfold chk at h; split at h
    · have ka := chk_ok a g h n
      exact .of2 (s_not ka.val) (s_notT ka.tst)
    · cases h
  | .and_ l, w, W, sc, L, X, g, E, h, n => by
    unfold chk at h; split at h
    · simp only [Bool.not_eq_true', Bool.and_eq_true] at h
      obtain ⟨h1, h2⟩ := ((chkL_ok l g h.2 n).and_ _ (by intro z; rw [z] at h; simp at h))
      exact .of2 h1 h2.pt
    · cases h
  | .or_ l, w, W, sc, L, X, g, E, h, n => by
    unfold chk at h; split at h
    · simp only [Bool.not_eq_true', Bool.and_eq_true] at h
      obtain ⟨h1, h2⟩ := ((chkL_ok l g h.2 n).or_ _ (by intro z; rw [z] at h; simp at h))
      exact .of2 h1 h2.pt
    · cases h
  | .ite c a b, w, W, sc, L, X, g, E, h, n => by
    unfold chk at h; split at h
    · simp only [Bool.and_eq_true] at h
      have kc := chk_ok c g h.1.1 n.1
      have ka := chk_ok a g h.1.2 n.2.1
      have kb := chk_ok b g h.2 n.2.2
      refine .of2 (s_ite kc.tst ka.val kb.val) (s_iteT kc.tst ka.tst kb.tst)
    · cases h
  | .tup l, w, W, sc, L, X, g, E, h, n => by
    unfold chk at h; split at h
    · exact .of (s_tup (chkL_ok l g h n).sh) rfl
    · cases h
  | .lst l, w, W, sc, L, X, g, E, h, n => by
    unfold chk at h; split at h
    · exact .of (s_lst (chkL_ok l g h n).sh) rfl
    · cases h
  | .dict0 _, w, W, sc, L, X, g, E, h, n => by
    unfold chk at h; split at h
    · exact .of (p := fun S => .ok (.fr (.dic [] [])) S) s_dict0 rfl
    · cases h
  | .dic1 a b, w, W, sc, L, X, g, E, h, n => by
    unfold chk at h; split at h
    · simp only [Bool.and_eq_true] at h
      exact .of (s_dic1 (chk_ok a g h.1 n.1).val (chk_ok b g h.2 n.2).val) rfl
    · cases h
  | .lset a, w, W, sc, L, X, g, E, h, n => by
    unfold chk at h; split at h
    · simp only [Bool.and_eq_true, decide_eq_true_eq, Bool.not_eq_true'] at h
      obtain ⟨⟨⟨⟨⟨rfl, rfl⟩, h1⟩, h2⟩, h3⟩, h4⟩ := h
      exact .of (s_lset (g.calm n.1) (g.gl h1) (g.mg _ (by decide +kernel)) (g.gl h2) (g.mg _ (by decide +kernel)) (chk_ok a g h4 n.2).val (star_cons h3)) rfl
    · cases h
  | .lrg tp (.rng1 a), w, W, sc, L, X, g, E, h, n => by
    unfold chk at h; split at h
    · simp only [decide_eq_true_eq, Bool.and_eq_true] at h
      obtain ⟨⟨⟨hx, h1⟩, _⟩, h2⟩ := h
      unfold chkI at h2; split at h2
      · simp only [Bool.and_eq_true, decide_eq_true_eq, Bool.not_eq_true'] at h2
        obtain ⟨⟨⟨rfl, q1⟩, q2⟩, q3⟩ := h2
        exact .of (p := kLrg tp (kRng1 (evc a).val)) (s_lrg1 hx (g.calm n.1) (g.gl h1) (g.mg _ (by rw [hx]; cases tp <;> decide +kernel)) (g.gl q1) (g.mg _ (by decide +kernel)) (chk_ok a g q3 n.2).val (star_cons q2)) rfl
      · cases h2
    · cases h
  | .lrg tp (.rng2 a b), w, W, sc, L, X, g, E, h, n => by
    unfold chk at h; split at h
    · simp only [decide_eq_true_eq, Bool.and_eq_true] at h
      obtain ⟨⟨⟨hx, h1⟩, _⟩, h2⟩ := h
      unfold chkI at h2; split at h2
      · simp only [Bool.and_eq_true, decide_eq_true_eq, Bool.not_eq_true'] at h2
        obtain ⟨⟨⟨⟨⟨rfl, q1⟩, q2⟩, q2'⟩, q3⟩, q4⟩ := h2
        exact .of (p := kLrg tp (kRng2 (evc a).val (evc b).val)) (s_lrg2 hx (g.calm n.1) (g.gl h1) (g.mg _ (by rw [hx]; cases tp <;> decide +kernel)) (g.gl q1) (g.mg _ (by decide +kernel)) (chk_ok a g q3 n.2.1).val (chk_ok b g q4 n.2.2).val (star_cons q2) (star_cons q2') (fun pos => star_any (by unfold noStars; simp [q2']))) rfl
      · cases h2
    · cases h
  | .lrg tp (.val _), w, W, sc, L, X, g, E, h, n => by
    unfold chk at h; split at h
    · simp [CI.isRng] at h
    · cases h
  | .lrg tp (.enum _), w, W, sc, L, X, g, E, h, n => by
    unfold chk at h; split at h
    · simp [CI.isRng] at h
    · cases h
  | .lrg tp (.zip _ _), w, W, sc, L, X, g, E, h, n => by
    unfold chk at h; split at h
    · simp [CI.isRng] at h
    · cases h
  | .sub a b, w, W, sc, L, X, g, E, h, n => by
    unfold chk at h; split at h
    · simp only [Bool.not_eq_true', Bool.and_eq_true] at h
      exact .of (s_sub (plain_ix h.1.1) (chk_ok a g h.1.2 n.1).val (chk_ok b g h.2 n.2).val) rfl
    · cases h
  | .noe, w, W, sc, L, X, g, E, h, n => by unfold chk at h; cases h
  | .slc a lo hi, w, W, sc, L, X, g, E, h, n => by
    unfold chk at h; split at h
    · rename_i l lo' hi' p2 pos
      simp only [Bool.and_eq_true] at h
      obtain ⟨⟨h1, h2⟩, h3⟩ := h
      refine .of (s_slc (nl := lo.isNoe) (nh := hi.isNoe) (chk_ok a g h1 n.1).val ?_ ?_ g.eK) rfl
      · cases lo' with
        | none => exact h2
        | some e =>
          simp only [Bool.not_eq_true', Bool.and_eq_true] at h2
          exact ⟨h2.1, (chk_ok lo g h2.2 n.2.1).val⟩
      · cases hi' with
        | none => exact h3
        | some e =>
          simp only [Bool.not_eq_true', Bool.and_eq_true] at h3
          exact ⟨h3.1, (chk_ok hi g h3.2 n.2.2).val⟩
    · cases h
  | .rev a, w, W, sc, L, X, g, E, h, n => by
    unfold chk at h; split at h
    · exact .of (s_rev (chk_ok a g h n).val) rfl
    · cases h
  | .fld a f cs, w, W, sc, L, X, g, E, h, n => by
    unfold chk at h; split at h
    · simp only [Bool.and_eq_true, decide_eq_true_eq, Bool.not_eq_true'] at h
      obtain ⟨⟨rfl, h1⟩, h2⟩ := h
      exact .of (s_fld (fun c hc => g.fld c f (n.2 c hc)) (chk_ok a g h2 n.1).val (attr_base h1)) rfl
    · cases h
  | .bi b l, w, W, sc, L, X, g, E, h, n => by
    unfold chk at h; split at h
    · simp only [decide_eq_true_eq, Bool.and_eq_true] at h
      obtain ⟨⟨⟨rfl, h1⟩, h2⟩, h3⟩ := h
      obtain ⟨s1, s2⟩ := noStars_cons h2
      exact .of (s_bi b (g.room n.1) g.gd (g.calm n.1) (g.gl h1) (g.mg _ (bi_mem b)) (chkL_ok l g h3 n.2).vw (star_cons s1) (star_any s2)) rfl
    · cases h
  | .bm _ _ _, w, W, sc, L, X, g, E, h, n => by unfold chk at h; cases h
  | .mm m i l, w, W, sc, L, X, g, E, h, n => by
    unfold chk at h; split at h
    · rename_i x xp f ap es cp
      simp only [decide_eq_true_eq, Bool.and_eq_true] at h
      obtain ⟨⟨⟨⟨⟨⟨rfl, ho⟩, hv⟩, hl⟩, hs⟩, hlen⟩, h2⟩ := h
      obtain ⟨v1, v2, v3, v4⟩ := g.var hv
      refine .of (p := kMm isSeqL (mmD m) i (evl l).sh) ?_ rfl
      cases es with
      | nil =>
        cases l <;> first | (cases h2) | skip
        exact s_mm0 ho v1 v2 v3 v4 hl rfl rfl
      | cons e es =>
        obtain ⟨s1, s2⟩ := noStars_cons hs
        refine s_mm ho v1 v2 v3 v4 hl rfl (chkL_ok l g h2 n).sh ?_ (star_cons s1) (star_any s2)
        rw [star_all hs]
        simp only [Bool.true_and]
        show (true && decide _) = true
        rw [Bool.true_and, decide_eq_true_eq]
        simp at hlen ⊢
        omega
    · cases h
  | .isi a ts, w, W, sc, L, X, g, E, h, n => by
    unfold chk at h; split at h
    · rename_i x xp e t pos
      simp only [decide_eq_true_eq, Bool.and_eq_true] at h
      obtain ⟨⟨⟨rfl, h1⟩, h2⟩, h3⟩ := h
      have hm := g.mg _ (show Str.ofString "isinstance" ∈ bnames by decide +kernel)
      have ka := (chk_ok a g h2 n).val
      have se : isStar e = false := by
        cases e <;> first | rfl | (exfalso; revert h2; cases a <;> (intro h2; unfold chk at h2; cases h2))
      split at h3
      · rename_i es kt pt
        simp only [Bool.and_eq_true, decide_eq_true_eq, Bool.not_eq_true'] at h3
        obtain ⟨t1, t2⟩ := tys_ok g h3.2
        cases ts with
        | nil => simp at h3
        | cons t ts => exact .of (s_isiT t1 h3.1.2 (g.gl h1) hm t2 ka (star_cons se)) rfl
      · rename_i y p
        cases ts with
        | nil => cases h3
        | cons t ts =>
          cases ts with
          | cons _ _ => have h3 : (tyC sc t (.Name y p) && false) = true := h3; rw [Bool.and_false] at h3; cases h3
          | nil =>
            have h3 : (tyC sc t (.Name y p) && true) = true := h3
            rw [Bool.and_true] at h3
            have h3 : (decide (y = Str.ofString t.nm) && glC sc y && t.ok) = true := h3
            simp only [decide_eq_true_eq, Bool.and_eq_true] at h3
            obtain ⟨⟨rfl, hg⟩, ho⟩ := h3
            exact .of (s_isi1 ho (g.gl h1) hm (g.gl hg) (g.mg _ (ty_mem ho)) ka (star_cons se) rfl) rfl
      · cases h3
    · cases h
  | .call x sg l, w, W, sc, L, X, g, E, h, n => by
    unfold chk at h; split at h
    · rename_i y yp es pos
      simp only [Bool.and_eq_true, decide_eq_true_eq, Bool.not_eq_true'] at h
      obtain ⟨⟨⟨⟨rfl, h1⟩, h2⟩, h3⟩, h4⟩ := h
      obtain ⟨f, F, f1, f2, rm⟩ := g.call x sg n.1
      refine .of (p := kCall sg (evl l).md) ?_ rfl
      cases es with
      | nil =>
        simp only [Bool.and_eq_true] at h4
        cases l <;> first | (cases h4.1) | skip
        refine s_callC0 F g.gd rm g.tk (g.gl h1) f1 f2 ?_ h2
        have : sg.md = [] := List.isEmpty_iff.mp h4.2
        rw [this]; rfl
      | cons e es =>
        obtain ⟨s1, s2⟩ := noStars_cons h3
        exact s_callC F g.gd rm g.tk (g.gl h1) f1 f2 ((chkL_ok l g h4 n.2).md _) h2 (star_cons s1) (star_any s2)
    · cases h
  | .callk x ps sg l ks kl, w, W, sc, L, X, g, E, h, n => by
    unfold chk at h; split at h
    · rename_i y yp es kws pos
      simp only [Bool.and_eq_true, decide_eq_true_eq, Bool.not_eq_true'] at h
      obtain ⟨⟨⟨⟨⟨⟨rfl, h1⟩, h2⟩, h3⟩, h5⟩, h6⟩, h4⟩ := h
      obtain ⟨f, fd, F, f1, f2, f3, rm⟩ := g.callk x ps sg l.len ks n.1
      refine .of (p := kCallk sg ps ks l.len (evl l).sh (evl kl).sh) ?_ rfl
      have hk := chkK_ok kl g h6 n.2.2
      cases es with
      | nil =>
        cases l <;> first | (cases h4) | skip
        exact s_callk0 F g.gd rm g.tk (g.gl h1) f1 f2 f3 hk h5 rfl h2
      | cons e es =>
        obtain ⟨s1, s2⟩ := noStars_cons h3
        exact s_callk F g.gd rm g.tk (g.gl h1) f1 f2 f3 (chkL_ok l g h4 n.2.1).sh hk h5 h2 (star_cons s1) (star_any h3)
    · cases h
  | .isc a os, w, W, sc, L, X, g, E, h, n => by
    unfold chk at h; split at h
    · rename_i x xp e t pos
      simp only [decide_eq_true_eq, Bool.and_eq_true, Bool.not_eq_true'] at h
      obtain ⟨⟨⟨⟨rfl, h1⟩, se⟩, h2⟩, h3⟩ := h
      have hm := g.mg _ (show Str.ofString "isinstance" ∈ bnames by decide +kernel)
      have ka := (chk_ok a g h2 n.1).val
      split at h3
      · rename_i es kt pt
        simp only [Bool.and_eq_true, decide_eq_true_eq, Bool.not_eq_true'] at h3
        obtain ⟨t1, t2⟩ := otys_ok g h3.2 n.2
        cases os with
        | nil => simp at h3
        | cons o os => exact .of (s_iscT t1 h3.1.2 (g.gl h1) hm t2 ka (star_cons se)) rfl
      · rename_i y p
        cases os with
        | nil => cases h3
        | cons o os =>
          cases os with
          | cons _ _ => simp [otysC] at h3
          | nil =>
            simp only [otysC, otyC, Bool.and_true, decide_eq_true_eq, Bool.and_eq_true, Bool.not_eq_true'] at h3
            obtain ⟨⟨rfl, h4⟩, h5⟩ := h3
            exact .of (s_isc1 (g.isc o (n.2 o (.head _))) (g.gl h1) hm (g.gl h4) h5 ka (star_cons se) rfl) rfl
      · cases h3
    · cases h
  | .fldx a f cs, w, W, sc, L, X, g, E, h, n => by
    unfold chk at h; split at h
    · simp only [Bool.and_eq_true, decide_eq_true_eq, Bool.not_eq_true'] at h
      obtain ⟨⟨rfl, h1⟩, h2⟩ := h
      exact .of (s_fldX (fun c hc => g.fldx c f (n.2 c hc)) (chk_ok a g h2 n.1).val (attr_base h1)) rfl
    · cases h
  | .heard x hh p, w, W, sc, L, X, g, E, h, n => by
    unfold chk at h; split at h
    · rename_i y yp pr body scope lp pos
      simp only [Bool.and_eq_true, decide_eq_true_eq, Bool.not_eq_true'] at h
      obtain ⟨⟨⟨⟨⟨rfl, h1⟩, h2⟩, h3⟩, h4⟩, h5⟩ := h
      obtain ⟨gg, pg, bg, sg, dV, kV, doc, pm, cdv, ct, oc, an, od, osl, Ng, a, CS, ic, ie, yes, b, m1, m2, m3, m4, m5, m6, m7, m8, m9, m10, m11, m12, m13, rfl, m15, m16⟩ := (g.heard x hh n.1).ex
      obtain ⟨la, room⟩ := g.lam n.2.1
      refine .of (p := kHeard ⟨Ng.length, ic, yes, tailFO b⟩ (evc p).val) (PE_imp (pe_heard (g.gl h1) m1 m2 m3 m4 m5 m6 m7 m8 (m16 X _ rfl rfl rfl rfl rfl g.gd) la room g.gd h3 (lamN_by (by rw [g.eN, g.esc]; exact h4)) (t := fun E => tE G (fun cls d _ H => E cls d H) (evc p).val) ?_ h2 m9 m10) fun σ H Q h => tri_heard m15 m11 m12 m13 h) rfl
      exact fun A outer s H E f c' hgd hr => (chk_ok p (g.lamb hgd hr) h5 n.2.2).val
    · cases h
  | .meth _ _ _ _ _, w, W, sc, L, X, g, E, h, n => by unfold chk at h; cases h
  | .mk _ _ _ _, w, W, sc, L, X, g, E, h, n => by unfold chk at h; cases h
  | .comp elt tg it ifs own, w, W, sc, L, X, g, E, h, n => by
    have hp : plainT E = true := by
      unfold chk at h; split at h
      · rfl
      · cases h
    refine .of (CompOk.pe (g.calm n.1) (g.eN ▸ g.nd) (N := N) ?_) hp
    unfold chk at h; split at h
    · rename_i e' tgE iter ifsE z scope pos
      simp only [decide_eq_true_eq, Bool.and_eq_true] at h
      obtain ⟨⟨⟨⟨⟨⟨⟨⟨⟨rfl, h1⟩, h2⟩, h3⟩, h4⟩, h5⟩, h6⟩, h7⟩, h8⟩, hT⟩ := h
      refine ⟨e', tgE, iter, ifsE, scope, pos, rfl, (chkI_ok it g h1 n.2.1 tgE (needT_of hT)).1, ?_, fun j hj => ?_, fun s H C cl fp => chkT_ok g.inner h3 (tgN_of n.1 _), fun s H C cl fp => (chkL_ok ifs g.inner h7 n.2.2.1).pts h5, fun s H C cl fp => (chk_ok elt g.inner h8 n.2.2.2).val, (chkI_ok it g h1 n.2.1 tgE (needT_of hT)).2⟩
      · rw [g.eN, g.esc]; exact blkOk_by h2
      · have := List.all_eq_true.mp h4 j hj
        exact List.elem_iff.mp this
    · cases h
theorem chkL_ok : ∀ (l : CL) {w : Wants} {W : WX} {sc : Scope} {L : List Str} {X : Cx} (g : Gd G W k w sc N L X) {es : List Expr}, chkL sc N L l es = true → needL w l → LOk G W X (evl l) es
  | .nil, w, W, sc, L, X, g, es, h, n => by
    unfold chkL at h
    cases es with
    | nil => exact .nil
    | cons _ _ => cases h
  | .cons e .nil, w, W, sc, L, X, g, es, h, n => by
    unfold chkL at h; split at h
    · rename_i E es
      simp only [Bool.not_eq_true', Bool.and_eq_true] at h
      obtain ⟨⟨h1, h2⟩, h3⟩ := h
      unfold chkL at h3
      cases es with
      | nil => exact .one (chk_ok e g h2 n.1) h1
      | cons _ _ => cases h3
    · cases h
  | .cons e (.cons e2 l), w, W, sc, L, X, g, es, h, n => by
    unfold chkL at h; split at h
    · rename_i E es
      simp only [Bool.not_eq_true', Bool.and_eq_true] at h
      obtain ⟨⟨h1, h2⟩, h3⟩ := h
      have r := chkL_ok (.cons e2 l) g h3 n.2
      cases es with
      | nil => unfold chkL at h3; cases h3
      | cons E2 es => exact .more (chk_ok e g h2 n.1) h1 r
    · cases h
  | .cons e (.star e2 l), w, W, sc, L, X, g, es, h, n => by
    unfold chkL at h; split at h
    · rename_i E es
      simp only [Bool.not_eq_true', Bool.and_eq_true] at h
      obtain ⟨⟨h1, h2⟩, h3⟩ := h
      refine .moreS (chk_ok e g h2 n.1) h1 (chkL_ok (.star e2 l) g h3 n.2) ?_
      unfold chkL at h3; split at h3
      · exact ⟨_, _, _, rfl⟩
      · cases h3
    · cases h
  | .star e l, w, W, sc, L, X, g, es, h, n => by
    unfold chkL at h; split at h
    · simp only [Bool.and_eq_true] at h
      exact .star (chk_ok e g h.1 n.1) (chkL_ok l g h.2 n.2)
    · cases h
theorem chkK_ok : ∀ (l : CL) {w : Wants} {W : WX} {sc : Scope} {L : List Str} {X : Cx} (g : Gd G W k w sc N L X) {kws : List Keyword}, chkK sc N L l kws = true → needL w l → PK X kws (tL G W (ErD G) (evl l).sh)
  | .nil, w, W, sc, L, X, g, kws, h, n => by
    unfold chkK at h
    cases kws with
    | nil => exact sk_nil
    | cons _ _ => cases h
  | .cons e .nil, w, W, sc, L, X, g, kws, h, n => by
    unfold chkK at h; split at h
    · simp only [Bool.and_eq_true] at h
      rename_i kw kws
      obtain ⟨nm, V, kp⟩ := kw
      exact sk_cons (E := ErD G) lastsD (s_shr (chk_ok e g h.1 n.1).val) (chkK_ok .nil g h.2 n.2)
    · cases h
  | .cons e (.cons e2 l), w, W, sc, L, X, g, kws, h, n => by
    unfold chkK at h; split at h
    · simp only [Bool.and_eq_true] at h
      rename_i kw kws
      obtain ⟨nm, V, kp⟩ := kw
      exact sk_cons (E := ErD G) lastsD (s_shr (chk_ok e g h.1 n.1).val) (chkK_ok (.cons e2 l) g h.2 n.2)
    · cases h
  | .cons e (.star e2 l), w, W, sc, L, X, g, kws, h, n => by
    unfold chkK at h; split at h
    · simp only [Bool.and_eq_true] at h
      unfold chkK at h; cases h.2
    · cases h
  | .star e l, w, W, sc, L, X, g, kws, h, n => by unfold chkK at h; cases h
theorem chkI_ok : ∀ (it : CI) {w : Wants} {W : WX} {sc : Scope} {L : List Str} {X : Cx} (g : Gd G W k w sc N L X) {E : Expr}, chkI sc N L it E = true → needI w it → ∀ tg, (it.needT = true → isTupE tg = true) → PI X tg E (tI G W (evi it)) ∧ ∀ x, foldedSetIterable E X.env x = pure x
  | .val e, w, W, sc, L, X, g, E, h, n, tg, ht => by
    unfold chkI at h
    simp only [Bool.not_eq_true', Bool.and_eq_true] at h
    exact ⟨i_val (chk_ok e g h.2 n).val, fold_no h.1⟩
  | .rng1 a, w, W, sc, L, X, g, E, h, n, tg, ht => by
    unfold chkI at h; split at h
    · simp only [Bool.and_eq_true, decide_eq_true_eq, Bool.not_eq_true'] at h
      obtain ⟨⟨⟨rfl, h1⟩, h2⟩, h3⟩ := h
      exact ⟨i_rng1 (g.gl h1) (g.mg _ (by decide +kernel)) (chk_ok a g h3 n).val (star_cons h2), fun _ => rfl⟩
    · cases h
  | .rng2 a b, w, W, sc, L, X, g, E, h, n, tg, ht => by
    unfold chkI at h; split at h
    · simp only [Bool.and_eq_true, decide_eq_true_eq, Bool.not_eq_true'] at h
      obtain ⟨⟨⟨⟨⟨rfl, h1⟩, h2⟩, h3⟩, h4⟩, h5⟩ := h
      exact ⟨i_rng2 (g.gl h1) (g.mg _ (by decide +kernel)) (chk_ok a g h4 n.1).val (chk_ok b g h5 n.2).val (by rw [star_cons h2, star_cons h3]; rfl) (star_cons h3), fun _ => rfl⟩
    · cases h
  | .enum a, w, W, sc, L, X, g, E, h, n, tg, ht => by
    obtain ⟨es, k', p', rfl⟩ := tup_of (ht rfl)
    unfold chkI at h; split at h
    · simp only [decide_eq_true_eq, Bool.and_eq_true, Bool.not_eq_true'] at h
      obtain ⟨⟨⟨rfl, h1⟩, h2⟩, h3⟩ := h
      exact ⟨i_enum (g.gl h1) (g.mg _ (by decide +kernel)) (chk_ok a g h3 n).val (star_cons h2), fun _ => rfl⟩
    · cases h
  | .zip a b, w, W, sc, L, X, g, E, h, n, tg, ht => by
    obtain ⟨es, k', p', rfl⟩ := tup_of (ht rfl)
    unfold chkI at h; split at h
    · simp only [decide_eq_true_eq, Bool.and_eq_true, Bool.not_eq_true'] at h
      obtain ⟨⟨⟨⟨⟨rfl, h1⟩, h2⟩, h3⟩, h4⟩, h5⟩ := h
      exact ⟨i_zip (g.gl h1) (g.mg _ (by decide +kernel)) (chk_ok a g h4 n.1).val (chk_ok b g h5 n.2).val (star_cons h2) (star_cons h3) (star_any (by unfold noStars; simp [h3])), fun _ => rfl⟩
    · cases h
end
end
end Eng

namespace Eng
open PySem PySem.Spec L2
open PyProof.Rows hiding St

def CE.isComp : CE → Bool
  | .comp _ _ _ _ _ => true
  | _ => false
/-- the two values of x, y = a, b are stored the other way round -/
def parC (sc : Scope) (x y : Str) (px py : Pos) (a b : Expr) : Bool := decide (sc.kind = .function) && decide (sc.names.lookup x = some .local) && decide (sc.names.lookup y = some .local) && (py.line == px.line) && !(x == y) && !isStar a && !isStar b &&
  !([a, b].all (foldedForSure 8)) && !([a, b].all (constantsAlone 8))
/-- the values of a tuple are not stored the other way round -/
def swN (sc : Scope) (T E : Expr) : Bool := match T, E with
  | .Tuple ts _ _, .Tuple vs _ _ => (!(ts.length == 2 || ts.length == 3) || vs.length != ts.length) ||
      ((ts.filterMap fun t => match t with
        | .Name id pos => if sc.names.lookup id == some .local && pos.line == (ts.head?.map (·.pos.line)).getD 0 then some id else none
        | _ => none).length != ts.length) || vs.all (foldedForSure 8)
  | _, _ => false
def par3C (sc : Scope) (x y z : Str) (px py pz : Pos) (a b c : Expr) : Bool := decide (sc.kind = .function) && decide (sc.names.lookup x = some .local) && decide (sc.names.lookup y = some .local) && decide (sc.names.lookup z = some .local) && (py.line == px.line) && (pz.line == px.line) &&
  decide ([x, y, z].eraseDups = [x, y, z]) && !isStar a && !isStar b && !isStar c && !([a, b, c].all (foldedForSure 8)) && !([a, b, c].all (constantsAlone 8))
mutual
def chkS (sc : Scope) (N L : List Str) : CS → Stmt → Bool
  | .expr e, st => match st with
    | .Expr E _ => noComp E && chk sc N L e E
    | _ => false
  | .asg tg e, st => match tg with
    | .nm i => (match st with
      | .Assign [.Name x px] E pos => asgC sc N L i x && chk sc N L e E && (noComp E || (e.isComp && decide (sc.kind = .function)))
      | _ => false)
    | .tup l => (match st with
      | .Assign [T] E _ => chkT sc N L (.tup l) T && chk sc N L e E && noComp E && (!isTupE E || swN sc T E)
      | _ => false)
    | _ => false
  | .par i j a b, st => match st with
    | .Assign [.Tuple [.Name x px, .Name y py] _ _] (.Tuple [A, B] _ _) _ => decide (N[i]? = some x) && decide (N[j]? = some y) && !(i == j) && parC sc x y px py A B && chk sc N L a A && chk sc N L b B
    | _ => false
  | .parl is l, st => match is with
    | [i, j, k] => (match st with
      | .Assign [.Tuple [.Name x px, .Name y py, .Name z pz] _ _] (.Tuple [A, B, C] _ _) _ => decide (N[i]? = some x) && decide (N[j]? = some y) && decide (N[k]? = some z) && !(i == j) && !(i == k) && !(j == k) && par3C sc x y z px py pz A B C && chkL sc N L l [A, B, C]
      | _ => false)
    | _ => false
  | .setix i ix e, st => match st with
    | .Assign [.Subscript (.Name x _) I _] E _ => varC sc N i x && !isSliceE I && noComp E && chk sc N L e E && chk sc N L ix I
    | _ => false
  | .setf i f c e, st => match st with
    | .Assign [.Attribute (.Name x _) f' _] E _ => varC sc N i x && decide (f = f') && noComp E && chk sc N L e E
    | _ => false
  | .ifs c a b, st => match st with
    | .If C A B _ => chk sc N L c C && chkB sc N L a A && chkB sc N L b B
    | _ => false
  | .for_ tg it b, st => match st with
    | .For T I B [] _ => chkT sc N L tg T && chkI sc N L it I && chkB sc N L b B && (!it.needT || isTupE T)
    | _ => false
  | .whl fuel c b, st => match st with
    | .While C B [] _ => chk sc N L c C && chkB sc N L b B
    | _ => false
  | .ret e, st => match st with
    | .Return (some E) _ => chk sc N L e E
    | _ => false
  | .retn, st => match st with
    | .Return none _ => true
    | _ => false
  | .pass, st => match st with
    | .Pass _ => true
    | _ => false
  | .brk, st => match st with
    | .Break _ => true
    | _ => false
  | .cnt, st => match st with
    | .Continue _ => true
    | _ => false
  | .never, _ => true
  | .rais _ nm _ l, st => match st with
    | .Raise (some (.Call (.Name y _) (e :: es) [] _)) none _ => decide (nm = y) && glC sc nm && !(nm == ("__debug__" : Str)) && noStars (e :: es) && chkL sc N L l (e :: es)
    | _ => false
def chkB (sc : Scope) (N L : List Str) : CB → List Stmt → Bool
  | .nil, [] => true
  | .cons s b, st :: r => chkS sc N L s st && chkB sc N L b r
  | _, _ => false
end
mutual
def needS (w : Wants) : CS → Prop
  | .expr e => needE w e
  | .asg tg e => tgN w tg ∧ needE w e
  | .par _ _ a b => w.calm ∧ needE w a ∧ needE w b
  | .parl _ l => w.calm ∧ needL w l
  | .setix _ ix e => needE w ix ∧ needE w e
  | .setf _ f c e => w.fld c f ∧ needE w e
  | .ifs c a b => needE w c ∧ needB w a ∧ needB w b
  | .for_ _ it b => w.calm ∧ needI w it ∧ needB w b
  | .whl _ c b => needE w c ∧ needB w b
  | .ret e => needE w e
  | .retn => True
  | .pass => True
  | .brk => True
  | .cnt => True
  | .never => True
  | .rais c nm xs l => w.exc c nm xs ∧ w.calm ∧ needL w l
def needB (w : Wants) : CB → Prop
  | .nil => True
  | .cons s b => needS w s ∧ needB w b
end
section
variable {G : Gs} {W : WX} {k : Nat} {w : Wants} {sc : Scope} {N L : List Str} {X : Cx}
theorem comp_ok {elt : CE} {tg : Tg} {it : CI} {ifs : CL} {own : List Nat} (g : Gd G W k w sc N L X) {E : Expr} (h : chk sc N L (.comp elt tg it ifs own) E = true) (n : needE w (.comp elt tg it ifs own)) : CompOk G W X (evc elt).val tg (evi it) ((evl ifs).tn true) own N E := by
  unfold chk at h; split at h
  · rename_i e' tgE iter ifsE z scope pos
    simp only [decide_eq_true_eq, Bool.and_eq_true] at h
    obtain ⟨⟨⟨⟨⟨⟨⟨⟨⟨rfl, h1⟩, h2⟩, h3⟩, h4⟩, h5⟩, h6⟩, h7⟩, h8⟩, hT⟩ := h
    refine ⟨e', tgE, iter, ifsE, scope, pos, rfl, (chkI_ok it g h1 n.2.1 tgE (needT_of hT)).1, ?_, fun j hj => ?_, fun s H C cl fp => chkT_ok g.inner h3 (tgN_of n.1 _), fun s H C cl fp => (chkL_ok ifs g.inner h7 n.2.2.1).pts h5, fun s H C cl fp => (chk_ok elt g.inner h8 n.2.2.2).val, (chkI_ok it g h1 n.2.1 tgE (needT_of hT)).2⟩
    · rw [g.eN, g.esc]; exact blkOk_by h2
    · exact List.elem_iff.mp (List.all_eq_true.mp h4 j hj)
  · cases h
theorem sw_comp {elt : Expr} {gs : List Comprehension} {scope : Scope} {pos py : Pos} {y : Str} {l : Nat} {env : Env} (hk : env.scope.kind = .function) :
    swapsWith (.ListComp elt gs scope pos) (some (.Name y py)) l env = pure (env.kindOf y == some .local && py.line == pos.line && !(scope.names.any fun (n, k) => n == y && (k == .local || k == .cell))) := by
  have hb : env.blockKind = .function := by unfold Env.blockKind; rw [hk]; rfl
  unfold swapsWith
  simp only [hb, Expr.pos]
  rfl
theorem b_setLc {elt : KE} {tg : Tg} {it : SS → R (List D × Option Nat)} {ifs : KT} {own : List Nat} {E : Expr} {i : Nat} {y : Str} {py spos : Pos} (hc : X.calm = true) (hN : X.N.Nodup) (h : CompOk G W X elt tg it ifs own N E) (hy : X.N[i]? = some y) (hyl : X.env.scope.names.lookup y = some .local)
    (hsw : swapsWith E (some (.Name y py)) spos.line X.env = pure true) : PS X (.Assign [.Name y py] E spos) (tS G W fun S => (kComp elt tg it ifs own S).toF fun r S1 => asgV (.nm i) r S1) := by
  obtain ⟨e', tgE, iter, ifsE, scope, pos, rfl, h1, h2, h3, h4, h5, h6, h7⟩ := h.ex
  exact PS_imp (ps_setLc hc hN hy hyl hsw h1 h2 h4 h5 h6 h7) fun D σ H q => by
    have q := tri_set q
    rw [ownP_snd]
    exact tri_comp h3 q
theorem any2 {a b : Expr} {f : Expr → Bool} (ha : isStar a = false) (hb : isStar b = false) (hf : ∀ e, isStar e = false → f e = false) : [a, b].any f = false := by
  simp [hf a ha, hf b hb]
theorem fm2 {α β : Type} {a b : α} {x y : β} {f : α → Option β} (ha : f a = some x) (hb : f b = some y) : [a, b].filterMap f = [x, y] := by
  simp [ha, hb]
theorem par_sw {x y : Str} {px py pt pt2 : Pos} {kt k2 : Nat} {a b : Expr} {env : Env} (h : parC env.scope x y px py a b = true) : swappedStores [.Tuple [.Name x px, .Name y py] kt pt] (.Tuple [a, b] k2 pt2) env = pure (some [x, y]) ∧ env.scope.names.lookup x = some .local ∧ env.scope.names.lookup y = some .local := by
  unfold parC at h
  simp only [Bool.and_eq_true, decide_eq_true_eq, Bool.not_eq_true'] at h
  obtain ⟨⟨⟨⟨⟨⟨⟨⟨h1, h2⟩, h3⟩, h4⟩, h5⟩, h6⟩, h7⟩, h8⟩, h9⟩ := h
  refine ⟨?_, h2, h3⟩
  have hb : env.blockKind = .function := by unfold Env.blockKind; rw [h1]; rfl
  have kx : env.kindOf x = some .local := h2
  have ky : env.kindOf y = some .local := h3
  have nd : (y == x) = false := by
    cases e : (y == x) with
    | false => rfl
    | true => rw [eq_of_beq e] at h5; rw [beq_self_eq_true] at h5; cases h5
  unfold swappedStores
  dsimp only
  generalize hn : List.filterMap _ [Expr.Name x px, Expr.Name y py] = names
  have en : names = [x, y] := by
    rw [← hn]
    refine fm2 ?_ ?_
    · show (if (env.kindOf x == some .local && px.line == px.line) = true then some x else none) = some x
      rw [kx]; simp
    · show (if (env.kindOf y == some .local && py.line == px.line) = true then some y else none) = some y
      rw [ky, h4]; simp
  rw [any2 h6 h7 (fun e he => by cases e <;> first | rfl | cases he), h8, h9, hb, en]
  have ed : [x, y].eraseDups = [x, y] := by
    simp [List.eraseDups, List.eraseDupsBy, List.eraseDupsBy.loop, nd]
  rw [ed]
  rfl
theorem any3 {a b c : Expr} {f : Expr → Bool} (ha : isStar a = false) (hb : isStar b = false) (hc : isStar c = false) (hf : ∀ e, isStar e = false → f e = false) : [a, b, c].any f = false := by
  simp [hf a ha, hf b hb, hf c hc]
theorem fm3 {α β : Type} {a b c : α} {x y z : β} {f : α → Option β} (ha : f a = some x) (hb : f b = some y) (hc : f c = some z) : [a, b, c].filterMap f = [x, y, z] := by
  simp [ha, hb, hc]
theorem par3_sw {x y z : Str} {px py pz pt pt2 : Pos} {kt k2 : Nat} {a b c : Expr} {env : Env} (h : par3C env.scope x y z px py pz a b c = true) : swappedStores [.Tuple [.Name x px, .Name y py, .Name z pz] kt pt] (.Tuple [a, b, c] k2 pt2) env = pure (some [x, y, z]) ∧
    (env.scope.names.lookup x = some .local ∧ env.scope.names.lookup y = some .local ∧ env.scope.names.lookup z = some .local) ∧ isStar a = false ∧ isStar b = false ∧ isStar c = false := by
  unfold par3C at h
  simp only [Bool.and_eq_true, decide_eq_true_eq, Bool.not_eq_true'] at h
  obtain ⟨⟨⟨⟨⟨⟨⟨⟨⟨⟨⟨h1, h2⟩, h3⟩, h3'⟩, h4⟩, h4'⟩, h5⟩, h6⟩, h7⟩, h7'⟩, h8⟩, h9⟩ := h
  refine ⟨?_, ⟨h2, h3, h3'⟩, h6, h7, h7'⟩
  have hb : env.blockKind = .function := by unfold Env.blockKind; simp only [h1]; rfl
  have kx : env.kindOf x = some .local := h2
  have ky : env.kindOf y = some .local := h3
  have kz : env.kindOf z = some .local := h3'
  unfold swappedStores
  dsimp only
  generalize hn : List.filterMap _ [Expr.Name x px, Expr.Name y py, Expr.Name z pz] = names
  have en : names = [x, y, z] := by
    rw [← hn]
    refine fm3 ?_ ?_ ?_
    · show (if (env.kindOf x == some .local && px.line == px.line) = true then some x else none) = some x
      rw [kx]; simp
    · show (if (env.kindOf y == some .local && py.line == px.line) = true then some y else none) = some y
      rw [ky, h4]; simp
    · show (if (env.kindOf z == some .local && pz.line == px.line) = true then some z else none) = some z
      rw [kz, h4']; simp
  rw [any3 h6 h7 h7' (fun e he => by cases e <;> first | rfl | cases he), h8, h9, hb, en, h5]
  rfl
theorem swap_tup {T E : Expr} {env : Env} (h : isTupE E = false) : swappedStores [T] E env = pure none := by
  cases E <;> first | (cases h) | skip
  all_goals (cases T <;> rfl)
theorem swN_ok {T E : Expr} {env : Env} (h : swN env.scope T E = true) : swappedStores [T] E env = pure none := by
  unfold swN at h
  split at h
  · rename_i ts k p vs k2 p2
    simp only [Bool.or_eq_true] at h
    unfold swappedStores
    dsimp only
    split
    · rfl
    · rename_i n1
      split
      · rfl
      · split
        · rfl
        · rename_i n3
          split
          · rfl
          · rename_i n4
            exfalso
            rcases h with (h | h) | h
            · apply n1
              rw [show (!(ts.length == 2 || ts.length == 3) || vs.length != ts.length) = true by simpa using h]
              rfl
            · apply n3
              refine Bool.or_eq_true_iff.mpr (.inl ?_)
              exact h
            · exact n4 h
  · cases h
mutual
theorem chkS_ok : ∀ (s : CS) (g : Gd G W k w sc N L X) {st : Stmt}, chkS sc N L s st = true → needS w s → PS X st (tS G W (exs s))
  | .expr e, g, st, h, n => by
    unfold chkS at h; split at h
    · simp only [Bool.and_eq_true] at h
      exact b_expr (chk_ok e g h.2 n).val (sw_no h.1)
    · cases h
  | .asg tg e, g, st, h, n => by
    unfold chkS at h; split at h
    · rename_i i
      split at h
      · rename_i x px E pos
        simp only [Bool.and_eq_true, Bool.or_eq_true, decide_eq_true_eq] at h
        obtain ⟨⟨h1, h2⟩, h3⟩ := h
        obtain ⟨q1, q2, q3⟩ := g.asg h1
        cases hnc : noComp E with
        | true => exact b_set (g.eN ▸ g.nd) q1 q2 (chk_ok e g h2 n.2).val (sw_no hnc) q3
        | false =>
          obtain ⟨hc, hk⟩ := h3.resolve_left (by rw [hnc]; simp)
          cases e <;> first | (cases hc) | skip
          rename_i elt tg' it ifs own
          have co := comp_ok g h2 n.2
          obtain ⟨e', tgE, iter, ifsE, scope, pos', rfl, _⟩ := co.ex
          have hk' : X.env.scope.kind = .function := by rw [g.esc]; exact hk
          have sw := sw_comp (elt := e') (gs := [⟨tgE, iter, ifsE, 0⟩]) (scope := scope) (pos := pos') (py := px) (y := x) (l := pos.line) (env := X.env) hk'
          cases hb : (X.env.kindOf x == some .local && px.line == pos'.line && !(scope.names.any fun (n, k) => n == x && (k == .local || k == .cell))) with
          | true =>
            rw [hb] at sw
            simp only [Bool.and_eq_true] at hb
            exact b_setLc (g.calm n.2.1) (g.eN ▸ g.nd) co q1 (eq_of_beq hb.1.1) sw
          | false =>
            rw [hb] at sw
            exact b_set (g.eN ▸ g.nd) q1 q2 (chk_ok _ g h2 n.2).val sw q3
      · cases h
    · rename_i l
      split at h
      · rename_i T E pos
        simp only [Bool.not_eq_true', Bool.and_eq_true] at h
        obtain ⟨⟨⟨h1, h2⟩, h3⟩, h4⟩ := h
        have h5 : swappedStores [T] E X.env = pure none := by
          cases ht : isTupE E with
          | false => exact swap_tup ht
          | true => rw [ht] at h4; exact swN_ok (g.esc.symm ▸ h4)
        refine b_asgT (chk_ok e g h2 n.2).val (chkT_ok g h1 n.1) (sw_no h3) h5 ?_
        cases T <;> first | rfl | (cases h1)
      · cases h
    · cases h
  | .par i j a b, g, st, h, n => by
    unfold chkS at h; split at h
    · rename_i x px y py kt pt A B k2 pt2 pos
      simp only [Bool.and_eq_true, decide_eq_true_eq, Bool.not_eq_true'] at h
      obtain ⟨⟨⟨⟨⟨h1, h2⟩, h3⟩, h4⟩, h5⟩, h6⟩ := h
      rw [← g.esc] at h4
      obtain ⟨s1, s2, s3⟩ := par_sw (pt := pt) (pt2 := pt2) (kt := kt) (k2 := k2) h4
      have hs : isStar A = false ∧ isStar B = false := by
        unfold parC at h4
        simp only [Bool.and_eq_true, decide_eq_true_eq, Bool.not_eq_true'] at h4
        exact ⟨h4.1.1.1.2, h4.1.1.2⟩
      exact b_par (g.calm n.1) (g.eN ▸ g.nd) (g.eN ▸ h1) (g.eN ▸ h2) (fun z => by rw [z] at h3; simp at h3) s2 s3 (chk_ok a g h5 n.2.1).val (chk_ok b g h6 n.2.2).val (star_cons hs.1) (star_cons hs.2) s1 rfl
    · cases h
  | .parl is l, g, st, h, n => by
    unfold chkS at h; split at h
    · rename_i i j k'
      split at h
      · rename_i x px y py z pz kt pt A B C k2 pt2 pos
        simp only [decide_eq_true_eq, Bool.and_eq_true, Bool.not_eq_true'] at h
        obtain ⟨⟨⟨⟨⟨⟨⟨h1, h2⟩, h3⟩, d1⟩, d2⟩, d3⟩, h4⟩, h5⟩ := h
        rw [← g.esc] at h4
        obtain ⟨s1, ⟨s2, s3, s4⟩, _⟩ := par3_sw (pt := pt) (pt2 := pt2) (kt := kt) (k2 := k2) h4
        exact b_par3 (g.calm n.1) (g.eN ▸ g.nd) (g.eN ▸ h1) (g.eN ▸ h2) (g.eN ▸ h3) (fun z => by rw [z] at d1; simp at d1) (fun z => by rw [z] at d2; simp at d2) (fun z => by rw [z] at d3; simp at d3) s2 s3 s4 (chkL_ok l g h5 n.2).cp s1
      · cases h
    · cases h
  | .setix i ix e, g, st, h, n => by
    unfold chkS at h; split at h
    · rename_i x xp I ap E pos
      simp only [Bool.not_eq_true', Bool.and_eq_true] at h
      obtain ⟨⟨⟨⟨h1, h2⟩, h3⟩, h4⟩, h5⟩ := h
      obtain ⟨q1, q2, q3, q4⟩ := g.var h1
      refine b_setix q1 q2 q3 q4 (chk_ok e g h4 n.2).val (chk_ok ix g h5 n.1).val (show swapsWith E (some (.Subscript (.Name x xp) I ap)) pos.line X.env = pure false from sw_no h3) ?_ rfl fun v => ?_
      · cases E <;> rfl
      · cases I <;> first | rfl | (cases h2)
    · cases h
  | .setf i f c e, g, st, h, n => by
    unfold chkS at h; split at h
    · simp only [decide_eq_true_eq, Bool.and_eq_true] at h
      obtain ⟨⟨⟨h1, rfl⟩, h3⟩, h4⟩ := h
      obtain ⟨q1, q2, q3, q4⟩ := g.var h1
      obtain ⟨c1, c2⟩ := g.fld c f n.1
      exact b_setf q1 q2 q3 q4 (chk_ok e g h4 n.2).val c1 c2 (sw_no h3)
    · cases h
  | .ifs c a b, g, st, h, n => by
    unfold chkS at h; split at h
    · simp only [Bool.and_eq_true] at h
      exact b_if (chk_ok c g h.1.1 n.1).tst (chkB_ok a g h.1.2 n.2.1) (chkB_ok b g h.2 n.2.2)
    · cases h
  | .for_ tg it b, g, st, h, n => by
    unfold chkS at h; split at h
    · simp only [Bool.and_eq_true] at h
      have hi := chkI_ok it g h.1.1.2 n.2.1 _ (needT_of h.2)
      exact b_for g.own (g.calm n.1) hi.1 (chkT_ok g h.1.1.1 (tgN_of n.1 _)) (chkB_ok b g h.1.2 n.2.2) hi.2
    · cases h
  | .whl fuel c b, g, st, h, n => by
    unfold chkS at h; split at h
    · simp only [Bool.and_eq_true] at h
      exact b_whl g.own (chk_ok c g h.1 n.1).tst (chkB_ok b g h.2 n.2)
    · cases h
  | .ret e, g, st, h, n => by
    unfold chkS at h; split at h
    · exact b_ret (chk_ok e g h n).val
    · cases h
  | .retn, g, st, h, n => by
    unfold chkS at h; split at h
    · exact b_retn
    · cases h
  | .pass, g, st, h, n => by
    unfold chkS at h; split at h
    · exact b_pass
    · cases h
  | .brk, g, st, h, n => by
    unfold chkS at h; split at h
    · exact b_brk
    · cases h
  | .cnt, g, st, h, n => by
    unfold chkS at h; split at h
    · exact b_cnt
    · cases h
  | .never, g, st, h, n => b_never
  | .rais c nm xs l, g, st, h, n => by
    unfold chkS at h; split at h
    · rename_i y yp e es pos pos2
      simp only [Bool.and_eq_true, decide_eq_true_eq, Bool.not_eq_true'] at h
      obtain ⟨⟨⟨⟨rfl, h1⟩, h2⟩, h3⟩, h4⟩ := h
      obtain ⟨s1, s2⟩ := noStars_cons h3
      obtain ⟨C, hk⟩ := g.exc c nm xs n.1
      exact s_raise C (g.calm n.2.1) g.tk ((g.room n.2.1).mono hk) (g.gl h1) (chkL_ok l g h4 n.2.2).sh h2 (star_cons s1) (star_any s2)
    · cases h
theorem chkB_ok : ∀ (b : CB) (g : Gd G W k w sc N L X) {sts : List Stmt}, chkB sc N L b sts = true → needB w b → PSs X sts (tS G W (exb b))
  | .nil, g, [], h, n => b_nil
  | .cons s b, g, st :: r, h, n => by
    have h : (chkS sc N L s st && chkB sc N L b r) = true := by unfold chkB at h; exact h
    rw [Bool.and_eq_true] at h
    exact b_cons (chkS_ok s g h.1 n.1) (chkB_ok b g h.2 n.2)
  | .nil, g, _ :: _, h, n => by unfold chkB at h; cases h
  | .cons _ _, g, [], h, n => by unfold chkB at h; cases h
end
end
end Eng

namespace Eng
open PySem PySem.Spec L2
open PyProof.Rows hiding St

/-- a def that may be called by its name -/
def FnAt (P : Program) (w : World) (K : PySem.W.Frag) (mg : Str → Option Value) (base : Heap) (k : Nat) (G : Gs) (x : Str) (sg : FSig) : Prop :=
  ∃ f, CallG P w K mg base k f (spG G sg) ∧ mg x = some (.ref f) ∧ PySem.W.keepIn K (.ref f) = true
theorem FnAt.mono {P : Program} {w : World} {K : PySem.W.Frag} {mg : Str → Option Value} {base : Heap} {j k : Nat} {G : Gs} {x : Str} {sg : FSig} (F : FnAt P w K mg base j G x sg) (h : j ≤ k) : FnAt P w K mg base k G x sg :=
  let ⟨f, a, b⟩ := F; ⟨f, a.mono h, b⟩
/-- the same, called by keywords -/
def FnAtK (P : Program) (w : World) (K : PySem.W.Frag) (mg : Str → Option Value) (base : Heap) (k : Nat) (G : Gs) (x : Str) (ps : List Str) (sg : FSig) (n : Nat) (ks : List Str) : Prop :=
  ∃ f fd, FnG P w K mg base k f fd ps (spG G sg) ∧ mg x = some (.ref f) ∧ PySem.W.keepIn K (.ref f) = true ∧ BindsK fd ps ks n
section
variable {P : Program} {w : World} {K : PySem.W.Frag} {mg : Str → Option Value} {base : Heap} {j k : Nat} {G : Gs} {x : Str} {sg : FSig} {f : Addr} {fd : FuncData} {ps : List Str}
theorem FnAt.of (F : FnG P w K mg base k f fd ps (spG G sg)) (m : mg x = some (.ref f)) (kp : PySem.W.keepIn K (.ref f) = true) (b : Binds K fd ps []) : FnAt P w K mg base k G x sg :=
  ⟨f, ⟨fun A outer s H us vs Q E hgd hr e0 r h => (CallG.of F b .nil).run A outer s H us vs Q E hgd hr e0 r (by rw [List.append_nil]; exact h)⟩, m, kp⟩
/-- called without its last arguments: they have dd -/
theorem FnAt.dflt {dd : List Eng.D} {dvs : List V} {ds : List Value} (F : FnG P w K mg base k f fd ps (spG G sg)) (m : mg x = some (.ref f)) (kp : PySem.W.keepIn K (.ref f) = true) (b : Binds K fd ps ds) (r : Vals dvs ds) (hr : ∀ Av H, Reps G Av H dd dvs)
    (hm : sg.md = sg.md.take (sg.md.length - dd.length) ++ List.replicate dd.length false) : FnAt P w K mg base k G x (sg.dflt dd) :=
  ⟨f, ⟨fun A outer s H us vs Q E hgd rm e0 rv h => (CallG.of F b r).run A outer s H us vs Q E hgd rm e0 rv (spG_dflt hr hm h)⟩, m, kp⟩
end
/-- what may be wanted: L: lambdas may be made -/
def wants (P : Program) (w : World) (K : PySem.W.Frag) (mg : Str → Option Value) (base : Heap) (k : Nat) (G : Gs) (L : Prop) : Wants where
  call := FnAt P w K mg base k G
  callk := FnAtK P w K mg base k G
  glob := fun x d => ∃ u v, mg x = some u ∧ RelV v u ∧ ∀ Av H, Rep G Av H d v
  fld := fun c f => Cls K (G.c c) ∧ NoAttr K (G.c c) f
  isc := OtyOk K mg G
  fldx := fun c f => XfC K (G.c c) ∧ PySem.W.findIn K (.ref (G.c c)) f = some none
  exc := fun c nm xs => ExcC P w K mg base G c nm xs ∧ 2 ≤ k
  heard := HeardC P w K mg base G
  calm := True
  lam := L
  top := True
section
variable {P : Program} {w : World} {K : PySem.W.Frag} {mg : Str → Option Value} {base : Heap} {k : Nat} {G : Gs} {f : Addr} {name qual : Str} {args : Arguments} {body : List Stmt} {scope : Scope} {dV kV doc pm cdv ct oc : Value} {an od : Option Addr} {osl : Array (Option Value)} {N ps : List Str} {ms : List Bool} {b : CB}
theorem gd_of {L : Prop} {A : Around} {outer : List Env} {s : Shared} {H : Hp} {E : XK} (hK : K = G.K) (hmg : ∀ x ∈ bnames, mg x = none) (S : FnScope N ps scope) (hgd : A.guards = some []) (hr : Room k (A.deeper (envOfC qual scope s.heap.objs.size f cdv)))
    (hl : L → Room (k + 4) (A.deeper (envOfC qual scope s.heap.objs.size f cdv)) ∧ ∃ c P', LamX.TabB base mg c P' ∧ cdv = .ref c ∧ (P', (envOfC qual scope s.heap.objs.size f cdv).qual ++ "<lambda>") ∈ G.T ∧ ∀ p ∈ G.T, p.1 = P' → p.2 = (envOfC qual scope s.heap.objs.size f cdv).qual ++ "<lambda>") :
    Gd G (fun cls d _ H => E cls d H) k (wants P w K mg base k G L) scope N (cellsOf scope) (cxOf (L2.CX P w) P w K mg base N qual scope f cdv A outer s H E) where
  eN := rfl
  esc := rfl
  nd := S.nd
  cr := fun _ => ⟨rfl, hr⟩
  top := fun _ => ⟨rfl, rfl, rfl⟩
  lam := fun h => ⟨⟨(hl h).2⟩, (hl h).1⟩
  eK := hK
  gd := hgd
  tk := takes_of rfl rfl rfl rfl
  own := passes_of rfl
  fn := fun _ _ => rfl
  mg := hmg
  call := fun x sg ⟨f, a, b, c⟩ => ⟨f, a, b, c, hr⟩
  callk := fun x ps sg n ks ⟨f, fd, a, b, c, d⟩ => ⟨f, fd, a, b, c, d, hr⟩
  glob := fun x d h => h
  fld := fun c f h => h
  isc := fun o h => h
  fldx := fun c f h => h
  exc := fun c nm xs h => h
  heard := fun x h z => z
theorem fnG_mk (hK : K = G.K) (lk : K.lookup f = some ⟨oc, od, .func (PySem.W.fnOf name qual args body scope dV kV doc pm an cdv ct), osl⟩) (hcd : PySem.W.codeIn K cdv qual = true)
    (hmg : ∀ x ∈ bnames, mg x = none) (hsc : C8.scC N ps scope = true) (hms : ms.length = ps.length) (hchk : chkB scope N (cellsOf scope) b body = true) (hneed : needB (wants P w K mg base k G False) b) :
    FnG P w K mg base (k + 1) f (PySem.W.fnOf name qual args body scope dV kV doc pm an cdv ct) ps (spG G ⟨ms, runS N.length ms (exb b)⟩) := by
  have S := C8.fnScope_by hsc
  refine fnG_of lk hcd S (fun vs H Q E h => (spG_len h).trans hms) fun A outer s H vs Q E hgd hr hsp => ?_
  have hpl : ps.length ≤ N.length := by have := congrArg List.length S.pre; rw [List.length_take] at this; omega
  exact body_G (by rw [spG_len hsp]; show ms.length ≤ N.length; omega) (chkB_ok b (gd_of hK hmg S hgd hr fun z => z.elim) hchk hneed) hsp
/-- a def that makes lambdas -/
theorem fnG_mkL {c P' : Addr} (hK : K = G.K) (lk : K.lookup f = some ⟨oc, od, .func (PySem.W.fnOf name qual args body scope dV kV doc pm an (.ref c) ct), osl⟩) (hcd : PySem.W.codeIn K (.ref c) qual = true)
    (hmg : ∀ x ∈ bnames, mg x = none) (hsc : C8.scC N ps scope = true) (hms : ms.length = ps.length) (hchk : chkB scope N (cellsOf scope) b body = true) (hneed : needB (wants P w K mg base k G True) b)
    (tb : LamX.TabB base mg c P') (hT : (P', qual ++ ".<locals>." ++ "<lambda>") ∈ G.T) (one : ∀ p ∈ G.T, p.1 = P' → p.2 = qual ++ ".<locals>." ++ "<lambda>") :
    FnG P w K mg base (k + 5) f (PySem.W.fnOf name qual args body scope dV kV doc pm an (.ref c) ct) ps (spG G ⟨ms, runS N.length ms (exb b)⟩) := by
  have S := C8.fnScope_by hsc
  refine fnG_of (k := k + 4) lk hcd S (fun vs H Q E h => (spG_len h).trans hms) fun A outer s H vs Q E hgd hr hsp => ?_
  have hpl : ps.length ≤ N.length := by have := congrArg List.length S.pre; rw [List.length_take] at this; omega
  exact body_G (by rw [spG_len hsp]; show ms.length ≤ N.length; omega) (chkB_ok b (gd_of hK hmg S hgd (hr.mono (by omega)) fun _ => ⟨hr, c, P', tb, rfl, hT, one⟩) hchk hneed) hsp
end

/-! ### the law's end -/
theorem reps_ints {G : Gs} {Av : Addr → Prop} {H : Hp} : ∀ ns : List Int, Reps G Av H (ns.map Eng.D.int) (ns.map V.int)
  | [] => rfl
  | n :: ns => ⟨.int n, ns.map V.int, rfl, rfl, reps_ints ns⟩
theorem law_sp {G : Gs} {K : PySem.W.Frag} (hK : K = G.K) {sg : FSig} {H : Hp} {a : Addr} {ns : List Int} {outs : List D} (hm : sg.md = [false]) (h : sg.m [.scr (ns.map Eng.D.int)] = .ok false (.bl true) outs) (hS : SqL K H a (ns.map V.int)) (tb : Tabs G H) :
    spG G sg [.ref a] H (fun v _ => v = .bl true) fun _ _ _ => False := by
  refine ⟨fun _ => False, [.scr (ns.map Eng.D.int)], ⟨fun _ z => z.elim, tb⟩, ?_, fun i j v h1 => ?_, ?_⟩
  · rw [hm]
    refine ⟨.ref a, [], rfl, ?_, rfl⟩
    show Rep G _ H (.scr _) (.ref a)
    refine ⟨a, ns.map V.int, rfl, ?_, reps_ints ns⟩
    rcases hS with hS | hS
    · exact .inl ⟨fun z => z, hS⟩
    · exact .inr (hK ▸ hS)
  · rw [hm] at h1
    cases i with
    | zero => cases h1
    | succ i => simp at h1
  · rw [h]
    exact fun Av' v H' _ r => r
abbrev emptyTab : Obj := { cls := .none, data := .fields #[] }
/-- ahead of the call: at most the script and the tables (of the code objects cs) are told; what lies below is the heap without them -/
structure Eve (P : Program) (w : World) (K : PySem.W.Frag) (mg mb : Str → Option Value) (s : Shared) (a : Addr) (vs : List Value) (cs : List (Addr × Addr)) (H : Hp) : Prop where
  kin : K.In s.heap
  glob : s.heap.Ns mainGlobals mg
  blt : s.heap.Ns builtinsNs mb
  boot : ∀ x : Str, x ≠ "__name__" → mb x = bootBuiltins x
  free : s.heap.NoLimit
  gens : s.gens = #[]
  scr : s.heap.get? a = some { cls := .type "list", data := .seq vs.toArray }
  tab : ∀ p ∈ cs, s.heap.get? p.2 = some emptyTab ∧ PySem.W.CodeHd s.heap p.1 p.2
  bm : ∃ (b : Addr) (o : Obj), mg "__builtins__" = some (.ref b) ∧ b ≠ builtinsNs ∧ s.heap.get? b = some o ∧ o.cls = .type "module" ∧ o.dict = some builtinsNs ∧ o.data = .plain
  told : HOk P w H s.heap
  lone : ∀ c, H c ≠ none → c = a ∨ ∃ p ∈ cs, c = p.2
  own : ∀ c, H c ≠ none → K.lookup c = none
  void : ∀ p ∈ cs, H p.2 = some (.tbl #[])
section
variable {P : Program} {w : World} {K : PySem.W.Frag} {mg mb : Str → Option Value} {s : Shared} {a : Addr} {vs : List Value} {cs : List (Addr × Addr)} {H : Hp}
/-- what is neither a list nor an empty table isn't told -/
theorem Eve.untold (E : Eve P w K mg mb s a vs cs H) {c : Addr} {o : Obj} (e : s.heap.get? c = some o) (n1 : ∀ xs m, o.data ≠ .seq xs m) (n2 : o.data ≠ .fields #[]) : H c = none := Classical.byContradiction fun z => by
  rcases E.lone c z with rfl | ⟨p, hp, rfl⟩
  · cases E.scr.symm.trans e; exact n1 _ _ rfl
  · cases (E.tab p hp).1.symm.trans e; exact n2 rfl
theorem Eve.ns (E : Eve P w K mg mb s a vs cs H) {c : Addr} {m : Str → Option Value} (N : s.heap.Ns c m) : (hidT s.heap H).Ns c m :=
  let ⟨o, es, ep, e, d, r⟩ := N
  ⟨o, es, ep, hidT_get e (E.untold e (fun xs m z => by rw [d] at z; cases z) fun z => by rw [d] at z; cases z), d, r⟩
theorem Eve.kinB (E : Eve P w K mg mb s a vs cs H) : K.In (hidT s.heap H) := fun c o e => hidT_get (E.kin c o e) <| Classical.byContradiction fun z => by
  have := E.own c z
  rw [this] at e; cases e
theorem Eve.env (E : Eve P w K mg mb s a vs cs H) : Env0 P w K mg (hidT s.heap H) callerA [] s H where
  frames := rfl
  mod := ⟨E.kinB, E.ns E.glob, ⟨mb, E.ns E.blt, E.boot⟩, let ⟨m, h1, h2⟩ := E.free; ⟨m, E.ns h1, h2⟩⟩
  bs := fun _ _ e => of_hidT e
  bsz := by rw [hidT_size]; exact Nat.le_refl _
  funs := trivial
  frf := fun c z => by cases z
  hok := E.told
  bare := .of_eq E.gens
theorem Eve.codes (E : Eve P w K mg mb s a vs cs H) : ∀ p ∈ cs, LamX.TabB (hidT s.heap H) mg p.1 p.2 := fun p hp => by
  obtain ⟨t1, t2⟩ := E.tab p hp
  have ng : ∀ {b : Addr} {es : Array DictEntry} {ep : Nat} {o : Obj}, s.heap.get? b = some o → o.data = .dict es ep → b ≠ p.2 := fun e d z => by
    rw [z, t1] at e; cases e; cases d
  obtain ⟨gO, gE, gP, g1, g2, _⟩ := id E.glob
  constructor
  · obtain ⟨o, us, u1, u2, u3, u4, u5, u6, u7, e1, e2, e3, e4, rest⟩ := t2
    exact ⟨o, us, u1, u2, u3, u4, u5, u6, u7, hidT_get e1 (E.untold e1 (fun _ _ z => by rw [e3] at z; cases z) fun z => by rw [e3] at z; cases z; simp at e4), e2, e3, e4, rest⟩
  · obtain ⟨b, o, k1, k2, k3, k4, k5, k6⟩ := E.bm
    refine ⟨b, o, k1, k2, fun z => ?_, fun z => ?_, hidT_get k3 (E.untold k3 (fun _ _ z => by rw [k6] at z; cases z) fun z => by rw [k6] at z; cases z), k4, k5, k6⟩
    · rw [z, g1] at k3; cases k3; rw [g2] at k6; cases k6
    · rw [z, t1] at k3; cases k3; cases k6
  · exact ng g1 g2
/-- the def is called -/
theorem Eve.runs (E : Eve P w K mg mb s a vs cs H) {k : Nat} {fa : Addr} {fd : FuncData} {x : Str} {sp : Sp} (hgd : callerA.guards = some []) (hr : Room k callerA)
    (F : FnG P w K mg (hidT s.heap H) k fa fd [x] sp) (hbind : ∀ (s : Shared) (u : Value), BindsTo s fd ⟨[u], []⟩ [(x, u)]) (hO : ∀ c, H c = none ∨ (∃ p ∈ cs, c = p.2) ∨ ∃ o u, H c = some (.frz o u)) (want : sp [.ref a] H (fun v _ => v = .bl true) fun _ _ _ => False)
    (hCX : ∀ e s', L2.CX P w [] H s (fun _ _ _ => False) e s' → False) :
    codeAny (model P w) callerA (.call (.ref fa) ⟨[.ref a], []⟩) (fun r s' => r = .ok (.ret (.bool true)) ∧ OldK s.heap s'.heap ∧ s'.os = s.os ∧ AllBare s'.gens) s := by
  refine codeAny_mono (F.run _ _ _ _ _ [.ref a] [.ref a] _ _ hgd hr E.env (hbind s (.ref a)) (.cons rfl .nil) want) ?_
  intro r s' z
  match r, z with
  | .error e, z => exact absurd z fun y => hCX e s' y
  | .ok .next, z => exact z.elim
  | .ok .brk, z => exact z.elim
  | .ok .cont, z => exact z.elim
  | .ok (.ret u), ⟨v, H', os, bare, un, told, rel, post⟩ =>
    cases (show v = .bl true from post)
    cases (show u = Value.bool true from rel)
    have more : ∀ p ∈ cs, ∃ m : Array Value, s'.heap.get? p.2 = some { cls := .none, data := .fields m } := fun p hp => by
      obtain ⟨m, z⟩ := un.tbls p.2 #[] (E.void p hp)
      exact ⟨_, told p.2 _ z⟩
    have rest : ∀ c o, (¬ ∃ p ∈ cs, c = p.2) → s.heap.get? c = some o → s'.heap.get? c = some o := by
      intro c o n e
      cases q : H c with
      | none => exact un.keep c o e q (fun y => by cases y) (fun y => by cases y)
      | some y =>
        rcases hO c with z | z | ⟨ob, xs, y'⟩
        · rw [q] at z; cases z
        · exact absurd z n
        · have before := (E.told c _ y').1
          have behind := (told c _ (un.frzs c ob _ y')).1
          rw [e] at before
          cases before
          exact behind
    refine ⟨rfl, ⟨fun c o e => ?_, fun c o e => ?_⟩, os, bare⟩
    · by_cases n : ∃ p ∈ cs, c = p.2
      · obtain ⟨p, hp, rfl⟩ := n
        obtain ⟨t1, t2⟩ := E.tab p hp
        obtain ⟨m, hm⟩ := more p hp
        cases t1.symm.trans e
        exact .inr (.inl ⟨(t2.tab t1).isCodeTable, rfl, #[], m, rfl, by rw [Array.empty_append]; exact hm⟩)
      · exact .inl (rest c o n e)
    · by_cases n : ∃ p ∈ cs, c = p.2
      · obtain ⟨p, hp, rfl⟩ := n
        obtain ⟨m, hm⟩ := more p hp
        exact ⟨_, hm⟩
      · exact ⟨o, rest c o n e⟩
end
theorem law_callG {P : Program} {w : World} {K : PySem.W.Frag} {mg mb : Str → Option Value} {k : Nat} {fa a : Addr} {cs : List (Addr × Addr)} {fd : FuncData} {x : Str} {sp : Sp} {s : Shared} {vs : List Value} {ns : List Int}
    (E : ∀ H, HOk P w H s.heap → (∀ c, H c ≠ none → c = a ∨ ∃ p ∈ cs, c = p.2) → (∀ c, H c ≠ none → K.lookup c = none) → (∀ p ∈ cs, H p.2 = some (.tbl #[])) → Eve P w K mg mb s a vs cs H)
    (scr : s.heap.get? a = some { cls := .type "list", data := .seq vs.toArray }) (kin : K.In s.heap) (tab : ∀ p ∈ cs, s.heap.get? p.2 = some emptyTab ∧ K.lookup p.2 = none)
    (hi : IntsAre vs ns) (hl : ns.length ≤ sizeLine) (hgd : callerA.guards = some []) (hr : Room k callerA)
    (F : ∀ base : Heap, K.In base → base.Ns mainGlobals mg → (∀ p ∈ cs, LamX.TabB base mg p.1 p.2) → FnG P w K mg base k fa fd [x] sp) (hbind : ∀ (s : Shared) (u : Value), BindsTo s fd ⟨[u], []⟩ [(x, u)])
    (hsp : ∀ H : Hp, (∀ p ∈ cs, H p.2 = some (.tbl #[])) → SqL K H a (ns.map V.int) → sp [.ref a] H (fun v _ => v = .bl true) fun _ _ _ => False)
    (hCX : ∀ H e s', L2.CX P w [] H s (fun _ _ _ => False) e s' → False) :
    codeAny (model P w) callerA (.call (.ref fa) ⟨[.ref a], []⟩) (fun r s' => r = .ok (.ret (.bool true)) ∧ OldK s.heap s'.heap ∧ s'.os = s.os ∧ AllBare s'.gens) s := by
  have rv := vals_ints hi
  have apart : ∀ p ∈ cs, p.2 ≠ a := fun p hp z => by
    have := (tab p hp).1
    rw [z, scr] at this; cases this
  have go : ∀ H, (∀ c, H c = none ∨ (∃ p ∈ cs, c = p.2) ∨ ∃ o u, H c = some (.frz o u)) → SqL K H a (ns.map V.int) → HOk P w H s.heap → (∀ c, H c ≠ none → c = a ∨ ∃ p ∈ cs, c = p.2) → (∀ c, H c ≠ none → K.lookup c = none) → (∀ p ∈ cs, H p.2 = some (.tbl #[])) → _ := fun H hO hS t l o v =>
    Eve.runs (E H t l o v) hgd hr (F _ (E H t l o v).kinB ((E H t l o v).ns (E H t l o v).glob) (E H t l o v).codes) hbind hO (hsp H v hS) (hCX H)
  have tell : ∀ u : Option HO, (u = none ∨ u = some (.frz { cls := .type "list", data := .seq vs.toArray } (.lst (ns.map V.int))) ∧ K.lookup a = none) → SqL K (fun c => if c = a then u else if ∃ p ∈ cs, c = p.2 then some (.tbl #[]) else none) a (ns.map V.int) →
      codeAny (model P w) callerA (.call (.ref fa) ⟨[.ref a], []⟩) (fun r s' => r = .ok (.ret (.bool true)) ∧ OldK s.heap s'.heap ∧ s'.os = s.os ∧ AllBare s'.gens) s := by
    intro u hu hS
    have at_ : ∀ c, ¬ c = a → (∃ p ∈ cs, c = p.2) → (if c = a then u else if ∃ p ∈ cs, c = p.2 then some (HO.tbl #[]) else none) = some (.tbl #[]) := fun c n m => by rw [if_neg n, if_pos m]
    have no_ : ∀ c, ¬ c = a → (¬ ∃ p ∈ cs, c = p.2) → (if c = a then u else if ∃ p ∈ cs, c = p.2 then some (HO.tbl #[]) else none) = none := fun c n m => by rw [if_neg n, if_neg m]
    refine go _ (fun c => ?_) hS (fun c v e => ?_) (fun c z => ?_) (fun c z => ?_) fun p hp => at_ p.2 (apart p hp) ⟨p, hp, rfl⟩
    · by_cases n : c = a
      · rcases hu with rfl | ⟨rfl, _⟩
        · exact .inl (if_pos n)
        · exact .inr (.inr ⟨_, _, if_pos n⟩)
      · by_cases m : ∃ p ∈ cs, c = p.2
        · exact .inr (.inl m)
        · exact .inl (no_ c n m)
    · by_cases n : c = a
      · have e : u = some v := (if_pos n).symm.trans e
        rcases hu with rfl | ⟨rfl, _⟩
        · cases e
        · cases e
          rw [n]
          exact ⟨scr, by simpa using hl, vs, _, rv, scr⟩
      · by_cases m : ∃ p ∈ cs, c = p.2
        · cases (at_ c n m).symm.trans e
          obtain ⟨p, hp, rfl⟩ := m
          exact (tab p hp).1
        · cases (no_ c n m).symm.trans e
    · by_cases n : c = a
      · exact .inl n
      · by_cases m : ∃ p ∈ cs, c = p.2
        · exact .inr m
        · exact absurd (no_ c n m) z
    · by_cases n : c = a
      · have z : u ≠ none := fun y => z ((if_pos n).trans y)
        rcases hu with rfl | ⟨_, q⟩
        · exact absurd rfl z
        · rw [n]; exact q
      · by_cases m : ∃ p ∈ cs, c = p.2
        · obtain ⟨p, hp, rfl⟩ := m
          exact (tab p hp).2
        · exact absurd (no_ c n m) z
  cases hk : K.lookup a with
  | none => exact tell _ (.inr ⟨rfl, hk⟩) (.inl (.inr ⟨_, if_pos rfl⟩))
  | some o =>
    cases scr.symm.trans (kin a o hk)
    refine tell none (.inl rfl) (.inr ⟨_, vs.toArray, _, hk, rfl, rfl, rfl, ?_, by simpa using rv⟩)
    simp only [List.size_toArray, hi.length]
    exact hl
theorem noCX {P : Program} {w : World} {H : Hp} {s : Shared} {e : Value} {s' : Shared} (h : L2.CX P w [] H s (fun _ _ _ => False) e s') : False := by
  obtain ⟨_, _, _, _, _, _, _, _, _, _, _, _, z⟩ := h
  exact z
/-- the def of a name: its code object c, whose table P is empty as yet and no part of what is written -/
def Maker (K : PySem.W.Frag) (mg : Str → Option Value) (q : Program) (x : Str) (c P : Addr) : Prop :=
  (∃ d ∈ recsOf q, d.name = x) ∧ ∃ f o fd, mg x = some (.ref f) ∧ K.lookup f = some o ∧ o.data = .func fd ∧ fd.code = .ref c ∧ (∃ e dd vs sl, K.lookup c = some ⟨e, dd, .fields vs, sl⟩ ∧ vs[11]? = some (.ref P)) ∧ K.lookup P = none
theorem Maker.tab {K : PySem.W.Frag} {mg mb : Str → Option Value} {q : Program} {loose : List Str} {mean : ExcName → Option Value} {x : Str} {c P : Addr} {h : Heap} (m : Maker K mg q x c P) (kin : K.In h) (T : Top q loose mean mg mb h) : h.get? P = some emptyTab ∧ PySem.W.CodeHd h c P ∧ K.lookup P = none := by
  obtain ⟨⟨d, hd, rfl⟩, f, o, fd, m1, m2, m3, m4, ⟨e, dd, us, sl, m5, m6⟩, m7⟩ := m
  obtain ⟨f', o', fd', c', P', t1, t2, t3, t4, t5, t6⟩ := T.tab d hd
  cases m1.symm.trans t1
  cases (kin _ _ m2).symm.trans t2
  cases m3.symm.trans t3
  cases m4.symm.trans t4
  have hc := PySem.W.CodeHd.of t5 t6
  obtain ⟨⟨oc, vc, e1, _, e3, e4⟩, hP⟩ := t6
  cases (kin _ _ m5).symm.trans e1
  cases e3
  cases m6.symm.trans e4
  exact ⟨hP, hc, m7⟩
theorem walkG {l : PySem.W.OpenLaw} {n k : Nat} {q : Program} {loose : List Str} {XP : (Str → Option Value) → Heap → Prop} {YP : World → Heap → Prop} {d : DefRec} {K : Params → PySem.W.Frag} {x : Str} {sg : FSig}
    (hn : l.most = some n) (hn2 : n ≤ sizeLine) (hdf : d.params.defaults = []) (hgd : callerA.guards = some []) (hr : Room k callerA)
    (hY : ∀ (w : World) (h : Heap), YP w h → (K w.params).In h) (hm : sg.md = [false])
    (F : ∀ (w : World) (mg : Str → Option Value) (fa : Addr) (h : Heap), (K w.params).In h → h.Ns mainGlobals mg → mg d.name = some (.ref fa) →
      ∃ (fd : FuncData) (cl : Nat → Addr) (ms : List (Str × Addr × Addr × Str)), (∀ t ∈ ms, Maker (K w.params) mg q t.1 t.2.1 t.2.2.1) ∧ (∀ (s : Shared) (u : Value), BindsTo s fd ⟨[u], []⟩ [(x, u)]) ∧
        ∀ base : Heap, (K w.params).In base → base.Ns mainGlobals mg → (∀ t ∈ ms, LamX.TabB base mg t.2.1 t.2.2.1) → FnG l.prog w (K w.params) mg base k fa fd [x] (spG ⟨K w.params, cl, ms.map fun t => (t.2.2.1, t.2.2.2)⟩ sg))
    (hlaw : ∀ ns : List Int, ns.length ≤ n → ∃ outs, sg.m [.scr (ns.map Eng.D.int)] = .ok false (.bl true) outs) :
    PySem.W.WalkO q loose XP YP l.row.toRowW d [] (fun f vs => PySem.call f vs) := by
  apply Att.attach_call hn hdf
  intro w _ s' mg mb fa _ _ _ _ a vs ns top see _ _ _ name script whole len gens
  have kin := hY w _ see
  obtain ⟨fd, cl, ms, mk, binds, def_⟩ := F w mg fa _ kin top.T.g name
  obtain ⟨outs, run⟩ := hlaw ns len
  have tb : ∀ p ∈ ms.map (fun t => (t.2.1, t.2.2.1)), s'.heap.get? p.2 = some emptyTab ∧ PySem.W.CodeHd s'.heap p.1 p.2 ∧ (K w.params).lookup p.2 = none := fun p hp => by
    obtain ⟨t, ht, rfl⟩ := List.mem_map.mp hp
    exact (mk t ht).tab kin top.T
  refine law_callG (cs := ms.map fun t => (t.2.1, t.2.2.1)) (fun H t l o v => ⟨kin, top.T.g, top.T.b, top.T.builtins, top.T.nolimit, gens, script, fun p hp => ⟨(tb p hp).1, (tb p hp).2.1⟩, top.T.bmain, t, l, o, v⟩) script kin (fun p hp => ⟨(tb p hp).1, (tb p hp).2.2⟩) whole (Nat.le_trans len hn2) hgd hr
    (fun base b1 b2 b3 => def_ base b1 b2 fun t ht => b3 (t.2.1, t.2.2.1) (List.mem_map.mpr ⟨t, ht, rfl⟩)) binds (fun H hv seq => law_sp (G := ⟨K w.params, cl, _⟩) rfl hm run seq ?_) fun H e s' => noCX
  intro p hp
  obtain ⟨t, ht, rfl⟩ := List.mem_map.mp hp
  exact LamX.TabS.nil (hv (t.2.1, t.2.2.1) (List.mem_map.mpr ⟨t, ht, rfl⟩))
end Eng

namespace Eng
open PySem PySem.Spec L2
open PyProof.Rows hiding St
/-- caught = None; try: ask() except C as error: caught = error; the tail is tb -/
def hearC (sg : Scope) (N : List Str) (a eC : Str) (ic ie : Nat) (tb : CB) : List Stmt → Bool
  | .Assign [.Name cn _] (.Constant .none _ _) _ :: .Try [.Expr (.Call (.Name a' _) [] [] _) _] [.ExceptHandler (some (.Name e _)) (some n) [.Assign [.Name cn1 _] (.Name n1 _) _] _] [] [] _ :: tail =>
    decide (a' = a) && decide (e = eC) && decide (cn1 = cn) && decide (n1 = n) && decide (N[ic]? = some cn) && decide (N[ie]? = some n) && decide (sg.names.lookup cn = some .local) && decide (sg.names.lookup n = some .local) && decide (sg.names.lookup eC = some .globalImplicit) &&
      !(eC == ("__debug__" : Str)) && !(n == ("__debug__" : Str)) && !(n == ("__classdict__" : Str)) && !(a == ("__debug__" : Str)) && !(a == ("__classdict__" : Str)) && decide (ic ≠ 0) && decide (ie ≠ ic) && decide (N[0]? = some a) && chkB sg N (cellsOf sg) tb tail
  | _ => false
theorem heardC_mk {P : Program} {w : World} {K : PySem.W.Frag} {mg : Str → Option Value} {base : Heap} {G : Gs} {x a eC : Str} {g : Addr} {pg : Arguments} {bg : List Stmt} {sg : Scope} {dV kV doc pm cdv ct oc CS : Value} {an od : Option Addr} {osl : Array (Option Value)} {Ng : List Str} {ic ie : Nat} {yes : List Nat} {tb : CB}
    (hK : K = G.K) (hmg : ∀ x ∈ bnames, mg x = none) (at_ : mg x = some (.ref g)) (kp : PySem.W.keepIn K (.ref g) = true) (lk : K.lookup g = some ⟨oc, od, .func (PySem.W.fnOf x x pg bg sg dV kV doc pm an cdv ct), osl⟩) (hcd : PySem.W.codeIn K cdv x = true) (hb : L2.Binds K (PySem.W.fnOf x x pg bg sg dV kV doc pm an cdv ct) [a] [])
    (hsc : C8.scC Ng [a] sg = true) (hc : hearC sg Ng a eC ic ie tb bg = true) (hCS : mg eC = some CS) (hy : ∀ c ∈ yes, PySem.W.exmOne K (.ref (G.c c)) CS = some true) (n : needB (wants P w K mg base 2 G False) tb) :
    HeardC P w K mg base G x ⟨Ng.length, ic, yes, tailFO (exb tb)⟩ := by
  have S := C8.fnScope_by hsc
  unfold hearC at hc
  split at hc
  case h_2 => cases hc
  rename_i cn p0 j p1 p2 a' p3 p4 p5 e p6 n' cn1 q1 n1 q2 q3 q4 p7 tail
  simp only [decide_eq_true_eq, Bool.and_eq_true, Bool.not_eq_true'] at hc
  obtain ⟨⟨⟨⟨⟨⟨⟨⟨⟨⟨⟨⟨⟨⟨⟨⟨⟨rfl, rfl⟩, rfl⟩, rfl⟩, h1⟩, h2⟩, h3⟩, h4⟩, h5⟩, h6⟩, h7⟩, h8⟩, h9⟩, h10⟩, h11⟩, h12⟩, h13⟩, h14⟩ := hc
  have vis : Vis sg a' := by
    have := S.par a' (.head _)
    exact this.elim .inl fun z => .inr (.inl z)
  refine ⟨g, pg, _, sg, dV, kV, doc, pm, cdv, ct, oc, an, od, osl, Ng, a', CS, ic, ie, yes, exb tb, at_, kp, lk, hcd, hb, S, h13, vis, h9, h10, (List.getElem?_eq_some_iff.mp h1).1, (List.getElem?_eq_some_iff.mp h2).1, h12, rfl, hy, ?_⟩
  rintro X q rfl rfl rfl rfl rfl guards
  refine heard_gives h5 hCS h6 S.nd h1 h2 h3 h4 h11 h12 h7 h8 (fun s H room => chkB_ok tb (w := wants X.prog X.w X.K X.mg X.base 2 G False) (k := 2) ?_ h14 n) fun f => rfl
  exact {
    eN := rfl
    esc := rfl
    nd := S.nd
    cr := fun _ => ⟨rfl, room⟩
    top := fun _ => ⟨rfl, rfl, rfl⟩
    lam := fun z => z.elim
    eK := hK
    gd := guards
    tk := LamX.takes0
    own := PassesOwn.never
    fn := fun _ _ => rfl
    mg := hmg
    call := fun x sg ⟨f, a, b, c⟩ => ⟨f, a, b, c, room⟩
    callk := fun x ps sg n ks ⟨f, fd, a, b, c, d⟩ => ⟨f, fd, a, b, c, d, room⟩
    glob := fun x d h => h
    fld := fun c f h => h
    isc := fun o h => h
    fldx := fun c f h => h
    exc := fun c nm xs h => h
    heard := fun x h z => z }

/-! ### what is wanted of the written part, for a class of exceptions -/
structure ExcF (P : Program) (K : PySem.W.Frag) (nm : Str) (C : Addr) (xs : XSig) : Prop where
  at_ : PySem.W.nsIn K mainGlobals nm = some (some (.ref C))
  ex : ∃ f cc fd self, DefX P K f cc C fd xs self ∧ PySem.W.findIn K (.ref C) "__init__" = some (some (.ref f)) ∧ PySem.W.typeIn K (.ref f) = some (.type "function") ∧ Binds K fd (self :: xs.fs) []
  sup : SupE K C C
  nf : ∀ f ∈ xs.fs, PySem.W.findIn K (.ref C) f = some none
  few : xs.fs.length ≤ 900
  kx : ExcK K C
theorem ExcF.of {P : Program} {K : PySem.W.Frag} {nm : Str} {C f cc cda : Addr} {xs : XSig} {name qual self file : Str} {params : Arguments} {body : List Stmt} {scope : Scope} {dV kV doc pm oc cl ct k1 : Value} {an od cld k2 : Option Addr} {osl csl k3 : Array (Option Value)} {vs : Array Value} {tf : Tok} {ar : Arg} {cd : ClassData}
    (a0 : PySem.W.nsIn K mainGlobals nm = some (some (.ref C))) (a1 : PySem.W.findIn K (.ref C) "__init__" = some (some (.ref f)))
    (a2 : K.lookup f = some ⟨oc, od, .func (PySem.W.ksFn name qual params body scope dV kV doc pm an (.ref cda) ct cc), osl⟩) (a3 : PySem.W.codeIn K (.ref cda) qual = true) (a4 : K.lookup cc = some ⟨cl, cld, .cell (some (.ref C)), csl⟩)
    (a5 : K.lookup cda = some ⟨k1, k2, .fields vs, k3⟩) (a6 : vs[2]? = some (.str file tf)) (a7 : ((P.main.file : Str) == file) = true) (a8 : (P.main.scope.names.lookup ("super" : Str)).isSome = false) (a9 : PySem.W.clsIn K C = some cd)
    (b0 : (params.posonlyargs ++ params.args).head? = some ar) (b1 : ar.arg = self) (b2 : scS (self :: xs.fs) (self :: xs.fs) scope = true) (b3 : scope.names.lookup ("super" : Str) = some .globalImplicit) (b4 : xBodyC scope self xs body = true)
    (b5 : PySem.W.typeIn K (.ref f) = some (.type "function")) (b6 : Binds K (PySem.W.ksFn name qual params body scope dV kV doc pm an (.ref cda) ct cc) (self :: xs.fs) [])
    (d0 : PySem.W.mroIn K C (.ref C) = some true) (d1 : PySem.W.ks_superIn K C C "__init__" = some (some (.builtin "ValueError.__init__"))) (d2 : PySem.W.nsIn K cStatics "thirdparty.any" = some none) (d3 : PySem.W.subIn K (.ref C) (.type "ValueError") = some true)
    (d4 : ∃ nm q N bs bm sn sub ab col dd k0 k1 k2 k3 k5, K.lookup C = some (excClassObj nm q C N bs bm true sn sub ab col dd k0 k1 k2 k3 k5 "ValueError.__new__") ∧ PySem.HandSPX.refsVE bm = true)
    (d5 : PySem.W.findIn K (.ref C) "__setattr__" = some (some (.builtin "object.__setattr__"))) (d6 : PySem.W.subIn K (.ref C) (.type "BaseException") = some true) (d7 : PySem.W.typeIn K (.ref C) = some (.type "type")) (d8 : PySem.W.keepIn K (.ref C) = true)
    (e0 : PySem.W.findIn K (.ref C) "__getattribute__" = some (some (.builtin "BaseException.__getattribute__"))) (e1 : PySem.W.findIn K (.ref C) "__getattr__" = some none) (e2 : PySem.W.hasDictIn K C = true)
    (e3 : PySem.W.findIn K (.ref C) "__class__" = some (some (.builtin "object.__class__"))) (e4 : PySem.W.specialIn K (.builtin "object.__class__") "__get__" = some (some (.builtin "getset_descriptor.__get__"))) (e5 : PySem.W.takesIn K (.builtin "object.__class__") = some true) (e6 : PySem.W.mroIn K C (.type "object") = some true)
    (nf : ∀ f ∈ xs.fs, PySem.W.findIn K (.ref C) f = some none) (few : xs.fs.length ≤ 900) : ExcF P K nm C xs :=
  ⟨a0, ⟨f, cc, _, self, ⟨name, qual, params, body, scope, dV, kV, doc, pm, an, cda, ct, oc, od, osl, cl, cld, csl, _, vs, file, tf, ar, cd, rfl, a2, a3, a4, a5, rfl, a6, a7, a8, a9, b2, b3, b0, b1, b4⟩, a1, b5, b6⟩, ⟨d0, d1, d2, d3, d4, d5, d6, d7, d8⟩, nf, few,
    ⟨⟨e0, e1, d6, e2⟩, by rw [a9]; rfl, e3, e4, e5, e6⟩⟩
theorem ExcF.c {P : Program} {w : World} {K : PySem.W.Frag} {mg : Str → Option Value} {base h : Heap} {G : Gs} {c : Nat} {nm : Str} {xs : XSig} (F : ExcF P K nm (G.c c) xs) (X : K.In h) (N : h.Ns mainGlobals mg) (hs : mg "super" = none) : ExcC P w K mg base G c nm xs := by
  obtain ⟨f, cc, fd, self, D, i1, i2, b⟩ := F.ex
  exact ⟨PySem.W.mg_of X N F.at_, ⟨f, cc, G.c c, fd, self, xinit_ok D hs, i1, i2, b, F.sup, rfl⟩, F.nf, F.few⟩
theorem maker_of {K : PySem.W.Frag} {mg : Str → Option Value} {q : Program} {x : Str} {f c P : Addr} {o : Obj} {fd : FuncData} {e : Value} {dd : Option Addr} {vs : Array Value} {sl : Array (Option Value)} (a : (recsOf q).any (fun d => decide (d.name = x)) = true) (b : mg x = some (.ref f)) (lk : K.lookup f = some o) (hd : o.data = .func fd) (hc : fd.code = .ref c)
    (lc : K.lookup c = some ⟨e, dd, .fields vs, sl⟩) (hP : vs[11]? = some (.ref P)) (nP : K.lookup P = none) : Maker K mg q x c P := by
  obtain ⟨d, m, hn⟩ := List.any_eq_true.mp a
  exact ⟨⟨d, m, of_decide_eq_true hn⟩, f, o, fd, b, lk, hd, hc, ⟨e, dd, vs, sl, lc, hP⟩, nP⟩
def allF {α : Type} (p : α → Prop) : List α → Prop
  | [] => True
  | x :: l => p x ∧ allF p l
theorem allF.mem {α : Type} {p : α → Prop} : ∀ {l : List α}, allF p l → ∀ x ∈ l, p x
  | [], _, x, m => by cases m
  | y :: l, ⟨h, t⟩, x, m => by
    rcases List.mem_cons.mp m with rfl | m
    · exact h
    · exact allF.mem t x m
end Eng

namespace Eng
open PySem PySem.Spec
open PyProof.Rows hiding St
/-! ### to compute by rewriting: every rule acts at a given state only -/
def frO (o : Option SV) : Bool := match o with
  | some .no => true
  | some (.sh _) => true
  | some (.ow _) => true
  | _ => false
namespace Q
section
variable {α β : Type} {a : α} {S : SS} {f : α → SS → R β} {g : α → SS → F} {h : SS → F} {d e x : D} {p q o : KE} {t u v : KT} {i j : Nat} {b : Bool} {ro : RO} {rv : RV}
theorem b_ok : R.bind (.ok a S) f = f a S := rfl
theorem b_ex : R.bind (.exc d S : R α) f = .exc d S := rfl
theorem b_bd : R.bind (.bad : R α) f = .bad := rfl
theorem t_ok : R.toF (.ok a S) g = g a S := rfl
theorem t_ex : R.toF (.exc d S : R α) g = .exc d S := rfl
theorem t_bd : R.toF (.bad : R α) g = .bad := rfl
theorem s_nx : F.seq (.nx S) h = h S := rfl
theorem s_rt : F.seq (.rt b d S) h = .rt b d S := rfl
theorem s_bk : F.seq (.bk S) h = .bk S := rfl
theorem s_ct : F.seq (.ct S) h = .ct S := rfl
theorem s_ex : F.seq (.exc d S) h = .exc d S := rfl
theorem s_bd : F.seq .bad h = .bad := rfl
theorem p_sm : prim (some ro) S = .ok ro.rv S := rfl
theorem p_no : prim none S = .bad := rfl
theorem r_sh : RO.rv (.sh d) = .sh d := rfl
theorem r_l {ds : List D} : RO.rv (.nw (.lst ds)) = .fr (.lst ds) := rfl
theorem r_t {ds : List D} : RO.rv (.nw (.tup ds)) = .sh (.tup ds) := rfl
theorem r_d {ks vs : List D} : RO.rv (.nw (.dic ks vs)) = .fr (.dic ks vs) := rfl
theorem w_sh : RV.vw (.sh d) = .sh d := rfl
theorem w_fr : RV.vw (.fr d) = .sh d := rfl
theorem w_br : RV.vw (.br i) = .br i := rfl
theorem d_sh : deref S (.sh d) = some d := rfl
theorem d_fr : deref S (.fr d) = some d := rfl
theorem d_br : deref S (.br i) = (S[i]?).bind SV.dat := rfl
theorem a_sh : SV.dat (.sh d) = some d := rfl
theorem a_ow : SV.dat (.ow d) = some d := rfl
theorem a_io : SV.dat (.io d) = some d := rfl
theorem a_lk : SV.dat (.lk d) = some d := rfl
theorem m_ow : SV.mu (.ow d) = some d := rfl
theorem m_io : SV.mu (.io d) = some d := rfl
theorem m_sh : SV.mu (.sh d) = none := rfl
theorem h_sh : shr (.sh d) S = .ok d S := rfl
theorem h_fr : shr (.fr d) S = .ok d S := rfl
theorem h_br : shr (.br i) S = (match S[i]? with
  | some (.sh d) => .ok d S
  | some (.ow d) => .ok d (S.set i (.sh d))
  | _ => .bad) := rfl
theorem c_sh : cap (.sh d) S = .ok (.sh d) S := rfl
theorem c_fr : cap (.fr d) S = .ok (.fr d) S := rfl
theorem c_br : cap (.br i) S = (shr (.br i) S).bind fun d S1 => .ok (.sh d) S1 := rfl
theorem v_sh : RV.sv (.sh d) = .sh d := rfl
theorem v_fr : RV.sv (.fr d) = .ow d := rfl
theorem e_val : (mkp p).val = p := rfl
theorem e_tst : (mkp p).tst = kTest p := rfl
theorem e_io : (mkp p).io = none := rfl
theorem e_md {P : EP} : P.md b = kMd P.io P.val b := rfl
theorem kC' : kC d S = .ok (.sh d) S := rfl
theorem kV' : kVar i S = (match S[i]? with
  | some (.sh d) => .ok (.sh d) S
  | some s => if s.dat.isSome then .ok (.br i) S else .bad
  | none => .bad) := rfl
theorem kU' {f : D → Option RO} : kUn f p S = (p S).bind fun r S1 => prim ((deref S1 r.vw).bind f) S1 := rfl
theorem kB' {f : D → D → Option RO} : kBin f p q S = (p S).bind fun r S1 => (q S1).bind fun t S2 => prim ((deref S2 r.vw).bind fun d => (deref S2 t.vw).bind fun e => f d e) S2 := rfl
theorem kP0 {q : KE} : kPart true q S = .ok none S := rfl
theorem kP1 {q : KE} : kPart false q S = (q S).bind fun r S1 => match r with
  | .sh (.int i) => .ok (some i) S1
  | _ => .bad := rfl
theorem kS' {q o : SS → R (Option Int)} : kSlc p q o S = (p S).bind fun r S1 => (q S1).bind fun l S2 => (o S2).bind fun h S3 => prim ((deref S3 r.vw).bind (slcD l h)) S3 := rfl
theorem kT' : kTest p S = (p S).bind fun r S1 => match (deref S1 r.vw).bind truthD with
  | some b => .ok b S1
  | none => .bad := rfl
theorem kCh' {f g : D → D → Option RO} : kChain f g p q o S = (p S).bind fun r S1 => (q S1).bind fun t S2 =>
  match boolOf ((deref S2 r.vw).bind fun d => (deref S2 t.vw).bind fun e => f d e) with
  | some true => (o S2).bind fun u S3 => (match boolOf ((deref S3 t.vw).bind fun d => (deref S3 u.vw).bind fun e => g d e) with
    | some b => .ok b S3
    | none => .bad)
  | some false => .ok false S2
  | none => .bad := rfl
theorem bl_s : boolOf (some (.sh (.bl b))) = some b := rfl
theorem kVa : kVal t S = (t S).bind fun b S1 => .ok (.sh (.bl b)) S1 := rfl
theorem kN' : kNot t S = (t S).bind fun b S1 => .ok (!b) S1 := rfl
theorem kI' : kIf t p q S = (t S).bind fun b S1 => if b then p S1 else q S1 := rfl
theorem kIT : kIfT t u v S = (t S).bind fun b S1 => if b then u S1 else v S1 := rfl
theorem kAV : kAndV b p q S = (p S).bind fun r S1 => match (deref S1 r.vw).bind truthD with
  | some b' => if b' = b then q S1 else .ok r.vw S1
  | none => .bad := rfl
theorem kAT : kAndT b t u S = (t S).bind fun b' S1 => if b' = b then u S1 else .ok b' S1 := rfl
theorem kSh : kShr p S = (p S).bind shr := rfl
theorem kNl : (kNil S : R (List α)) = .ok [] S := rfl
theorem kCo {p : SS → R α} {q : SS → R (List α)} : kCons p q S = (p S).bind fun x S1 => (q S1).bind fun xs S2 => .ok (x :: xs) S2 := rfl
theorem kVw' : kVw p S = (p S).bind fun r S1 => .ok r.vw S1 := rfl
theorem kSt {q : SS → R (List D)} : kStar p q S = (p S).bind fun r S1 => match (deref S1 r.vw).bind seqOf with
  | some xs => (q S1).bind fun ys S2 => .ok (xs ++ ys) S2
  | none => .bad := rfl
theorem kTu {q : SS → R (List D)} : Eng.kTup q S = (q S).bind fun ds S1 => if ds.length ≤ sizeLine then .ok (.sh (.tup ds)) S1 else .bad := rfl
theorem kLs {q : SS → R (List D)} : kLst q S = (q S).bind fun ds S1 => if ds.length ≤ sizeLine then .ok (.fr (.lst ds)) S1 else .bad := rfl
theorem kBi' {f : List D → Option RO} {q : SS → R (List RV)} : kBi f q S = (q S).bind fun rs S1 => prim ((derefs S1 rs).bind f) S1 := rfl
theorem dr_n : derefs S [] = some [] := rfl
theorem dr_c {r : RV} {rs : List RV} : derefs S (r :: rs) = (deref S r).bind fun d => (derefs S rs).map fun ds => d :: ds := rfl
theorem kMm' {ty : D → Bool} {f : D → List D → Option (D × D)} {q : SS → R (List D)} : kMm ty f i q S = (match (S[i]?).bind SV.dat with
  | some d0 => if ty d0 then (q S).bind fun es S1 => (match (S1[i]?).bind SV.mu with
    | some d => (match f d es with
      | some (y, d') => (match setAt S1 i d' with
        | some S2 => .ok (.sh y) S2
        | none => .bad)
      | none => .bad)
    | none => .bad) else .bad
  | none => .bad) := rfl
theorem kMt : kMd (some i) p true S = (if ((S[i]?).bind SV.mu).isSome then .ok (.io i) S else .bad) := rfl
theorem kMf {io : Option Nat} : kMd io p false S = (kShr p S).bind fun d S1 => .ok (.sh d) S1 := rfl
theorem kCa {sg : FSig} {q : List Bool → SS → R (List AV)} : kCall sg q S = (q sg.md S).bind fun as S1 => callSem sg as S1 := rfl
theorem kCk {sg : FSig} {ps ks : List Str} {n : Nat} {q o : SS → R (List D)} : kCallk sg ps ks n q o S = (q S).bind fun ds S1 => (o S1).bind fun es S2 => if ds.length = n ∧ es.length = ks.length then callSem sg ((kwG ps ks ds es).map .sh) S2 else .bad := rfl
theorem cs {sg : FSig} {as : List AV} : callSem sg as S = (match avDs S as with
  | none => .bad
  | some ds => if (avIos as).Nodup ∧ as.map AV.isIo = sg.md then match sg.m ds with
    | .ok fr d outs => (match setIos S (avIos as) outs with
      | some S' => .ok (if fr then .fr d else .sh d) S'
      | none => .bad)
    | .exc e outs => (match setIos S (avIos as) outs with
      | some S' => .exc e S'
      | none => .bad)
    | .bad => .bad
    else .bad) := rfl
theorem av_n : avDs S [] = some [] := rfl
theorem av_s {as : List AV} : avDs S (.sh d :: as) = (avDs S as).map fun ds => d :: ds := rfl
theorem av_i {as : List AV} : avDs S (.io i :: as) = (match (S[i]?).bind SV.mu with
  | some d => (avDs S as).map fun ds => d :: ds
  | _ => none) := rfl
theorem ai_n : avIos [] = [] := rfl
theorem ai_s {as : List AV} : avIos (.sh d :: as) = avIos as := rfl
theorem ai_i {as : List AV} : avIos (.io i :: as) = i :: avIos as := rfl
theorem io_s : AV.isIo (.sh d) = false := rfl
theorem io_i : AV.isIo (.io i) = true := rfl
theorem st_n : setIos S [] [] = some S := rfl
theorem st_c {is : List Nat} {ds : List D} : setIos S (i :: is) (d :: ds) = (if MutD d then (setAt S i d).bind fun S' => setIos S' is ds else none) := rfl
theorem mu_l {ds : List D} : MutD (.lst ds) = true := rfl
theorem mu_d {ks vs : List D} : MutD (.dic ks vs) = true := rfl
theorem mu_o {c : Nat} {ns : List Str} {vs : List D} : MutD (.obj c ns vs) = true := rfl
theorem sa : setAt S i d = (match S[i]? with
  | some (.ow _) => some (S.set i (.ow d))
  | some (.io _) => some (S.set i (.io d))
  | _ => none) := rfl
theorem fa : freeAt S i = frO (S[i]?) := rfl
theorem f_no : frO (some .no) = true := rfl
theorem f_sh : frO (some (.sh d)) = true := rfl
theorem f_ow : frO (some (.ow d)) = true := rfl
theorem bv : bindV i rv S = (cap rv S).toF fun r S1 => if freeAt S1 i then .nx (S1.set i r.sv) else .bad := rfl
theorem ag_n : asgV (.nm i) rv S = bindV i rv S := rfl
theorem ag_t {l : Tg} : asgV (.tup l) rv S = (shr rv S).toF fun d S1 => match assign (.tup l) d S1 with
    | some S2 => .nx S2
    | none => .bad := rfl
theorem an : assign (.nm i) d S = (if freeAt S i then some (S.set i (.sh d)) else none) := rfl
theorem at_ {l : Tg} {ds : List D} : assign (.tup l) (.tup ds) S = assign.assigns l ds S := rfl
theorem as_n : assign.assigns .nil [] S = some S := rfl
theorem as_c {a b : Tg} {ds : List D} : assign.assigns (.cons a b) (d :: ds) S = (assign a d S).bind (assign.assigns b ds) := rfl
theorem pv {r t : RV} : parV i j r t S = (cap r S).toF fun r S1 => (cap t S1).toF fun t S2 => if freeAt S2 i && freeAt S2 j && i != j then .nx ((S2.set i r.sv).set j t.sv) else .bad := rfl
theorem rt_s : retV (.sh d) S = .rt false d S := rfl
theorem rt_f : retV (.fr d) S = .rt true d S := rfl
theorem rt_b : retV (.br i) S = (match S[i]? with
    | some (.ow d) => .rt true d (S.set i .no)
    | some (.sh d) => .rt false d S
    | _ => .bad) := rfl
theorem kIv : kItv p S = (p S).bind itemsOf := rfl
theorem kYs : kYes S = .ok true S := rfl
theorem os_n : outsS [] S = some [] := rfl
theorem os_t {ms : List Bool} : outsS (true :: ms) (.io d :: S) = (outsS ms S).map fun r => d :: r := rfl
theorem os_f {ms : List Bool} {s : SV} : outsS (false :: ms) (s :: S) = outsS ms S := rfl
theorem is_t {ms : List Bool} {ds : List D} : initS (true :: ms) (d :: ds) = .io d :: initS ms ds := rfl
theorem is_f {ms : List Bool} {ds : List D} : initS (false :: ms) (d :: ds) = .sh d :: initS ms ds := rfl
theorem is_n : initS [] [] = [] := rfl
theorem rs {n : Nat} {ms : List Bool} {b : SS → F} {ds : List D} : runS n ms b ds = if ms.length = ds.length then (match b (slotsOf n ms ds) with
    | .nx S => (match outsS ms S with
      | some o => .ok false .non o
      | none => .bad)
    | .rt fr d S => (match outsS ms S with
      | some o => .ok fr d o
      | none => .bad)
    | .exc e S => (match outsS ms S with
      | some o => .exc e o
      | none => .bad)
    | _ => .bad) else .bad := rfl
theorem so {n : Nat} {ms : List Bool} {ds : List D} : slotsOf n ms ds = initS ms ds ++ List.replicate (n - ds.length) .no := rfl
theorem l_int {i j : Int} : cmpD .Lt (.int i) (.int j) = some (.sh (.bl (decide (i < j)))) := rfl
theorem le_int {i j : Int} : cmpD .LtE (.int i) (.int j) = some (.sh (.bl (decide (i ≤ j)))) := rfl
theorem g_int {i j : Int} : cmpD .Gt (.int i) (.int j) = some (.sh (.bl (decide (j < i)))) := rfl
theorem ge_int {i j : Int} : cmpD .GtE (.int i) (.int j) = some (.sh (.bl (decide (j ≤ i)))) := rfl
theorem eq_d : cmpD .Eq d e = (eqD d e).map bo := rfl
theorem ne_d : cmpD .NotEq d e = (eqD d e).map fun b => bo (!b) := rfl
theorem is_non : cmpD .Is d .non = some (bo (Eng.isNon d)) := rfl
theorem bo' : bo b = .sh (.bl b) := rfl
theorem tr_b : truthD (.bl b) = some b := rfl
theorem tr_i {i : Int} : truthD (.int i) = some (i != 0) := rfl
theorem tr_l {ds : List D} : truthD (.lst ds) = some (!ds.isEmpty) := rfl
theorem ad_i {i j : Int} : binD .Add (.int i) (.int j) = some (.sh (.int (i + j))) := rfl
theorem sb_i {i j : Int} : binD .Sub (.int i) (.int j) = some (.sh (.int (i - j))) := rfl
theorem ml_i {i j : Int} : binD .Mult (.int i) (.int j) = if smallB i || smallB j then some (.sh (.int (i * j))) else none := rfl
theorem fd_i {i j : Int} : binD .FloorDiv (.int i) (.int j) = if decide (0 < j) && decide (j.natAbs.log2 < 9000) then some (.sh (.int (i / j))) else none := rfl
theorem md_i {i j : Int} : binD .Mod (.int i) (.int j) = if 0 < j then some (.sh (.int (i % j))) else none := rfl
theorem pw_i {i j : Int} : binD .Pow (.int i) (.int j) = if decide (0 ≤ j) && decide (j ≤ 1000000) && decide (i.natAbs < 2 ^ 64) then some (.sh (.int (i ^ j.toNat))) else none := rfl
theorem ad_l {xs ys : List D} : binD .Add (.lst xs) (.lst ys) = if xs.length + ys.length ≤ sizeLine then some (.nw (.lst (xs ++ ys))) else none := rfl
theorem su_l {ds : List D} {i : Int} : subD (.lst ds) (.int i) = (L2.atI ds i).map .sh := rfl
theorem su_t {ds : List D} {i : Int} : subD (.tup ds) (.int i) = (L2.atI ds i).map .sh := rfl
theorem bi1' {k : BI} : biD k [d] = bi1 k d := rfl
theorem i_i {i : Int} : bi1 .int (.int i) = some (.sh (.int i)) := rfl
theorem i_b : bi1 .int (.bl b) = some (.sh (.int (if b then 1 else 0))) := rfl
theorem ab_i {i : Int} : bi1 .abs (.int i) = some (.sh (.int (if i < 0 then -i else i))) := rfl
theorem le_l {ds : List D} : bi1 .len (.lst ds) = some (.sh (.int (ds.length : Nat))) := rfl
theorem le_t {ds : List D} : bi1 .len (.tup ds) = some (.sh (.int (ds.length : Nat))) := rfl
theorem li_l {ds : List D} : bi1 .list (.lst ds) = some (.nw (.lst ds)) := rfl
theorem tu_l {ds : List D} : bi1 .tuple (.lst ds) = some (.nw (.tup ds)) := rfl
theorem ng_i {i : Int} : negD (.int i) = some (.sh (.int (-i))) := rfl
theorem sx_l {ds : List D} {k : Int} : setixD (.lst ds) (.int k) e = (L2.ixN ds.length k).map fun n => .lst (ds.set n e) := rfl
theorem bm_s : (some a : Option α).bind (fun x => some x) = some a := rfl
end
end Q
end Eng

namespace Eng
open PySem PySem.Spec
open PyProof.Rows hiding St

/-! ### values that == and repr may see -/
def PD (n : Nat) (d : D) : Prop := ∃ p, toP d = some p ∧ p.canLay0 = true ∧ p.depth ≤ n
theorem PD.int {n : Nat} {i : Int} (h : 1 ≤ n) : PD n (.int i) := ⟨.int i, rfl, by simp [PyData.canLay0], by simp [PyData.depth]; try omega⟩
theorem PD.bl {n : Nat} {i : Bool} (h : 1 ≤ n) : PD n (.bl i) := ⟨.bool i, rfl, by simp [PyData.canLay0], by simp [PyData.depth]; try omega⟩
theorem PD.non {n : Nat} (h : 1 ≤ n) : PD n .non := ⟨.none, rfl, by simp [PyData.canLay0], by simp [PyData.depth]; try omega⟩
theorem PDs {n : Nat} : ∀ {ds : List D}, (∀ d ∈ ds, PD n d) → ∃ ps, toPs ds = some ps ∧ PyData.canLayAll0 ps = true ∧ PyData.depthAll ps ≤ n
  | [], _ => ⟨[], rfl, by simp [PyData.canLayAll0], by simp [PyData.depthAll]⟩
  | d :: ds, h => by
    obtain ⟨p, h1, h2, h3⟩ := h d (by simp)
    obtain ⟨ps, k1, k2, k3⟩ := PDs (ds := ds) fun e he => h e (by simp [he])
    refine ⟨p :: ps, by show (toP d).bind _ = _; rw [h1]; show (toPs ds).map _ = _; rw [k1]; rfl, by simp [PyData.canLayAll0, h2, k2], by simp [PyData.depthAll]; omega⟩
theorem PD.lst {n : Nat} {ds : List D} (h : ∀ d ∈ ds, PD n d) : PD (n + 1) (.lst ds) := by
  obtain ⟨ps, h1, h2, h3⟩ := PDs h
  exact ⟨.list ps, by show (toPs ds).map _ = _; rw [h1]; rfl, by simp [PyData.canLay0, h2], by simp [PyData.depth]; omega⟩
theorem eqD_of {n : Nat} {d e : D} (hn : n ≤ 64) (h : PD n d) (k : PD n e) : ∃ p q, toP d = some p ∧ toP e = some q ∧ eqD d e = some (PyData.eqv p q) := by
  obtain ⟨p, h1, h2, h3⟩ := h
  obtain ⟨q, k1, k2, k3⟩ := k
  refine ⟨p, q, h1, k1, ?_⟩
  unfold eqD
  rw [h1, k1]
  have a : SeqAt.shaped p = true := by unfold SeqAt.shaped; rw [h2]; simp; omega
  have b : SeqAt.shaped q = true := by unfold SeqAt.shaped; rw [k2]; simp; omega
  simp [a, b]
theorem eqD_nil {ds : List D} (h : ∀ d ∈ ds, PD 40 d) : eqD (.lst ds) (.lst []) = some ds.isEmpty := by
  obtain ⟨p, q, h1, h2, h3⟩ := eqD_of (n := 41) (by decide) (PD.lst h) (PD.lst (ds := []) (fun _ z => nomatch z))
  rw [h3]
  cases h2
  obtain ⟨ps, k1, rfl⟩ := Option.map_eq_some_iff.mp (show (toPs ds).map PyData.list = some p from h1)
  cases ds with
  | nil => cases k1; rfl
  | cons d ds =>
    obtain ⟨p, _, k1⟩ := Option.bind_eq_some_iff.mp (show (toP d).bind (fun p => (toPs ds).map fun ps => p :: ps) = some ps from k1)
    obtain ⟨ps', _, rfl⟩ := Option.map_eq_some_iff.mp k1
    rfl
theorem ints_PD (c : List Int) : ∀ d ∈ c.map D.int, PD 40 d := fun d h => by
  obtain ⟨i, _, rfl⟩ := List.mem_map.mp h
  exact PD.int (by decide)
theorem atI_nat {α : Type} {xs : List α} {i : Int} {x : α} (h0 : 0 ≤ i) (h : xs[i.toNat]? = some x) : L2.atI xs i = some x := by
  have hl := (List.getElem?_eq_some_iff.mp h).1
  unfold L2.atI L2.ixN
  rw [if_pos h0, if_pos (by omega)]
  exact h

/-! ### the tub -/
def Tub (c : List Int) (t r : Int) : D := .lst [.lst (c.map D.int), .int t, .int r]
def TubOk (n : Nat) (d : D) : Prop := ∃ c t r, d = Tub c t r ∧ 0 ≤ t ∧ t ≤ n ∧ 0 ≤ r
theorem TubOk.mono {m n : Nat} {d : D} (h : TubOk m d) (le : m ≤ n) : TubOk n d := by
  obtain ⟨c, t, r, e, h1, h2, h3⟩ := h
  exact ⟨c, t, r, e, h1, by omega, h3⟩
def Draws (sg : FSig) : Prop := sg.md = [true, false] ∧ ∀ n d m, TubOk n d → n ≤ 4000 → 0 < m → m < 2 ^ 40 → ∃ v d', sg.m [d, .int m] = .ok false (.int v) [d'] ∧ 0 ≤ v ∧ v < m ∧ TubOk (n + 1) d'
def Picks (sg : FSig) : Prop := sg.md = [true, false] ∧ ∀ n d xs, TubOk n d → n ≤ 4000 → xs ≠ [] → xs.length < 2 ^ 40 → ∃ (i : Nat) (x : D) (d' : D), xs[i]? = some x ∧ sg.m [d, .lst xs] = .ok false x [d'] ∧ TubOk (n + 1) d'
theorem log_small {m : Int} (h0 : 0 < m) (h : m < 2 ^ 40) : m.natAbs.log2 < 9000 := by
  rw [Nat.log2_lt (by omega)]
  have : m.natAbs < 2 ^ 40 := by omega
  calc m.natAbs < 2 ^ 40 := this
    _ ≤ 2 ^ 9000 := Nat.pow_le_pow_right (by decide) (by decide)
theorem small_of {x : Int} (h1 : -(2 ^ 64) < x) (h2 : x < 2 ^ 64) : smallB x = true := by unfold smallB; simp only [Bool.and_eq_true, decide_eq_true_eq]; exact ⟨h1, h2⟩
theorem small_mod {x k : Int} (h : 0 < k) (h2 : k ≤ 2 ^ 64) : smallB (x % k) = true := small_of (by have := Int.emod_nonneg x (show k ≠ 0 by omega); omega) (by have := Int.emod_lt_of_pos x h; omega)
/-- the base of the second power -/
theorem base2 {y t a b k : Int} (hy : 0 ≤ y) (hy2 : y < 2 ^ 32) (ht : 0 ≤ t) (ht2 : t ≤ 4096) (ha : 0 ≤ a) (ha2 : a < 2 ^ 20) (hk : 0 ≤ k) (hk2 : k < 2 ^ 20) (hb : 0 ≤ b) (hb2 : b < 2 ^ 20) : (y * (2 * t + a) + k * t * t + b).natAbs < 2 ^ 64 := by
  have h1 : y * (2 * t + a) ≤ 2 ^ 32 * (2 ^ 21) := Int.mul_le_mul (by omega) (by omega) (by omega) (by omega)
  have h0 : 0 ≤ y * (2 * t + a) := Int.mul_nonneg hy (by omega)
  have h2 : k * t ≤ 2 ^ 20 * 4096 := Int.mul_le_mul (by omega) ht2 ht (by omega)
  have h3 : 0 ≤ k * t := Int.mul_nonneg hk ht
  have h4 : k * t * t ≤ 2 ^ 20 * 4096 * 4096 := Int.mul_le_mul h2 ht2 ht (by omega)
  have h5 : 0 ≤ k * t * t := Int.mul_nonneg h3 ht
  omega
def CB.of : List CS → CB
  | [] => .nil
  | s :: r => .cons s (CB.of r)
/-- the tail of a draw -/
def scoopT (M1 k3 k4 M2 c1 k5 k6 M3 q : Int) : CB :=
  (.cons (.asg (.nm 4) (.bin .Mod (.bi .int (.cons (.bin .Pow (.bin .Add (.bin .Add (.bin .Mod (.bi .int (.cons (.var 3) .nil)) (.int M1)) (.bin .Mult (.int k3) (.var 2))) (.int k4)) (.int 5)) .nil)) (.int M2)))
  (.cons (.asg (.nm 4) (.bin .Mod (.bi .int (.cons (.bin .Pow (.bin .Add (.bin .Add (.bin .Mult (.var 4) (.bin .Add (.bin .Mult (.int 2) (.var 2)) (.int c1))) (.bin .Mult (.bin .Mult (.int k5) (.var 2)) (.var 2))) (.int k6)) (.int 3)) .nil)) (.int M3)))
  (.cons (.ret (.bin .Mod (.bi .int (.cons (.bin .FloorDiv (.var 4) (.int q)) .nil)) (.var 1)))
  .nil)))
def ok20 (k : Int) : Prop := 0 < k ∧ k < 2 ^ 20
def ok32 (k : Int) : Prop := 0 < k ∧ k < 2 ^ 32
theorem tail_eq {M1 k3 k4 M2 c1 k5 k6 M3 q : Int} {d : D} {m t x : Int} {s4 s5 : SV} (h4 : s4 = .no) (hM1 : ok32 M1) (hM2 : ok32 M2) (hM3 : ok32 M3) (h3 : ok20 k3) (hk4 : ok20 k4) (hc1 : ok20 c1) (h5 : ok20 k5) (h6 : ok20 k6) (hq : ok20 q) (ht : 0 ≤ t) (ht2 : t ≤ 4096) (hm : 0 < m) :
    ∃ v S, exb (scoopT M1 k3 k4 M2 c1 k5 k6 M3 q) [.io d, .sh (.int m), .sh (.int t), .sh (.int x), s4, s5] = .rt false (.int v) (.io d :: .sh (.int m) :: S) ∧ 0 ≤ v ∧ v < m := by
  subst h4
  have a1 : smallB k3 = true := small_of (by have := h3.1; omega) (by have := h3.2; omega)
  have a2 : smallB k5 = true := small_of (by have := h5.1; omega) (by have := h5.2; omega)
  have a3 : smallB t = true := small_of (by omega) (by omega)
  have a4 : smallB 2 = true := by decide
  have a5 : ∀ y : Int, smallB (y % M2) = true := fun y => small_mod hM2.1 (by have := hM2.2; omega)
  have b1 : ∀ y : Int, (y % M1 + k3 * t + k4).natAbs < 2 ^ 64 := fun y => by
    have e1 := Int.emod_nonneg y (show M1 ≠ 0 by have := hM1.1; omega)
    have e2 := Int.emod_lt_of_pos y hM1.1
    have e3 : k3 * t ≤ 2 ^ 20 * 4096 := Int.mul_le_mul (by have := h3.2; omega) ht2 ht (by omega)
    have e4 : 0 ≤ k3 * t := Int.mul_nonneg (by have := h3.1; omega) ht
    have := hM1.2; have := hk4.1; have := hk4.2
    omega
  have b2 : ∀ y : Int, ((y % M2) * (2 * t + c1) + k5 * t * t + k6).natAbs < 2 ^ 64 := fun y => by
    have e1 := Int.emod_nonneg y (show M2 ≠ 0 by have := hM2.1; omega)
    have e2 := Int.emod_lt_of_pos y hM2.1
    exact base2 e1 (by have := hM2.2; omega) ht ht2 (by have := hc1.1; omega) hc1.2 (by have := h5.1; omega) h5.2 (by have := h6.1; omega) h6.2
  have c1' : (0 < M1) = True := eq_true hM1.1
  have c2' : (0 < M2) = True := eq_true hM2.1
  have c3' : (0 < M3) = True := eq_true hM3.1
  have c4' : (0 < q) = True := eq_true hq.1
  have c5' : (0 < m) = True := eq_true hm
  have lq : (q.natAbs.log2 < 9000) = True := eq_true (log_small hq.1 (by have := hq.2; omega))
  have p1 : (0 ≤ (5 : Int)) = True := by simp
  have p2 : ((5 : Int) ≤ 1000000) = True := by simp
  have p3 : (0 ≤ (3 : Int)) = True := by simp
  have p4 : ((3 : Int) ≤ 1000000) = True := by simp
  have b1' : ∀ y : Int, ((y % M1 + k3 * t + k4).natAbs < 2 ^ 64) = True := fun y => eq_true (b1 y)
  have b2' : ∀ y : Int, (((y % M2) * (2 * t + c1) + k5 * t * t + k6).natAbs < 2 ^ 64) = True := fun y => eq_true (b2 y)
  refine ⟨?v, ?S, ?h, ?a, ?b⟩
  case h =>
    unfold scoopT
    simp only [Q.b_ok, Q.b_ex, Q.b_bd, Q.t_ok, Q.t_ex, Q.t_bd, Q.s_nx, Q.s_rt, Q.s_bk, Q.s_ct, Q.s_ex, Q.s_bd, Q.p_sm, Q.p_no, Q.r_sh, Q.r_l, Q.r_t, Q.r_d, Q.w_sh, Q.w_fr, Q.w_br, Q.d_sh, Q.d_fr, Q.d_br, Q.a_sh, Q.a_ow, Q.a_io, Q.a_lk, Q.m_ow, Q.m_io, Q.m_sh, Q.h_sh, Q.h_fr, Q.h_br, Q.c_sh, Q.c_fr, Q.c_br, Q.v_sh, Q.v_fr, Q.e_val, Q.e_tst, Q.e_io, Q.e_md, Q.kC', Q.kV', Q.kU', Q.kB', Q.kP0, Q.kP1, Q.kS', Q.kT', Q.kCh', Q.bl_s, Q.kVa, Q.kN', Q.kI', Q.kIT, Q.kAV, Q.kAT, Q.kSh, Q.kNl, Q.kCo, Q.kVw', Q.kSt, Q.kTu, Q.kLs, Q.kBi', Q.dr_n, Q.dr_c, Q.kMm', Q.kMt, Q.kMf, Q.kCa, Q.kCk, Q.cs, Q.av_n, Q.av_s, Q.av_i, Q.ai_n, Q.ai_s, Q.ai_i, Q.io_s, Q.io_i, Q.st_n, Q.st_c, Q.mu_l, Q.mu_d, Q.mu_o, Q.sa, Q.fa, Q.f_no, Q.f_sh, Q.f_ow, Q.bv, Q.ag_n, Q.ag_t, Q.an, Q.at_, Q.as_n, Q.as_c, Q.pv, Q.rt_s, Q.rt_f, Q.rt_b, Q.kIv, Q.kYs, Q.os_n, Q.os_t, Q.os_f, Q.is_t, Q.is_f, Q.is_n, Q.rs, Q.so, Q.l_int, Q.le_int, Q.g_int, Q.ge_int, Q.eq_d, Q.ne_d, Q.is_non, Q.bo', Q.tr_b, Q.tr_i, Q.tr_l, Q.ad_i, Q.sb_i, Q.ml_i, Q.fd_i, Q.md_i, Q.pw_i, Q.ad_l, Q.su_l, Q.su_t, Q.bi1', Q.i_i, Q.i_b, Q.ab_i, Q.le_l, Q.le_t, Q.li_l, Q.tu_l, Q.ng_i, Q.sx_l, Q.bm_s, exb, exs, evc, evl, evi, List.getElem?_cons_zero, List.getElem?_cons_succ, List.getElem?_nil, List.set_cons_zero, List.set_cons_succ, List.length_cons, List.length_nil, Option.bind_some, Option.bind_none, Option.map_some, Option.map_none, List.map_cons, List.map_nil, List.replicate_zero, List.replicate_succ, List.append_nil, List.cons_append, List.nil_append, Bool.not_true, Bool.not_false, Bool.false_eq_true, if_true, if_false, ite_true, ite_false, Option.isSome_some, Option.isSome_none, Bool.and_true, Bool.true_and, Bool.and_false, Bool.false_and, Bool.or_true, Bool.true_or, Bool.or_false, Bool.false_or, Nat.reduceAdd, Nat.reduceSub, Nat.sub_self, Nat.add_zero, Nat.zero_add, Nat.reduceLT, Nat.reduceLeDiff, reduceCtorEq, List.nodup_nil, List.nodup_cons, List.not_mem_nil, not_false_eq_true, and_self, and_true, true_and, decide_true, decide_false, List.tail_cons, List.headD_cons, CE.isNoe, CL.len, Bool.true_eq_false, Int.reduceLT, Int.reduceLE, Int.reduceToNat, reduceIte, a1, a2, a3, a4, a5, b1', b2', c1', c2', c3', c4', c5', lq, p1, p2, p3, p4]
    rfl
  case a => exact Int.emod_nonneg _ (by omega)
  case b => exact Int.emod_lt_of_pos _ hm
def midB (ab rs : CE) (tl : CB) : CB :=
  (.cons (.ifs (.and_ (.cons (.cmp .Lt (.var 2) (.bi .len (.cons (.sub (.var 0) (.int 0)) .nil))) (.cons (.cmp .GtE (.bi .abs (.cons (.var 3) .nil)) (.bin .Pow (.int 10) (.int 18))) .nil))) (.cons (.asg (.nm 5) (.bin .Add (.bin .Mult (.int 2) (.bin .Sub ab (.bin .Pow (.int 10) (.int 18)))) (.bi .int (.cons (.cmp .Lt (.var 3) (.int 0)) .nil))))
  (.cons (.setix 0 (.int 2) (.bin .FloorDiv rs (.var 1)))
  (.cons (.ret (.bin .Mod (.bi .int (.cons (.var 5) .nil)) (.var 1)))
  .nil))) .nil)
  tl)
/-- a draw; the first cell's form k1 * t + k2 -/
def scoopB (ab rs : CE) (k1 k2 : Int) (tl : CB) : CB :=
  (.cons (.ifs (.cmp .Gt (.sub (.var 0) (.int 2)) (.int 0)) (.cons (.asg (.nm 5) (.bi .int (.cons (.sub (.var 0) (.int 2)) .nil)))
  (.cons (.setix 0 (.int 2) (.bin .FloorDiv (.var 5) (.var 1)))
  (.cons (.ret (.bin .Mod (.bi .int (.cons (.var 5) .nil)) (.var 1)))
  .nil))) .nil)
  (.cons (.asg (.nm 2) (.sub (.var 0) (.int 1)))
  (.cons (.setix 0 (.int 1) (.bin .Add (.var 2) (.int 1)))
  (.cons (.asg (.nm 3) (.bin .Add (.bin .Mult (.int k1) (.var 2)) (.int k2)))
  (.cons (.ifs (.cmp .NotEq (.sub (.var 0) (.int 0)) (.lst .nil)) (.cons (.asg (.nm 3) (.sub (.sub (.var 0) (.int 0)) (.bin .Mod (.bi .int (.cons (.var 2) .nil)) (.bi .len (.cons (.sub (.var 0) (.int 0)) .nil)))))
  .nil) .nil)
  (midB ab rs tl))))))
theorem sizeLine_pos : (0 ≤ sizeLine) = True := eq_true (Nat.zero_le _)
theorem ix32 : L2.ixN 3 2 = some 2 := rfl
theorem ix31 : L2.ixN 3 1 = some 1 := rfl
theorem atTub0 {a b c : D} : L2.atI [a, b, c] 0 = some a := rfl
theorem atTub1 {a b c : D} : L2.atI [a, b, c] 1 = some b := rfl
theorem atTub2 {a b c : D} : L2.atI [a, b, c] 2 = some c := rfl
def absOf (ab : CE) : Prop := ∀ (S : SS) (x : Int), S[3]? = some (.sh (.int x)) → (evc ab).val S = .ok (.sh (.int (if x < 0 then -x else x))) S
theorem abs1 : absOf (.bi .abs (.cons (.var 3) .nil)) := fun S x h => by
  simp only [Q.b_ok, Q.b_ex, Q.b_bd, Q.t_ok, Q.t_ex, Q.t_bd, Q.s_nx, Q.s_rt, Q.s_bk, Q.s_ct, Q.s_ex, Q.s_bd, Q.p_sm, Q.p_no, Q.r_sh, Q.r_l, Q.r_t, Q.r_d, Q.w_sh, Q.w_fr, Q.w_br, Q.d_sh, Q.d_fr, Q.d_br, Q.a_sh, Q.a_ow, Q.a_io, Q.a_lk, Q.m_ow, Q.m_io, Q.m_sh, Q.h_sh, Q.h_fr, Q.h_br, Q.c_sh, Q.c_fr, Q.c_br, Q.v_sh, Q.v_fr, Q.e_val, Q.e_tst, Q.e_io, Q.e_md, Q.kC', Q.kV', Q.kU', Q.kB', Q.kP0, Q.kP1, Q.kS', Q.kT', Q.kCh', Q.bl_s, Q.kVa, Q.kN', Q.kI', Q.kIT, Q.kAV, Q.kAT, Q.kSh, Q.kNl, Q.kCo, Q.kVw', Q.kSt, Q.kTu, Q.kLs, Q.kBi', Q.dr_n, Q.dr_c, Q.kMm', Q.kMt, Q.kMf, Q.kCa, Q.kCk, Q.cs, Q.av_n, Q.av_s, Q.av_i, Q.ai_n, Q.ai_s, Q.ai_i, Q.io_s, Q.io_i, Q.st_n, Q.st_c, Q.mu_l, Q.mu_d, Q.mu_o, Q.sa, Q.fa, Q.f_no, Q.f_sh, Q.f_ow, Q.bv, Q.ag_n, Q.ag_t, Q.an, Q.at_, Q.as_n, Q.as_c, Q.pv, Q.rt_s, Q.rt_f, Q.rt_b, Q.kIv, Q.kYs, Q.os_n, Q.os_t, Q.os_f, Q.is_t, Q.is_f, Q.is_n, Q.rs, Q.so, Q.l_int, Q.le_int, Q.g_int, Q.ge_int, Q.eq_d, Q.ne_d, Q.is_non, Q.bo', Q.tr_b, Q.tr_i, Q.tr_l, Q.ad_i, Q.sb_i, Q.ml_i, Q.fd_i, Q.md_i, Q.pw_i, Q.ad_l, Q.su_l, Q.su_t, Q.bi1', Q.i_i, Q.i_b, Q.ab_i, Q.le_l, Q.le_t, Q.li_l, Q.tu_l, Q.ng_i, Q.sx_l, Q.bm_s, exb, exs, evc, evl, evi, List.getElem?_cons_zero, List.getElem?_cons_succ, List.getElem?_nil, List.set_cons_zero, List.set_cons_succ, List.length_cons, List.length_nil, Option.bind_some, Option.bind_none, Option.map_some, Option.map_none, List.map_cons, List.map_nil, List.replicate_zero, List.replicate_succ, List.append_nil, List.cons_append, List.nil_append, Bool.not_true, Bool.not_false, Bool.false_eq_true, if_true, if_false, ite_true, ite_false, Option.isSome_some, Option.isSome_none, Bool.and_true, Bool.true_and, Bool.and_false, Bool.false_and, Bool.or_true, Bool.true_or, Bool.or_false, Bool.false_or, Nat.reduceAdd, Nat.reduceSub, Nat.sub_self, Nat.add_zero, Nat.zero_add, Nat.reduceLT, Nat.reduceLeDiff, reduceCtorEq, List.nodup_nil, List.nodup_cons, List.not_mem_nil, not_false_eq_true, and_self, and_true, true_and, decide_true, decide_false, List.tail_cons, List.headD_cons, CE.isNoe, CL.len, Bool.true_eq_false, Int.reduceLT, Int.reduceLE, Int.reduceToNat, reduceIte, h]
theorem abs2 : absOf (.bi .abs (.cons (.bi .int (.cons (.var 3) .nil)) .nil)) := fun S x h => by
  simp only [Q.b_ok, Q.b_ex, Q.b_bd, Q.t_ok, Q.t_ex, Q.t_bd, Q.s_nx, Q.s_rt, Q.s_bk, Q.s_ct, Q.s_ex, Q.s_bd, Q.p_sm, Q.p_no, Q.r_sh, Q.r_l, Q.r_t, Q.r_d, Q.w_sh, Q.w_fr, Q.w_br, Q.d_sh, Q.d_fr, Q.d_br, Q.a_sh, Q.a_ow, Q.a_io, Q.a_lk, Q.m_ow, Q.m_io, Q.m_sh, Q.h_sh, Q.h_fr, Q.h_br, Q.c_sh, Q.c_fr, Q.c_br, Q.v_sh, Q.v_fr, Q.e_val, Q.e_tst, Q.e_io, Q.e_md, Q.kC', Q.kV', Q.kU', Q.kB', Q.kP0, Q.kP1, Q.kS', Q.kT', Q.kCh', Q.bl_s, Q.kVa, Q.kN', Q.kI', Q.kIT, Q.kAV, Q.kAT, Q.kSh, Q.kNl, Q.kCo, Q.kVw', Q.kSt, Q.kTu, Q.kLs, Q.kBi', Q.dr_n, Q.dr_c, Q.kMm', Q.kMt, Q.kMf, Q.kCa, Q.kCk, Q.cs, Q.av_n, Q.av_s, Q.av_i, Q.ai_n, Q.ai_s, Q.ai_i, Q.io_s, Q.io_i, Q.st_n, Q.st_c, Q.mu_l, Q.mu_d, Q.mu_o, Q.sa, Q.fa, Q.f_no, Q.f_sh, Q.f_ow, Q.bv, Q.ag_n, Q.ag_t, Q.an, Q.at_, Q.as_n, Q.as_c, Q.pv, Q.rt_s, Q.rt_f, Q.rt_b, Q.kIv, Q.kYs, Q.os_n, Q.os_t, Q.os_f, Q.is_t, Q.is_f, Q.is_n, Q.rs, Q.so, Q.l_int, Q.le_int, Q.g_int, Q.ge_int, Q.eq_d, Q.ne_d, Q.is_non, Q.bo', Q.tr_b, Q.tr_i, Q.tr_l, Q.ad_i, Q.sb_i, Q.ml_i, Q.fd_i, Q.md_i, Q.pw_i, Q.ad_l, Q.su_l, Q.su_t, Q.bi1', Q.i_i, Q.i_b, Q.ab_i, Q.le_l, Q.le_t, Q.li_l, Q.tu_l, Q.ng_i, Q.sx_l, Q.bm_s, exb, exs, evc, evl, evi, List.getElem?_cons_zero, List.getElem?_cons_succ, List.getElem?_nil, List.set_cons_zero, List.set_cons_succ, List.length_cons, List.length_nil, Option.bind_some, Option.bind_none, Option.map_some, Option.map_none, List.map_cons, List.map_nil, List.replicate_zero, List.replicate_succ, List.append_nil, List.cons_append, List.nil_append, Bool.not_true, Bool.not_false, Bool.false_eq_true, if_true, if_false, ite_true, ite_false, Option.isSome_some, Option.isSome_none, Bool.and_true, Bool.true_and, Bool.and_false, Bool.false_and, Bool.or_true, Bool.true_or, Bool.or_false, Bool.false_or, Nat.reduceAdd, Nat.reduceSub, Nat.sub_self, Nat.add_zero, Nat.zero_add, Nat.reduceLT, Nat.reduceLeDiff, reduceCtorEq, List.nodup_nil, List.nodup_cons, List.not_mem_nil, not_false_eq_true, and_self, and_true, true_and, decide_true, decide_false, List.tail_cons, List.headD_cons, CE.isNoe, CL.len, Bool.true_eq_false, Int.reduceLT, Int.reduceLE, Int.reduceToNat, reduceIte, h]
def restOf (rs : CE) : Prop := ∀ (S : SS) (x : Int), S[5]? = some (.sh (.int x)) → (evc rs).val S = .ok (.sh (.int x)) S
theorem rest1 : restOf (.var 5) := fun S x h => by
  simp only [Q.b_ok, Q.b_ex, Q.b_bd, Q.t_ok, Q.t_ex, Q.t_bd, Q.s_nx, Q.s_rt, Q.s_bk, Q.s_ct, Q.s_ex, Q.s_bd, Q.p_sm, Q.p_no, Q.r_sh, Q.r_l, Q.r_t, Q.r_d, Q.w_sh, Q.w_fr, Q.w_br, Q.d_sh, Q.d_fr, Q.d_br, Q.a_sh, Q.a_ow, Q.a_io, Q.a_lk, Q.m_ow, Q.m_io, Q.m_sh, Q.h_sh, Q.h_fr, Q.h_br, Q.c_sh, Q.c_fr, Q.c_br, Q.v_sh, Q.v_fr, Q.e_val, Q.e_tst, Q.e_io, Q.e_md, Q.kC', Q.kV', Q.kU', Q.kB', Q.kP0, Q.kP1, Q.kS', Q.kT', Q.kCh', Q.bl_s, Q.kVa, Q.kN', Q.kI', Q.kIT, Q.kAV, Q.kAT, Q.kSh, Q.kNl, Q.kCo, Q.kVw', Q.kSt, Q.kTu, Q.kLs, Q.kBi', Q.dr_n, Q.dr_c, Q.kMm', Q.kMt, Q.kMf, Q.kCa, Q.kCk, Q.cs, Q.av_n, Q.av_s, Q.av_i, Q.ai_n, Q.ai_s, Q.ai_i, Q.io_s, Q.io_i, Q.st_n, Q.st_c, Q.mu_l, Q.mu_d, Q.mu_o, Q.sa, Q.fa, Q.f_no, Q.f_sh, Q.f_ow, Q.bv, Q.ag_n, Q.ag_t, Q.an, Q.at_, Q.as_n, Q.as_c, Q.pv, Q.rt_s, Q.rt_f, Q.rt_b, Q.kIv, Q.kYs, Q.os_n, Q.os_t, Q.os_f, Q.is_t, Q.is_f, Q.is_n, Q.rs, Q.so, Q.l_int, Q.le_int, Q.g_int, Q.ge_int, Q.eq_d, Q.ne_d, Q.is_non, Q.bo', Q.tr_b, Q.tr_i, Q.tr_l, Q.ad_i, Q.sb_i, Q.ml_i, Q.fd_i, Q.md_i, Q.pw_i, Q.ad_l, Q.su_l, Q.su_t, Q.bi1', Q.i_i, Q.i_b, Q.ab_i, Q.le_l, Q.le_t, Q.li_l, Q.tu_l, Q.ng_i, Q.sx_l, Q.bm_s, exb, exs, evc, evl, evi, List.getElem?_cons_zero, List.getElem?_cons_succ, List.getElem?_nil, List.set_cons_zero, List.set_cons_succ, List.length_cons, List.length_nil, Option.bind_some, Option.bind_none, Option.map_some, Option.map_none, List.map_cons, List.map_nil, List.replicate_zero, List.replicate_succ, List.append_nil, List.cons_append, List.nil_append, Bool.not_true, Bool.not_false, Bool.false_eq_true, if_true, if_false, ite_true, ite_false, Option.isSome_some, Option.isSome_none, Bool.and_true, Bool.true_and, Bool.and_false, Bool.false_and, Bool.or_true, Bool.true_or, Bool.or_false, Bool.false_or, Nat.reduceAdd, Nat.reduceSub, Nat.sub_self, Nat.add_zero, Nat.zero_add, Nat.reduceLT, Nat.reduceLeDiff, reduceCtorEq, List.nodup_nil, List.nodup_cons, List.not_mem_nil, not_false_eq_true, and_self, and_true, true_and, decide_true, decide_false, List.tail_cons, List.headD_cons, CE.isNoe, CL.len, Bool.true_eq_false, Int.reduceLT, Int.reduceLE, Int.reduceToNat, reduceIte, h]
theorem rest2 : restOf (.bi .int (.cons (.var 5) .nil)) := fun S x h => by
  simp only [Q.b_ok, Q.b_ex, Q.b_bd, Q.t_ok, Q.t_ex, Q.t_bd, Q.s_nx, Q.s_rt, Q.s_bk, Q.s_ct, Q.s_ex, Q.s_bd, Q.p_sm, Q.p_no, Q.r_sh, Q.r_l, Q.r_t, Q.r_d, Q.w_sh, Q.w_fr, Q.w_br, Q.d_sh, Q.d_fr, Q.d_br, Q.a_sh, Q.a_ow, Q.a_io, Q.a_lk, Q.m_ow, Q.m_io, Q.m_sh, Q.h_sh, Q.h_fr, Q.h_br, Q.c_sh, Q.c_fr, Q.c_br, Q.v_sh, Q.v_fr, Q.e_val, Q.e_tst, Q.e_io, Q.e_md, Q.kC', Q.kV', Q.kU', Q.kB', Q.kP0, Q.kP1, Q.kS', Q.kT', Q.kCh', Q.bl_s, Q.kVa, Q.kN', Q.kI', Q.kIT, Q.kAV, Q.kAT, Q.kSh, Q.kNl, Q.kCo, Q.kVw', Q.kSt, Q.kTu, Q.kLs, Q.kBi', Q.dr_n, Q.dr_c, Q.kMm', Q.kMt, Q.kMf, Q.kCa, Q.kCk, Q.cs, Q.av_n, Q.av_s, Q.av_i, Q.ai_n, Q.ai_s, Q.ai_i, Q.io_s, Q.io_i, Q.st_n, Q.st_c, Q.mu_l, Q.mu_d, Q.mu_o, Q.sa, Q.fa, Q.f_no, Q.f_sh, Q.f_ow, Q.bv, Q.ag_n, Q.ag_t, Q.an, Q.at_, Q.as_n, Q.as_c, Q.pv, Q.rt_s, Q.rt_f, Q.rt_b, Q.kIv, Q.kYs, Q.os_n, Q.os_t, Q.os_f, Q.is_t, Q.is_f, Q.is_n, Q.rs, Q.so, Q.l_int, Q.le_int, Q.g_int, Q.ge_int, Q.eq_d, Q.ne_d, Q.is_non, Q.bo', Q.tr_b, Q.tr_i, Q.tr_l, Q.ad_i, Q.sb_i, Q.ml_i, Q.fd_i, Q.md_i, Q.pw_i, Q.ad_l, Q.su_l, Q.su_t, Q.bi1', Q.i_i, Q.i_b, Q.ab_i, Q.le_l, Q.le_t, Q.li_l, Q.tu_l, Q.ng_i, Q.sx_l, Q.bm_s, exb, exs, evc, evl, evi, List.getElem?_cons_zero, List.getElem?_cons_succ, List.getElem?_nil, List.set_cons_zero, List.set_cons_succ, List.length_cons, List.length_nil, Option.bind_some, Option.bind_none, Option.map_some, Option.map_none, List.map_cons, List.map_nil, List.replicate_zero, List.replicate_succ, List.append_nil, List.cons_append, List.nil_append, Bool.not_true, Bool.not_false, Bool.false_eq_true, if_true, if_false, ite_true, ite_false, Option.isSome_some, Option.isSome_none, Bool.and_true, Bool.true_and, Bool.and_false, Bool.false_and, Bool.or_true, Bool.true_or, Bool.or_false, Bool.false_or, Nat.reduceAdd, Nat.reduceSub, Nat.sub_self, Nat.add_zero, Nat.zero_add, Nat.reduceLT, Nat.reduceLeDiff, reduceCtorEq, List.nodup_nil, List.nodup_cons, List.not_mem_nil, not_false_eq_true, and_self, and_true, true_and, decide_true, decide_false, List.tail_cons, List.headD_cons, CE.isNoe, CL.len, Bool.true_eq_false, Int.reduceLT, Int.reduceLE, Int.reduceToNat, reduceIte, h]
theorem scoop_draws {ab rs : CE} {k1 k2 M1 k3 k4 M2 c1 k5 k6 M3 q : Int} (hM1 : ok32 M1) (hM2 : ok32 M2) (hM3 : ok32 M3) (h3 : ok20 k3) (hk4 : ok20 k4) (hc1 : ok20 c1) (h5 : ok20 k5) (h6 : ok20 k6) (hq : ok20 q) (hk1 : ok20 k1) (hab : absOf ab) (hrs : restOf rs) :
    Draws ⟨[true, false], runS 6 [true, false] (exb (scoopB ab rs k1 k2 (scoopT M1 k3 k4 M2 c1 k5 k6 M3 q)))⟩ := by
  refine ⟨rfl, ?_⟩
  rintro n d m ⟨c, t, r, rfl, ht, ht2, hr⟩ hn hm hm2
  have cm : (0 < m) = True := eq_true hm
  have lm : (m.natAbs.log2 < 9000) = True := eq_true (log_small hm hm2)
  have a1 : smallB k1 = true := small_of (by have := hk1.1; omega) (by have := hk1.2; omega)
  have a3 : smallB t = true := small_of (by omega) (by omega)
  have a4 : smallB 2 = true := by decide
  have rc : (0 < r) = (0 < r) := rfl
  have el := eqD_nil (ints_PD c)
  have p1 : (0 ≤ (18 : Int)) = True := by simp
  have p2 : ((18 : Int) ≤ 1000000) = True := by simp
  have p3 : ((10 : Int).natAbs < 2 ^ 64) = True := by simp
  by_cases hr0 : 0 < r
  · refine ⟨r % m, Tub c t (r / m), ?_, Int.emod_nonneg _ (by omega), Int.emod_lt_of_pos _ hm, c, t, r / m, rfl, ht, by omega, Int.ediv_nonneg hr (by omega)⟩
    unfold Tub scoopB
    have hr0' : (0 < r) = True := eq_true hr0
    simp only [Q.b_ok, Q.b_ex, Q.b_bd, Q.t_ok, Q.t_ex, Q.t_bd, Q.s_nx, Q.s_rt, Q.s_bk, Q.s_ct, Q.s_ex, Q.s_bd, Q.p_sm, Q.p_no, Q.r_sh, Q.r_l, Q.r_t, Q.r_d, Q.w_sh, Q.w_fr, Q.w_br, Q.d_sh, Q.d_fr, Q.d_br, Q.a_sh, Q.a_ow, Q.a_io, Q.a_lk, Q.m_ow, Q.m_io, Q.m_sh, Q.h_sh, Q.h_fr, Q.h_br, Q.c_sh, Q.c_fr, Q.c_br, Q.v_sh, Q.v_fr, Q.e_val, Q.e_tst, Q.e_io, Q.e_md, Q.kC', Q.kV', Q.kU', Q.kB', Q.kP0, Q.kP1, Q.kS', Q.kT', Q.kCh', Q.bl_s, Q.kVa, Q.kN', Q.kI', Q.kIT, Q.kAV, Q.kAT, Q.kSh, Q.kNl, Q.kCo, Q.kVw', Q.kSt, Q.kTu, Q.kLs, Q.kBi', Q.dr_n, Q.dr_c, Q.kMm', Q.kMt, Q.kMf, Q.kCa, Q.kCk, Q.cs, Q.av_n, Q.av_s, Q.av_i, Q.ai_n, Q.ai_s, Q.ai_i, Q.io_s, Q.io_i, Q.st_n, Q.st_c, Q.mu_l, Q.mu_d, Q.mu_o, Q.sa, Q.fa, Q.f_no, Q.f_sh, Q.f_ow, Q.bv, Q.ag_n, Q.ag_t, Q.an, Q.at_, Q.as_n, Q.as_c, Q.pv, Q.rt_s, Q.rt_f, Q.rt_b, Q.kIv, Q.kYs, Q.os_n, Q.os_t, Q.os_f, Q.is_t, Q.is_f, Q.is_n, Q.rs, Q.so, Q.l_int, Q.le_int, Q.g_int, Q.ge_int, Q.eq_d, Q.ne_d, Q.is_non, Q.bo', Q.tr_b, Q.tr_i, Q.tr_l, Q.ad_i, Q.sb_i, Q.ml_i, Q.fd_i, Q.md_i, Q.pw_i, Q.ad_l, Q.su_l, Q.su_t, Q.bi1', Q.i_i, Q.i_b, Q.ab_i, Q.le_l, Q.le_t, Q.li_l, Q.tu_l, Q.ng_i, Q.sx_l, Q.bm_s, exb, exs, evc, evl, evi, List.getElem?_cons_zero, List.getElem?_cons_succ, List.getElem?_nil, List.set_cons_zero, List.set_cons_succ, List.length_cons, List.length_nil, Option.bind_some, Option.bind_none, Option.map_some, Option.map_none, List.map_cons, List.map_nil, List.replicate_zero, List.replicate_succ, List.append_nil, List.cons_append, List.nil_append, Bool.not_true, Bool.not_false, Bool.false_eq_true, if_true, if_false, ite_true, ite_false, Option.isSome_some, Option.isSome_none, Bool.and_true, Bool.true_and, Bool.and_false, Bool.false_and, Bool.or_true, Bool.true_or, Bool.or_false, Bool.false_or, Nat.reduceAdd, Nat.reduceSub, Nat.sub_self, Nat.add_zero, Nat.zero_add, Nat.reduceLT, Nat.reduceLeDiff, reduceCtorEq, List.nodup_nil, List.nodup_cons, List.not_mem_nil, not_false_eq_true, and_self, and_true, true_and, decide_true, decide_false, List.tail_cons, List.headD_cons, CE.isNoe, CL.len, Bool.true_eq_false, Int.reduceLT, Int.reduceLE, Int.reduceToNat, reduceIte, cm, lm, hr0', ix32, ix31, atTub0, atTub1, atTub2]
  · have hr0' : (0 < r) = False := eq_false hr0
    -- the cell
    have big : ∀ (x : Int), (∃ v d', exb (midB ab rs (scoopT M1 k3 k4 M2 c1 k5 k6 M3 q)) [.io (Tub c (t + 1) r), .sh (.int m), .sh (.int t), .sh (.int x), .no, .no] = .rt false (.int v) d' ∧ (∃ S d2, d' = .io d2 :: .sh (.int m) :: S ∧ TubOk (n + 1) d2) ∧ 0 ≤ v ∧ v < m) := fun x => by
      obtain ⟨v, S, he, v0, v1⟩ := tail_eq (M1 := M1) (k3 := k3) (k4 := k4) (M2 := M2) (c1 := c1) (k5 := k5) (k6 := k6) (M3 := M3) (q := q) (d := Tub c (t + 1) r) (m := m) (t := t) (x := x) (s5 := .no) rfl hM1 hM2 hM3 h3 hk4 hc1 h5 h6 hq ht (by omega) hm
      have tok : TubOk (n + 1) (Tub c (t + 1) r) := ⟨c, t + 1, r, rfl, by omega, by omega, hr⟩
      by_cases b1 : t < (c.map D.int).length
      · have b1' : (t < (c.map D.int).length) = True := eq_true b1
        by_cases b2 : (10 : Int) ^ (18 : Int).toNat ≤ (if x < 0 then -x else x)
        · have b2' : ((10 : Int) ^ (18 : Int).toNat ≤ (if x < 0 then -x else x)) = True := eq_true b2
          refine ⟨?v, ?d, ?h, ⟨?S, ?d2, ?e, ?k⟩, ?a, ?b⟩
          case h =>
            have hab1 := hab [.io (.lst [.lst (c.map D.int), .int (t + 1), .int r]), .sh (.int m), .sh (.int t), .sh (.int x), .no, .no] x rfl
            have hrs1 : ∀ y : Int, (evc rs).val [.io (.lst [.lst (c.map D.int), .int (t + 1), .int r]), .sh (.int m), .sh (.int t), .sh (.int x), .no, .sh (.int y)] = .ok (.sh (.int y)) [.io (.lst [.lst (c.map D.int), .int (t + 1), .int r]), .sh (.int m), .sh (.int t), .sh (.int x), .no, .sh (.int y)] := fun y => hrs _ y rfl
            unfold Tub midB
            simp only [Q.b_ok, Q.b_ex, Q.b_bd, Q.t_ok, Q.t_ex, Q.t_bd, Q.s_nx, Q.s_rt, Q.s_bk, Q.s_ct, Q.s_ex, Q.s_bd, Q.p_sm, Q.p_no, Q.r_sh, Q.r_l, Q.r_t, Q.r_d, Q.w_sh, Q.w_fr, Q.w_br, Q.d_sh, Q.d_fr, Q.d_br, Q.a_sh, Q.a_ow, Q.a_io, Q.a_lk, Q.m_ow, Q.m_io, Q.m_sh, Q.h_sh, Q.h_fr, Q.h_br, Q.c_sh, Q.c_fr, Q.c_br, Q.v_sh, Q.v_fr, Q.e_val, Q.e_tst, Q.e_io, Q.e_md, Q.kC', Q.kV', Q.kU', Q.kB', Q.kP0, Q.kP1, Q.kS', Q.kT', Q.kCh', Q.bl_s, Q.kVa, Q.kN', Q.kI', Q.kIT, Q.kAV, Q.kAT, Q.kSh, Q.kNl, Q.kCo, Q.kVw', Q.kSt, Q.kTu, Q.kLs, Q.kBi', Q.dr_n, Q.dr_c, Q.kMm', Q.kMt, Q.kMf, Q.kCa, Q.kCk, Q.cs, Q.av_n, Q.av_s, Q.av_i, Q.ai_n, Q.ai_s, Q.ai_i, Q.io_s, Q.io_i, Q.st_n, Q.st_c, Q.mu_l, Q.mu_d, Q.mu_o, Q.sa, Q.fa, Q.f_no, Q.f_sh, Q.f_ow, Q.bv, Q.ag_n, Q.ag_t, Q.an, Q.at_, Q.as_n, Q.as_c, Q.pv, Q.rt_s, Q.rt_f, Q.rt_b, Q.kIv, Q.kYs, Q.os_n, Q.os_t, Q.os_f, Q.is_t, Q.is_f, Q.is_n, Q.rs, Q.so, Q.l_int, Q.le_int, Q.g_int, Q.ge_int, Q.eq_d, Q.ne_d, Q.is_non, Q.bo', Q.tr_b, Q.tr_i, Q.tr_l, Q.ad_i, Q.sb_i, Q.ml_i, Q.fd_i, Q.md_i, Q.pw_i, Q.ad_l, Q.su_l, Q.su_t, Q.bi1', Q.i_i, Q.i_b, Q.ab_i, Q.le_l, Q.le_t, Q.li_l, Q.tu_l, Q.ng_i, Q.sx_l, Q.bm_s, exb, exs, evc, evl, evi, List.getElem?_cons_zero, List.getElem?_cons_succ, List.getElem?_nil, List.set_cons_zero, List.set_cons_succ, List.length_cons, List.length_nil, Option.bind_some, Option.bind_none, Option.map_some, Option.map_none, List.map_cons, List.map_nil, List.replicate_zero, List.replicate_succ, List.append_nil, List.cons_append, List.nil_append, Bool.not_true, Bool.not_false, Bool.false_eq_true, if_true, if_false, ite_true, ite_false, Option.isSome_some, Option.isSome_none, Bool.and_true, Bool.true_and, Bool.and_false, Bool.false_and, Bool.or_true, Bool.true_or, Bool.or_false, Bool.false_or, Nat.reduceAdd, Nat.reduceSub, Nat.sub_self, Nat.add_zero, Nat.zero_add, Nat.reduceLT, Nat.reduceLeDiff, reduceCtorEq, List.nodup_nil, List.nodup_cons, List.not_mem_nil, not_false_eq_true, and_self, and_true, true_and, decide_true, decide_false, List.tail_cons, List.headD_cons, CE.isNoe, CL.len, Bool.true_eq_false, Int.reduceLT, Int.reduceLE, Int.reduceToNat, reduceIte, hab1, hrs1, cm, lm, a4, b1', b2', p1, p2, p3, ix32, ix31, atTub0, atTub1, atTub2, -Int.reduceToNat, -Int.reducePow, -Int.reduceNeg]
            rfl
          case e => rfl
          case k =>
            refine ⟨c, t + 1, _, rfl, by omega, by omega, Int.ediv_nonneg ?_ (by omega)⟩
            split <;> omega
          case a => exact Int.emod_nonneg _ (by omega)
          case b => exact Int.emod_lt_of_pos _ hm
        · have b2' : ((10 : Int) ^ (18 : Int).toNat ≤ (if x < 0 then -x else x)) = False := eq_false b2
          refine ⟨v, _, ?_, ⟨S, _, rfl, tok⟩, v0, v1⟩
          rw [← he]
          unfold Tub midB
          simp only [Q.b_ok, Q.b_ex, Q.b_bd, Q.t_ok, Q.t_ex, Q.t_bd, Q.s_nx, Q.s_rt, Q.s_bk, Q.s_ct, Q.s_ex, Q.s_bd, Q.p_sm, Q.p_no, Q.r_sh, Q.r_l, Q.r_t, Q.r_d, Q.w_sh, Q.w_fr, Q.w_br, Q.d_sh, Q.d_fr, Q.d_br, Q.a_sh, Q.a_ow, Q.a_io, Q.a_lk, Q.m_ow, Q.m_io, Q.m_sh, Q.h_sh, Q.h_fr, Q.h_br, Q.c_sh, Q.c_fr, Q.c_br, Q.v_sh, Q.v_fr, Q.e_val, Q.e_tst, Q.e_io, Q.e_md, Q.kC', Q.kV', Q.kU', Q.kB', Q.kP0, Q.kP1, Q.kS', Q.kT', Q.kCh', Q.bl_s, Q.kVa, Q.kN', Q.kI', Q.kIT, Q.kAV, Q.kAT, Q.kSh, Q.kNl, Q.kCo, Q.kVw', Q.kSt, Q.kTu, Q.kLs, Q.kBi', Q.dr_n, Q.dr_c, Q.kMm', Q.kMt, Q.kMf, Q.kCa, Q.kCk, Q.cs, Q.av_n, Q.av_s, Q.av_i, Q.ai_n, Q.ai_s, Q.ai_i, Q.io_s, Q.io_i, Q.st_n, Q.st_c, Q.mu_l, Q.mu_d, Q.mu_o, Q.sa, Q.fa, Q.f_no, Q.f_sh, Q.f_ow, Q.bv, Q.ag_n, Q.ag_t, Q.an, Q.at_, Q.as_n, Q.as_c, Q.pv, Q.rt_s, Q.rt_f, Q.rt_b, Q.kIv, Q.kYs, Q.os_n, Q.os_t, Q.os_f, Q.is_t, Q.is_f, Q.is_n, Q.rs, Q.so, Q.l_int, Q.le_int, Q.g_int, Q.ge_int, Q.eq_d, Q.ne_d, Q.is_non, Q.bo', Q.tr_b, Q.tr_i, Q.tr_l, Q.ad_i, Q.sb_i, Q.ml_i, Q.fd_i, Q.md_i, Q.pw_i, Q.ad_l, Q.su_l, Q.su_t, Q.bi1', Q.i_i, Q.i_b, Q.ab_i, Q.le_l, Q.le_t, Q.li_l, Q.tu_l, Q.ng_i, Q.sx_l, Q.bm_s, exb, exs, evc, evl, evi, List.getElem?_cons_zero, List.getElem?_cons_succ, List.getElem?_nil, List.set_cons_zero, List.set_cons_succ, List.length_cons, List.length_nil, Option.bind_some, Option.bind_none, Option.map_some, Option.map_none, List.map_cons, List.map_nil, List.replicate_zero, List.replicate_succ, List.append_nil, List.cons_append, List.nil_append, Bool.not_true, Bool.not_false, Bool.false_eq_true, if_true, if_false, ite_true, ite_false, Option.isSome_some, Option.isSome_none, Bool.and_true, Bool.true_and, Bool.and_false, Bool.false_and, Bool.or_true, Bool.true_or, Bool.or_false, Bool.false_or, Nat.reduceAdd, Nat.reduceSub, Nat.sub_self, Nat.add_zero, Nat.zero_add, Nat.reduceLT, Nat.reduceLeDiff, reduceCtorEq, List.nodup_nil, List.nodup_cons, List.not_mem_nil, not_false_eq_true, and_self, and_true, true_and, decide_true, decide_false, List.tail_cons, List.headD_cons, CE.isNoe, CL.len, Bool.true_eq_false, Int.reduceLT, Int.reduceLE, Int.reduceToNat, reduceIte, cm, lm, a4, b1', b2', p1, p2, p3, ix32, ix31, atTub0, atTub1, atTub2, -Int.reduceToNat, -Int.reducePow, -Int.reduceNeg]
      · have b1' : (t < (c.map D.int).length) = False := eq_false b1
        refine ⟨v, _, ?_, ⟨S, _, rfl, tok⟩, v0, v1⟩
        rw [← he]
        unfold Tub midB
        simp only [Q.b_ok, Q.b_ex, Q.b_bd, Q.t_ok, Q.t_ex, Q.t_bd, Q.s_nx, Q.s_rt, Q.s_bk, Q.s_ct, Q.s_ex, Q.s_bd, Q.p_sm, Q.p_no, Q.r_sh, Q.r_l, Q.r_t, Q.r_d, Q.w_sh, Q.w_fr, Q.w_br, Q.d_sh, Q.d_fr, Q.d_br, Q.a_sh, Q.a_ow, Q.a_io, Q.a_lk, Q.m_ow, Q.m_io, Q.m_sh, Q.h_sh, Q.h_fr, Q.h_br, Q.c_sh, Q.c_fr, Q.c_br, Q.v_sh, Q.v_fr, Q.e_val, Q.e_tst, Q.e_io, Q.e_md, Q.kC', Q.kV', Q.kU', Q.kB', Q.kP0, Q.kP1, Q.kS', Q.kT', Q.kCh', Q.bl_s, Q.kVa, Q.kN', Q.kI', Q.kIT, Q.kAV, Q.kAT, Q.kSh, Q.kNl, Q.kCo, Q.kVw', Q.kSt, Q.kTu, Q.kLs, Q.kBi', Q.dr_n, Q.dr_c, Q.kMm', Q.kMt, Q.kMf, Q.kCa, Q.kCk, Q.cs, Q.av_n, Q.av_s, Q.av_i, Q.ai_n, Q.ai_s, Q.ai_i, Q.io_s, Q.io_i, Q.st_n, Q.st_c, Q.mu_l, Q.mu_d, Q.mu_o, Q.sa, Q.fa, Q.f_no, Q.f_sh, Q.f_ow, Q.bv, Q.ag_n, Q.ag_t, Q.an, Q.at_, Q.as_n, Q.as_c, Q.pv, Q.rt_s, Q.rt_f, Q.rt_b, Q.kIv, Q.kYs, Q.os_n, Q.os_t, Q.os_f, Q.is_t, Q.is_f, Q.is_n, Q.rs, Q.so, Q.l_int, Q.le_int, Q.g_int, Q.ge_int, Q.eq_d, Q.ne_d, Q.is_non, Q.bo', Q.tr_b, Q.tr_i, Q.tr_l, Q.ad_i, Q.sb_i, Q.ml_i, Q.fd_i, Q.md_i, Q.pw_i, Q.ad_l, Q.su_l, Q.su_t, Q.bi1', Q.i_i, Q.i_b, Q.ab_i, Q.le_l, Q.le_t, Q.li_l, Q.tu_l, Q.ng_i, Q.sx_l, Q.bm_s, exb, exs, evc, evl, evi, List.getElem?_cons_zero, List.getElem?_cons_succ, List.getElem?_nil, List.set_cons_zero, List.set_cons_succ, List.length_cons, List.length_nil, Option.bind_some, Option.bind_none, Option.map_some, Option.map_none, List.map_cons, List.map_nil, List.replicate_zero, List.replicate_succ, List.append_nil, List.cons_append, List.nil_append, Bool.not_true, Bool.not_false, Bool.false_eq_true, if_true, if_false, ite_true, ite_false, Option.isSome_some, Option.isSome_none, Bool.and_true, Bool.true_and, Bool.and_false, Bool.false_and, Bool.or_true, Bool.true_or, Bool.or_false, Bool.false_or, Nat.reduceAdd, Nat.reduceSub, Nat.sub_self, Nat.add_zero, Nat.zero_add, Nat.reduceLT, Nat.reduceLeDiff, reduceCtorEq, List.nodup_nil, List.nodup_cons, List.not_mem_nil, not_false_eq_true, and_self, and_true, true_and, decide_true, decide_false, List.tail_cons, List.headD_cons, CE.isNoe, CL.len, Bool.true_eq_false, Int.reduceLT, Int.reduceLE, Int.reduceToNat, reduceIte, cm, lm, a4, b1', p1, p2, p3, ix32, ix31, atTub0, atTub1, atTub2]
    have fin : ∀ x : Int, (exb (scoopB ab rs k1 k2 (scoopT M1 k3 k4 M2 c1 k5 k6 M3 q)) [.io (Tub c t r), .sh (.int m), .no, .no, .no, .no] = exb (midB ab rs (scoopT M1 k3 k4 M2 c1 k5 k6 M3 q)) [.io (Tub c (t + 1) r), .sh (.int m), .sh (.int t), .sh (.int x), .no, .no]) →
        ∃ v d', (runS 6 [true, false] (exb (scoopB ab rs k1 k2 (scoopT M1 k3 k4 M2 c1 k5 k6 M3 q)))) [Tub c t r, .int m] = .ok false (.int v) [d'] ∧ 0 ≤ v ∧ v < m ∧ TubOk (n + 1) d' := fun x e => by
      obtain ⟨v, d', h1, ⟨S, d2, rfl, tok⟩, v0, v1⟩ := big x
      refine ⟨v, d2, ?_, v0, v1, tok⟩
      have e2 : slotsOf 6 [true, false] [Tub c t r, .int m] = [.io (Tub c t r), .sh (.int m), .no, .no, .no, .no] := rfl
      rw [Q.rs, if_pos (show [true, false].length = [Tub c t r, D.int m].length from rfl), e2, e, h1]
      rfl
    cases c with
    | nil =>
      refine fin (k1 * t + k2) ?_
      unfold scoopB Tub
      have el : eqD (.lst []) (.lst []) = some true := rfl
      simp only [Q.b_ok, Q.b_ex, Q.b_bd, Q.t_ok, Q.t_ex, Q.t_bd, Q.s_nx, Q.s_rt, Q.s_bk, Q.s_ct, Q.s_ex, Q.s_bd, Q.p_sm, Q.p_no, Q.r_sh, Q.r_l, Q.r_t, Q.r_d, Q.w_sh, Q.w_fr, Q.w_br, Q.d_sh, Q.d_fr, Q.d_br, Q.a_sh, Q.a_ow, Q.a_io, Q.a_lk, Q.m_ow, Q.m_io, Q.m_sh, Q.h_sh, Q.h_fr, Q.h_br, Q.c_sh, Q.c_fr, Q.c_br, Q.v_sh, Q.v_fr, Q.e_val, Q.e_tst, Q.e_io, Q.e_md, Q.kC', Q.kV', Q.kU', Q.kB', Q.kP0, Q.kP1, Q.kS', Q.kT', Q.kCh', Q.bl_s, Q.kVa, Q.kN', Q.kI', Q.kIT, Q.kAV, Q.kAT, Q.kSh, Q.kNl, Q.kCo, Q.kVw', Q.kSt, Q.kTu, Q.kLs, Q.kBi', Q.dr_n, Q.dr_c, Q.kMm', Q.kMt, Q.kMf, Q.kCa, Q.kCk, Q.cs, Q.av_n, Q.av_s, Q.av_i, Q.ai_n, Q.ai_s, Q.ai_i, Q.io_s, Q.io_i, Q.st_n, Q.st_c, Q.mu_l, Q.mu_d, Q.mu_o, Q.sa, Q.fa, Q.f_no, Q.f_sh, Q.f_ow, Q.bv, Q.ag_n, Q.ag_t, Q.an, Q.at_, Q.as_n, Q.as_c, Q.pv, Q.rt_s, Q.rt_f, Q.rt_b, Q.kIv, Q.kYs, Q.os_n, Q.os_t, Q.os_f, Q.is_t, Q.is_f, Q.is_n, Q.rs, Q.so, Q.l_int, Q.le_int, Q.g_int, Q.ge_int, Q.eq_d, Q.ne_d, Q.is_non, Q.bo', Q.tr_b, Q.tr_i, Q.tr_l, Q.ad_i, Q.sb_i, Q.ml_i, Q.fd_i, Q.md_i, Q.pw_i, Q.ad_l, Q.su_l, Q.su_t, Q.bi1', Q.i_i, Q.i_b, Q.ab_i, Q.le_l, Q.le_t, Q.li_l, Q.tu_l, Q.ng_i, Q.sx_l, Q.bm_s, exb, exs, evc, evl, evi, List.getElem?_cons_zero, List.getElem?_cons_succ, List.getElem?_nil, List.set_cons_zero, List.set_cons_succ, List.length_cons, List.length_nil, Option.bind_some, Option.bind_none, Option.map_some, Option.map_none, List.map_cons, List.map_nil, List.replicate_zero, List.replicate_succ, List.append_nil, List.cons_append, List.nil_append, Bool.not_true, Bool.not_false, Bool.false_eq_true, if_true, if_false, ite_true, ite_false, Option.isSome_some, Option.isSome_none, Bool.and_true, Bool.true_and, Bool.and_false, Bool.false_and, Bool.or_true, Bool.true_or, Bool.or_false, Bool.false_or, Nat.reduceAdd, Nat.reduceSub, Nat.sub_self, Nat.add_zero, Nat.zero_add, Nat.reduceLT, Nat.reduceLeDiff, reduceCtorEq, List.nodup_nil, List.nodup_cons, List.not_mem_nil, not_false_eq_true, and_self, and_true, true_and, decide_true, decide_false, List.tail_cons, List.headD_cons, CE.isNoe, CL.len, Bool.true_eq_false, Int.reduceLT, Int.reduceLE, Int.reduceToNat, reduceIte, cm, lm, hr0', a1, el, ix32, ix31, atTub0, atTub1, atTub2, sizeLine_pos]
    | cons x0 cs =>
      obtain ⟨x, hx⟩ : ∃ x, L2.atI ((x0 :: cs).map D.int) (t % (((x0 :: cs).map D.int).length : Nat)) = some (.int x) := by
        have hl : (0 : Int) < (((x0 :: cs).map D.int).length : Nat) := by simp <;> omega
        have h0 := Int.emod_nonneg t (show ((((x0 :: cs).map D.int).length : Nat) : Int) ≠ 0 by omega)
        have h1 := Int.emod_lt_of_pos t hl
        rw [List.length_map] at h0 h1
        have h2 : (t % (((x0 :: cs).length : Nat) : Int)).toNat < (x0 :: cs).length := by omega
        refine ⟨(x0 :: cs)[(t % (((x0 :: cs).length : Nat) : Int)).toNat], atI_nat (by rw [List.length_map]; exact h0) ?_⟩
        rw [List.length_map, List.getElem?_map, List.getElem?_eq_getElem h2]; rfl
      have hn0 : (0 < (((x0 :: cs).map D.int).length : Int)) = True := eq_true (by simp <;> omega)
      refine fin x ?_
      unfold scoopB Tub
      generalize hC : (x0 :: cs).map D.int = C at *
      have el' : eqD (.lst C) (.lst []) = some false := by rw [el, ← hC]; rfl
      simp only [Q.b_ok, Q.b_ex, Q.b_bd, Q.t_ok, Q.t_ex, Q.t_bd, Q.s_nx, Q.s_rt, Q.s_bk, Q.s_ct, Q.s_ex, Q.s_bd, Q.p_sm, Q.p_no, Q.r_sh, Q.r_l, Q.r_t, Q.r_d, Q.w_sh, Q.w_fr, Q.w_br, Q.d_sh, Q.d_fr, Q.d_br, Q.a_sh, Q.a_ow, Q.a_io, Q.a_lk, Q.m_ow, Q.m_io, Q.m_sh, Q.h_sh, Q.h_fr, Q.h_br, Q.c_sh, Q.c_fr, Q.c_br, Q.v_sh, Q.v_fr, Q.e_val, Q.e_tst, Q.e_io, Q.e_md, Q.kC', Q.kV', Q.kU', Q.kB', Q.kP0, Q.kP1, Q.kS', Q.kT', Q.kCh', Q.bl_s, Q.kVa, Q.kN', Q.kI', Q.kIT, Q.kAV, Q.kAT, Q.kSh, Q.kNl, Q.kCo, Q.kVw', Q.kSt, Q.kTu, Q.kLs, Q.kBi', Q.dr_n, Q.dr_c, Q.kMm', Q.kMt, Q.kMf, Q.kCa, Q.kCk, Q.cs, Q.av_n, Q.av_s, Q.av_i, Q.ai_n, Q.ai_s, Q.ai_i, Q.io_s, Q.io_i, Q.st_n, Q.st_c, Q.mu_l, Q.mu_d, Q.mu_o, Q.sa, Q.fa, Q.f_no, Q.f_sh, Q.f_ow, Q.bv, Q.ag_n, Q.ag_t, Q.an, Q.at_, Q.as_n, Q.as_c, Q.pv, Q.rt_s, Q.rt_f, Q.rt_b, Q.kIv, Q.kYs, Q.os_n, Q.os_t, Q.os_f, Q.is_t, Q.is_f, Q.is_n, Q.rs, Q.so, Q.l_int, Q.le_int, Q.g_int, Q.ge_int, Q.eq_d, Q.ne_d, Q.is_non, Q.bo', Q.tr_b, Q.tr_i, Q.tr_l, Q.ad_i, Q.sb_i, Q.ml_i, Q.fd_i, Q.md_i, Q.pw_i, Q.ad_l, Q.su_l, Q.su_t, Q.bi1', Q.i_i, Q.i_b, Q.ab_i, Q.le_l, Q.le_t, Q.li_l, Q.tu_l, Q.ng_i, Q.sx_l, Q.bm_s, exb, exs, evc, evl, evi, List.getElem?_cons_zero, List.getElem?_cons_succ, List.getElem?_nil, List.set_cons_zero, List.set_cons_succ, List.length_cons, List.length_nil, Option.bind_some, Option.bind_none, Option.map_some, Option.map_none, List.map_cons, List.map_nil, List.replicate_zero, List.replicate_succ, List.append_nil, List.cons_append, List.nil_append, Bool.not_true, Bool.not_false, Bool.false_eq_true, if_true, if_false, ite_true, ite_false, Option.isSome_some, Option.isSome_none, Bool.and_true, Bool.true_and, Bool.and_false, Bool.false_and, Bool.or_true, Bool.true_or, Bool.or_false, Bool.false_or, Nat.reduceAdd, Nat.reduceSub, Nat.sub_self, Nat.add_zero, Nat.zero_add, Nat.reduceLT, Nat.reduceLeDiff, reduceCtorEq, List.nodup_nil, List.nodup_cons, List.not_mem_nil, not_false_eq_true, and_self, and_true, true_and, decide_true, decide_false, List.tail_cons, List.headD_cons, CE.isNoe, CL.len, Bool.true_eq_false, Int.reduceLT, Int.reduceLE, Int.reduceToNat, reduceIte, cm, lm, hr0', a1, el', hx, hn0, ix32, ix31, atTub0, atTub1, atTub2, sizeLine_pos]
/-- a draw that is 0 where there is no cell -/
def scoopB2 (ab rs : CE) (tl : CB) : CB :=
  (.cons (.ifs (.cmp .Gt (.sub (.var 0) (.int 2)) (.int 0)) (.cons (.asg (.nm 5) (.bi .int (.cons (.sub (.var 0) (.int 2)) .nil)))
  (.cons (.setix 0 (.int 2) (.bin .FloorDiv (.var 5) (.var 1)))
  (.cons (.ret (.bin .Mod (.bi .int (.cons (.var 5) .nil)) (.var 1)))
  .nil))) .nil)
  (.cons (.asg (.nm 2) (.sub (.var 0) (.int 1)))
  (.cons (.setix 0 (.int 1) (.bin .Add (.var 2) (.int 1)))
  (.cons (.ifs (.cmp .Eq (.sub (.var 0) (.int 0)) (.lst .nil)) (.cons (.ret (.int 0))
  .nil) .nil)
  (.cons (.asg (.nm 3) (.sub (.sub (.var 0) (.int 0)) (.bin .Mod (.bi .int (.cons (.var 2) .nil)) (.bi .len (.cons (.sub (.var 0) (.int 0)) .nil)))))
  (midB ab rs tl))))))
theorem scoop_draws2 {ab rs : CE} {M1 k3 k4 M2 c1 k5 k6 M3 q : Int} (hM1 : ok32 M1) (hM2 : ok32 M2) (hM3 : ok32 M3) (h3 : ok20 k3) (hk4 : ok20 k4) (hc1 : ok20 c1) (h5 : ok20 k5) (h6 : ok20 k6) (hq : ok20 q) (hab : absOf ab) (hrs : restOf rs) :
    Draws ⟨[true, false], runS 6 [true, false] (exb (scoopB2 ab rs (scoopT M1 k3 k4 M2 c1 k5 k6 M3 q)))⟩ := by
  refine ⟨rfl, ?_⟩
  rintro n d m ⟨c, t, r, rfl, ht, ht2, hr⟩ hn hm hm2
  have cm : (0 < m) = True := eq_true hm
  have lm : (m.natAbs.log2 < 9000) = True := eq_true (log_small hm hm2)
  have a3 : smallB t = true := small_of (by omega) (by omega)
  have a4 : smallB 2 = true := by decide
  have rc : (0 < r) = (0 < r) := rfl
  have el := eqD_nil (ints_PD c)
  have p1 : (0 ≤ (18 : Int)) = True := by simp
  have p2 : ((18 : Int) ≤ 1000000) = True := by simp
  have p3 : ((10 : Int).natAbs < 2 ^ 64) = True := by simp
  by_cases hr0 : 0 < r
  · refine ⟨r % m, Tub c t (r / m), ?_, Int.emod_nonneg _ (by omega), Int.emod_lt_of_pos _ hm, c, t, r / m, rfl, ht, by omega, Int.ediv_nonneg hr (by omega)⟩
    unfold Tub scoopB2
    have hr0' : (0 < r) = True := eq_true hr0
    simp only [Q.b_ok, Q.b_ex, Q.b_bd, Q.t_ok, Q.t_ex, Q.t_bd, Q.s_nx, Q.s_rt, Q.s_bk, Q.s_ct, Q.s_ex, Q.s_bd, Q.p_sm, Q.p_no, Q.r_sh, Q.r_l, Q.r_t, Q.r_d, Q.w_sh, Q.w_fr, Q.w_br, Q.d_sh, Q.d_fr, Q.d_br, Q.a_sh, Q.a_ow, Q.a_io, Q.a_lk, Q.m_ow, Q.m_io, Q.m_sh, Q.h_sh, Q.h_fr, Q.h_br, Q.c_sh, Q.c_fr, Q.c_br, Q.v_sh, Q.v_fr, Q.e_val, Q.e_tst, Q.e_io, Q.e_md, Q.kC', Q.kV', Q.kU', Q.kB', Q.kP0, Q.kP1, Q.kS', Q.kT', Q.kCh', Q.bl_s, Q.kVa, Q.kN', Q.kI', Q.kIT, Q.kAV, Q.kAT, Q.kSh, Q.kNl, Q.kCo, Q.kVw', Q.kSt, Q.kTu, Q.kLs, Q.kBi', Q.dr_n, Q.dr_c, Q.kMm', Q.kMt, Q.kMf, Q.kCa, Q.kCk, Q.cs, Q.av_n, Q.av_s, Q.av_i, Q.ai_n, Q.ai_s, Q.ai_i, Q.io_s, Q.io_i, Q.st_n, Q.st_c, Q.mu_l, Q.mu_d, Q.mu_o, Q.sa, Q.fa, Q.f_no, Q.f_sh, Q.f_ow, Q.bv, Q.ag_n, Q.ag_t, Q.an, Q.at_, Q.as_n, Q.as_c, Q.pv, Q.rt_s, Q.rt_f, Q.rt_b, Q.kIv, Q.kYs, Q.os_n, Q.os_t, Q.os_f, Q.is_t, Q.is_f, Q.is_n, Q.rs, Q.so, Q.l_int, Q.le_int, Q.g_int, Q.ge_int, Q.eq_d, Q.ne_d, Q.is_non, Q.bo', Q.tr_b, Q.tr_i, Q.tr_l, Q.ad_i, Q.sb_i, Q.ml_i, Q.fd_i, Q.md_i, Q.pw_i, Q.ad_l, Q.su_l, Q.su_t, Q.bi1', Q.i_i, Q.i_b, Q.ab_i, Q.le_l, Q.le_t, Q.li_l, Q.tu_l, Q.ng_i, Q.sx_l, Q.bm_s, exb, exs, evc, evl, evi, List.getElem?_cons_zero, List.getElem?_cons_succ, List.getElem?_nil, List.set_cons_zero, List.set_cons_succ, List.length_cons, List.length_nil, Option.bind_some, Option.bind_none, Option.map_some, Option.map_none, List.map_cons, List.map_nil, List.replicate_zero, List.replicate_succ, List.append_nil, List.cons_append, List.nil_append, Bool.not_true, Bool.not_false, Bool.false_eq_true, if_true, if_false, ite_true, ite_false, Option.isSome_some, Option.isSome_none, Bool.and_true, Bool.true_and, Bool.and_false, Bool.false_and, Bool.or_true, Bool.true_or, Bool.or_false, Bool.false_or, Nat.reduceAdd, Nat.reduceSub, Nat.sub_self, Nat.add_zero, Nat.zero_add, Nat.reduceLT, Nat.reduceLeDiff, reduceCtorEq, List.nodup_nil, List.nodup_cons, List.not_mem_nil, not_false_eq_true, and_self, and_true, true_and, decide_true, decide_false, List.tail_cons, List.headD_cons, CE.isNoe, CL.len, Bool.true_eq_false, Int.reduceLT, Int.reduceLE, Int.reduceToNat, reduceIte, cm, lm, hr0', ix32, ix31, atTub0, atTub1, atTub2]
  · have hr0' : (0 < r) = False := eq_false hr0
    -- the cell
    have big : ∀ (x : Int), (∃ v d', exb (midB ab rs (scoopT M1 k3 k4 M2 c1 k5 k6 M3 q)) [.io (Tub c (t + 1) r), .sh (.int m), .sh (.int t), .sh (.int x), .no, .no] = .rt false (.int v) d' ∧ (∃ S d2, d' = .io d2 :: .sh (.int m) :: S ∧ TubOk (n + 1) d2) ∧ 0 ≤ v ∧ v < m) := fun x => by
      obtain ⟨v, S, he, v0, v1⟩ := tail_eq (M1 := M1) (k3 := k3) (k4 := k4) (M2 := M2) (c1 := c1) (k5 := k5) (k6 := k6) (M3 := M3) (q := q) (d := Tub c (t + 1) r) (m := m) (t := t) (x := x) (s5 := .no) rfl hM1 hM2 hM3 h3 hk4 hc1 h5 h6 hq ht (by omega) hm
      have tok : TubOk (n + 1) (Tub c (t + 1) r) := ⟨c, t + 1, r, rfl, by omega, by omega, hr⟩
      by_cases b1 : t < (c.map D.int).length
      · have b1' : (t < (c.map D.int).length) = True := eq_true b1
        by_cases b2 : (10 : Int) ^ (18 : Int).toNat ≤ (if x < 0 then -x else x)
        · have b2' : ((10 : Int) ^ (18 : Int).toNat ≤ (if x < 0 then -x else x)) = True := eq_true b2
          refine ⟨?v, ?d, ?h, ⟨?S, ?d2, ?e, ?k⟩, ?a, ?b⟩
          case h =>
            have hab1 := hab [.io (.lst [.lst (c.map D.int), .int (t + 1), .int r]), .sh (.int m), .sh (.int t), .sh (.int x), .no, .no] x rfl
            have hrs1 : ∀ y : Int, (evc rs).val [.io (.lst [.lst (c.map D.int), .int (t + 1), .int r]), .sh (.int m), .sh (.int t), .sh (.int x), .no, .sh (.int y)] = .ok (.sh (.int y)) [.io (.lst [.lst (c.map D.int), .int (t + 1), .int r]), .sh (.int m), .sh (.int t), .sh (.int x), .no, .sh (.int y)] := fun y => hrs _ y rfl
            unfold Tub midB
            simp only [Q.b_ok, Q.b_ex, Q.b_bd, Q.t_ok, Q.t_ex, Q.t_bd, Q.s_nx, Q.s_rt, Q.s_bk, Q.s_ct, Q.s_ex, Q.s_bd, Q.p_sm, Q.p_no, Q.r_sh, Q.r_l, Q.r_t, Q.r_d, Q.w_sh, Q.w_fr, Q.w_br, Q.d_sh, Q.d_fr, Q.d_br, Q.a_sh, Q.a_ow, Q.a_io, Q.a_lk, Q.m_ow, Q.m_io, Q.m_sh, Q.h_sh, Q.h_fr, Q.h_br, Q.c_sh, Q.c_fr, Q.c_br, Q.v_sh, Q.v_fr, Q.e_val, Q.e_tst, Q.e_io, Q.e_md, Q.kC', Q.kV', Q.kU', Q.kB', Q.kP0, Q.kP1, Q.kS', Q.kT', Q.kCh', Q.bl_s, Q.kVa, Q.kN', Q.kI', Q.kIT, Q.kAV, Q.kAT, Q.kSh, Q.kNl, Q.kCo, Q.kVw', Q.kSt, Q.kTu, Q.kLs, Q.kBi', Q.dr_n, Q.dr_c, Q.kMm', Q.kMt, Q.kMf, Q.kCa, Q.kCk, Q.cs, Q.av_n, Q.av_s, Q.av_i, Q.ai_n, Q.ai_s, Q.ai_i, Q.io_s, Q.io_i, Q.st_n, Q.st_c, Q.mu_l, Q.mu_d, Q.mu_o, Q.sa, Q.fa, Q.f_no, Q.f_sh, Q.f_ow, Q.bv, Q.ag_n, Q.ag_t, Q.an, Q.at_, Q.as_n, Q.as_c, Q.pv, Q.rt_s, Q.rt_f, Q.rt_b, Q.kIv, Q.kYs, Q.os_n, Q.os_t, Q.os_f, Q.is_t, Q.is_f, Q.is_n, Q.rs, Q.so, Q.l_int, Q.le_int, Q.g_int, Q.ge_int, Q.eq_d, Q.ne_d, Q.is_non, Q.bo', Q.tr_b, Q.tr_i, Q.tr_l, Q.ad_i, Q.sb_i, Q.ml_i, Q.fd_i, Q.md_i, Q.pw_i, Q.ad_l, Q.su_l, Q.su_t, Q.bi1', Q.i_i, Q.i_b, Q.ab_i, Q.le_l, Q.le_t, Q.li_l, Q.tu_l, Q.ng_i, Q.sx_l, Q.bm_s, exb, exs, evc, evl, evi, List.getElem?_cons_zero, List.getElem?_cons_succ, List.getElem?_nil, List.set_cons_zero, List.set_cons_succ, List.length_cons, List.length_nil, Option.bind_some, Option.bind_none, Option.map_some, Option.map_none, List.map_cons, List.map_nil, List.replicate_zero, List.replicate_succ, List.append_nil, List.cons_append, List.nil_append, Bool.not_true, Bool.not_false, Bool.false_eq_true, if_true, if_false, ite_true, ite_false, Option.isSome_some, Option.isSome_none, Bool.and_true, Bool.true_and, Bool.and_false, Bool.false_and, Bool.or_true, Bool.true_or, Bool.or_false, Bool.false_or, Nat.reduceAdd, Nat.reduceSub, Nat.sub_self, Nat.add_zero, Nat.zero_add, Nat.reduceLT, Nat.reduceLeDiff, reduceCtorEq, List.nodup_nil, List.nodup_cons, List.not_mem_nil, not_false_eq_true, and_self, and_true, true_and, decide_true, decide_false, List.tail_cons, List.headD_cons, CE.isNoe, CL.len, Bool.true_eq_false, Int.reduceLT, Int.reduceLE, Int.reduceToNat, reduceIte, hab1, hrs1, cm, lm, a4, b1', b2', p1, p2, p3, ix32, ix31, atTub0, atTub1, atTub2, -Int.reduceToNat, -Int.reducePow, -Int.reduceNeg]
            rfl
          case e => rfl
          case k =>
            refine ⟨c, t + 1, _, rfl, by omega, by omega, Int.ediv_nonneg ?_ (by omega)⟩
            split <;> omega
          case a => exact Int.emod_nonneg _ (by omega)
          case b => exact Int.emod_lt_of_pos _ hm
        · have b2' : ((10 : Int) ^ (18 : Int).toNat ≤ (if x < 0 then -x else x)) = False := eq_false b2
          refine ⟨v, _, ?_, ⟨S, _, rfl, tok⟩, v0, v1⟩
          rw [← he]
          unfold Tub midB
          simp only [Q.b_ok, Q.b_ex, Q.b_bd, Q.t_ok, Q.t_ex, Q.t_bd, Q.s_nx, Q.s_rt, Q.s_bk, Q.s_ct, Q.s_ex, Q.s_bd, Q.p_sm, Q.p_no, Q.r_sh, Q.r_l, Q.r_t, Q.r_d, Q.w_sh, Q.w_fr, Q.w_br, Q.d_sh, Q.d_fr, Q.d_br, Q.a_sh, Q.a_ow, Q.a_io, Q.a_lk, Q.m_ow, Q.m_io, Q.m_sh, Q.h_sh, Q.h_fr, Q.h_br, Q.c_sh, Q.c_fr, Q.c_br, Q.v_sh, Q.v_fr, Q.e_val, Q.e_tst, Q.e_io, Q.e_md, Q.kC', Q.kV', Q.kU', Q.kB', Q.kP0, Q.kP1, Q.kS', Q.kT', Q.kCh', Q.bl_s, Q.kVa, Q.kN', Q.kI', Q.kIT, Q.kAV, Q.kAT, Q.kSh, Q.kNl, Q.kCo, Q.kVw', Q.kSt, Q.kTu, Q.kLs, Q.kBi', Q.dr_n, Q.dr_c, Q.kMm', Q.kMt, Q.kMf, Q.kCa, Q.kCk, Q.cs, Q.av_n, Q.av_s, Q.av_i, Q.ai_n, Q.ai_s, Q.ai_i, Q.io_s, Q.io_i, Q.st_n, Q.st_c, Q.mu_l, Q.mu_d, Q.mu_o, Q.sa, Q.fa, Q.f_no, Q.f_sh, Q.f_ow, Q.bv, Q.ag_n, Q.ag_t, Q.an, Q.at_, Q.as_n, Q.as_c, Q.pv, Q.rt_s, Q.rt_f, Q.rt_b, Q.kIv, Q.kYs, Q.os_n, Q.os_t, Q.os_f, Q.is_t, Q.is_f, Q.is_n, Q.rs, Q.so, Q.l_int, Q.le_int, Q.g_int, Q.ge_int, Q.eq_d, Q.ne_d, Q.is_non, Q.bo', Q.tr_b, Q.tr_i, Q.tr_l, Q.ad_i, Q.sb_i, Q.ml_i, Q.fd_i, Q.md_i, Q.pw_i, Q.ad_l, Q.su_l, Q.su_t, Q.bi1', Q.i_i, Q.i_b, Q.ab_i, Q.le_l, Q.le_t, Q.li_l, Q.tu_l, Q.ng_i, Q.sx_l, Q.bm_s, exb, exs, evc, evl, evi, List.getElem?_cons_zero, List.getElem?_cons_succ, List.getElem?_nil, List.set_cons_zero, List.set_cons_succ, List.length_cons, List.length_nil, Option.bind_some, Option.bind_none, Option.map_some, Option.map_none, List.map_cons, List.map_nil, List.replicate_zero, List.replicate_succ, List.append_nil, List.cons_append, List.nil_append, Bool.not_true, Bool.not_false, Bool.false_eq_true, if_true, if_false, ite_true, ite_false, Option.isSome_some, Option.isSome_none, Bool.and_true, Bool.true_and, Bool.and_false, Bool.false_and, Bool.or_true, Bool.true_or, Bool.or_false, Bool.false_or, Nat.reduceAdd, Nat.reduceSub, Nat.sub_self, Nat.add_zero, Nat.zero_add, Nat.reduceLT, Nat.reduceLeDiff, reduceCtorEq, List.nodup_nil, List.nodup_cons, List.not_mem_nil, not_false_eq_true, and_self, and_true, true_and, decide_true, decide_false, List.tail_cons, List.headD_cons, CE.isNoe, CL.len, Bool.true_eq_false, Int.reduceLT, Int.reduceLE, Int.reduceToNat, reduceIte, cm, lm, a4, b1', b2', p1, p2, p3, ix32, ix31, atTub0, atTub1, atTub2, -Int.reduceToNat, -Int.reducePow, -Int.reduceNeg]
      · have b1' : (t < (c.map D.int).length) = False := eq_false b1
        refine ⟨v, _, ?_, ⟨S, _, rfl, tok⟩, v0, v1⟩
        rw [← he]
        unfold Tub midB
        simp only [Q.b_ok, Q.b_ex, Q.b_bd, Q.t_ok, Q.t_ex, Q.t_bd, Q.s_nx, Q.s_rt, Q.s_bk, Q.s_ct, Q.s_ex, Q.s_bd, Q.p_sm, Q.p_no, Q.r_sh, Q.r_l, Q.r_t, Q.r_d, Q.w_sh, Q.w_fr, Q.w_br, Q.d_sh, Q.d_fr, Q.d_br, Q.a_sh, Q.a_ow, Q.a_io, Q.a_lk, Q.m_ow, Q.m_io, Q.m_sh, Q.h_sh, Q.h_fr, Q.h_br, Q.c_sh, Q.c_fr, Q.c_br, Q.v_sh, Q.v_fr, Q.e_val, Q.e_tst, Q.e_io, Q.e_md, Q.kC', Q.kV', Q.kU', Q.kB', Q.kP0, Q.kP1, Q.kS', Q.kT', Q.kCh', Q.bl_s, Q.kVa, Q.kN', Q.kI', Q.kIT, Q.kAV, Q.kAT, Q.kSh, Q.kNl, Q.kCo, Q.kVw', Q.kSt, Q.kTu, Q.kLs, Q.kBi', Q.dr_n, Q.dr_c, Q.kMm', Q.kMt, Q.kMf, Q.kCa, Q.kCk, Q.cs, Q.av_n, Q.av_s, Q.av_i, Q.ai_n, Q.ai_s, Q.ai_i, Q.io_s, Q.io_i, Q.st_n, Q.st_c, Q.mu_l, Q.mu_d, Q.mu_o, Q.sa, Q.fa, Q.f_no, Q.f_sh, Q.f_ow, Q.bv, Q.ag_n, Q.ag_t, Q.an, Q.at_, Q.as_n, Q.as_c, Q.pv, Q.rt_s, Q.rt_f, Q.rt_b, Q.kIv, Q.kYs, Q.os_n, Q.os_t, Q.os_f, Q.is_t, Q.is_f, Q.is_n, Q.rs, Q.so, Q.l_int, Q.le_int, Q.g_int, Q.ge_int, Q.eq_d, Q.ne_d, Q.is_non, Q.bo', Q.tr_b, Q.tr_i, Q.tr_l, Q.ad_i, Q.sb_i, Q.ml_i, Q.fd_i, Q.md_i, Q.pw_i, Q.ad_l, Q.su_l, Q.su_t, Q.bi1', Q.i_i, Q.i_b, Q.ab_i, Q.le_l, Q.le_t, Q.li_l, Q.tu_l, Q.ng_i, Q.sx_l, Q.bm_s, exb, exs, evc, evl, evi, List.getElem?_cons_zero, List.getElem?_cons_succ, List.getElem?_nil, List.set_cons_zero, List.set_cons_succ, List.length_cons, List.length_nil, Option.bind_some, Option.bind_none, Option.map_some, Option.map_none, List.map_cons, List.map_nil, List.replicate_zero, List.replicate_succ, List.append_nil, List.cons_append, List.nil_append, Bool.not_true, Bool.not_false, Bool.false_eq_true, if_true, if_false, ite_true, ite_false, Option.isSome_some, Option.isSome_none, Bool.and_true, Bool.true_and, Bool.and_false, Bool.false_and, Bool.or_true, Bool.true_or, Bool.or_false, Bool.false_or, Nat.reduceAdd, Nat.reduceSub, Nat.sub_self, Nat.add_zero, Nat.zero_add, Nat.reduceLT, Nat.reduceLeDiff, reduceCtorEq, List.nodup_nil, List.nodup_cons, List.not_mem_nil, not_false_eq_true, and_self, and_true, true_and, decide_true, decide_false, List.tail_cons, List.headD_cons, CE.isNoe, CL.len, Bool.true_eq_false, Int.reduceLT, Int.reduceLE, Int.reduceToNat, reduceIte, cm, lm, a4, b1', p1, p2, p3, ix32, ix31, atTub0, atTub1, atTub2]
    have fin : ∀ x : Int, (exb (scoopB2 ab rs (scoopT M1 k3 k4 M2 c1 k5 k6 M3 q)) [.io (Tub c t r), .sh (.int m), .no, .no, .no, .no] = exb (midB ab rs (scoopT M1 k3 k4 M2 c1 k5 k6 M3 q)) [.io (Tub c (t + 1) r), .sh (.int m), .sh (.int t), .sh (.int x), .no, .no]) →
        ∃ v d', (runS 6 [true, false] (exb (scoopB2 ab rs (scoopT M1 k3 k4 M2 c1 k5 k6 M3 q)))) [Tub c t r, .int m] = .ok false (.int v) [d'] ∧ 0 ≤ v ∧ v < m ∧ TubOk (n + 1) d' := fun x e => by
      obtain ⟨v, d', h1, ⟨S, d2, rfl, tok⟩, v0, v1⟩ := big x
      refine ⟨v, d2, ?_, v0, v1, tok⟩
      have e2 : slotsOf 6 [true, false] [Tub c t r, .int m] = [.io (Tub c t r), .sh (.int m), .no, .no, .no, .no] := rfl
      rw [Q.rs, if_pos (show [true, false].length = [Tub c t r, D.int m].length from rfl), e2, e, h1]
      rfl
    cases c with
    | nil =>
      refine ⟨0, Tub [] (t + 1) r, ?_, Int.le_refl 0, hm, [], t + 1, r, rfl, by omega, by omega, hr⟩
      unfold scoopB2 Tub
      have el : eqD (.lst []) (.lst []) = some true := rfl
      simp only [Q.b_ok, Q.b_ex, Q.b_bd, Q.t_ok, Q.t_ex, Q.t_bd, Q.s_nx, Q.s_rt, Q.s_bk, Q.s_ct, Q.s_ex, Q.s_bd, Q.p_sm, Q.p_no, Q.r_sh, Q.r_l, Q.r_t, Q.r_d, Q.w_sh, Q.w_fr, Q.w_br, Q.d_sh, Q.d_fr, Q.d_br, Q.a_sh, Q.a_ow, Q.a_io, Q.a_lk, Q.m_ow, Q.m_io, Q.m_sh, Q.h_sh, Q.h_fr, Q.h_br, Q.c_sh, Q.c_fr, Q.c_br, Q.v_sh, Q.v_fr, Q.e_val, Q.e_tst, Q.e_io, Q.e_md, Q.kC', Q.kV', Q.kU', Q.kB', Q.kP0, Q.kP1, Q.kS', Q.kT', Q.kCh', Q.bl_s, Q.kVa, Q.kN', Q.kI', Q.kIT, Q.kAV, Q.kAT, Q.kSh, Q.kNl, Q.kCo, Q.kVw', Q.kSt, Q.kTu, Q.kLs, Q.kBi', Q.dr_n, Q.dr_c, Q.kMm', Q.kMt, Q.kMf, Q.kCa, Q.kCk, Q.cs, Q.av_n, Q.av_s, Q.av_i, Q.ai_n, Q.ai_s, Q.ai_i, Q.io_s, Q.io_i, Q.st_n, Q.st_c, Q.mu_l, Q.mu_d, Q.mu_o, Q.sa, Q.fa, Q.f_no, Q.f_sh, Q.f_ow, Q.bv, Q.ag_n, Q.ag_t, Q.an, Q.at_, Q.as_n, Q.as_c, Q.pv, Q.rt_s, Q.rt_f, Q.rt_b, Q.kIv, Q.kYs, Q.os_n, Q.os_t, Q.os_f, Q.is_t, Q.is_f, Q.is_n, Q.rs, Q.so, Q.l_int, Q.le_int, Q.g_int, Q.ge_int, Q.eq_d, Q.ne_d, Q.is_non, Q.bo', Q.tr_b, Q.tr_i, Q.tr_l, Q.ad_i, Q.sb_i, Q.ml_i, Q.fd_i, Q.md_i, Q.pw_i, Q.ad_l, Q.su_l, Q.su_t, Q.bi1', Q.i_i, Q.i_b, Q.ab_i, Q.le_l, Q.le_t, Q.li_l, Q.tu_l, Q.ng_i, Q.sx_l, Q.bm_s, exb, exs, evc, evl, evi, List.getElem?_cons_zero, List.getElem?_cons_succ, List.getElem?_nil, List.set_cons_zero, List.set_cons_succ, List.length_cons, List.length_nil, Option.bind_some, Option.bind_none, Option.map_some, Option.map_none, List.map_cons, List.map_nil, List.replicate_zero, List.replicate_succ, List.append_nil, List.cons_append, List.nil_append, Bool.not_true, Bool.not_false, Bool.false_eq_true, if_true, if_false, ite_true, ite_false, Option.isSome_some, Option.isSome_none, Bool.and_true, Bool.true_and, Bool.and_false, Bool.false_and, Bool.or_true, Bool.true_or, Bool.or_false, Bool.false_or, Nat.reduceAdd, Nat.reduceSub, Nat.sub_self, Nat.add_zero, Nat.zero_add, Nat.reduceLT, Nat.reduceLeDiff, reduceCtorEq, List.nodup_nil, List.nodup_cons, List.not_mem_nil, not_false_eq_true, and_self, and_true, true_and, decide_true, decide_false, List.tail_cons, List.headD_cons, CE.isNoe, CL.len, Bool.true_eq_false, Int.reduceLT, Int.reduceLE, Int.reduceToNat, reduceIte, cm, lm, hr0', el, ix32, ix31, atTub0, atTub1, atTub2, sizeLine_pos]
    | cons x0 cs =>
      obtain ⟨x, hx⟩ : ∃ x, L2.atI ((x0 :: cs).map D.int) (t % (((x0 :: cs).map D.int).length : Nat)) = some (.int x) := by
        have hl : (0 : Int) < (((x0 :: cs).map D.int).length : Nat) := by simp <;> omega
        have h0 := Int.emod_nonneg t (show ((((x0 :: cs).map D.int).length : Nat) : Int) ≠ 0 by omega)
        have h1 := Int.emod_lt_of_pos t hl
        rw [List.length_map] at h0 h1
        have h2 : (t % (((x0 :: cs).length : Nat) : Int)).toNat < (x0 :: cs).length := by omega
        refine ⟨(x0 :: cs)[(t % (((x0 :: cs).length : Nat) : Int)).toNat], atI_nat (by rw [List.length_map]; exact h0) ?_⟩
        rw [List.length_map, List.getElem?_map, List.getElem?_eq_getElem h2]; rfl
      have hn0 : (0 < (((x0 :: cs).map D.int).length : Int)) = True := eq_true (by simp <;> omega)
      refine fin x ?_
      unfold scoopB2 Tub
      generalize hC : (x0 :: cs).map D.int = C at *
      have el' : eqD (.lst C) (.lst []) = some false := by rw [el, ← hC]; rfl
      simp only [Q.b_ok, Q.b_ex, Q.b_bd, Q.t_ok, Q.t_ex, Q.t_bd, Q.s_nx, Q.s_rt, Q.s_bk, Q.s_ct, Q.s_ex, Q.s_bd, Q.p_sm, Q.p_no, Q.r_sh, Q.r_l, Q.r_t, Q.r_d, Q.w_sh, Q.w_fr, Q.w_br, Q.d_sh, Q.d_fr, Q.d_br, Q.a_sh, Q.a_ow, Q.a_io, Q.a_lk, Q.m_ow, Q.m_io, Q.m_sh, Q.h_sh, Q.h_fr, Q.h_br, Q.c_sh, Q.c_fr, Q.c_br, Q.v_sh, Q.v_fr, Q.e_val, Q.e_tst, Q.e_io, Q.e_md, Q.kC', Q.kV', Q.kU', Q.kB', Q.kP0, Q.kP1, Q.kS', Q.kT', Q.kCh', Q.bl_s, Q.kVa, Q.kN', Q.kI', Q.kIT, Q.kAV, Q.kAT, Q.kSh, Q.kNl, Q.kCo, Q.kVw', Q.kSt, Q.kTu, Q.kLs, Q.kBi', Q.dr_n, Q.dr_c, Q.kMm', Q.kMt, Q.kMf, Q.kCa, Q.kCk, Q.cs, Q.av_n, Q.av_s, Q.av_i, Q.ai_n, Q.ai_s, Q.ai_i, Q.io_s, Q.io_i, Q.st_n, Q.st_c, Q.mu_l, Q.mu_d, Q.mu_o, Q.sa, Q.fa, Q.f_no, Q.f_sh, Q.f_ow, Q.bv, Q.ag_n, Q.ag_t, Q.an, Q.at_, Q.as_n, Q.as_c, Q.pv, Q.rt_s, Q.rt_f, Q.rt_b, Q.kIv, Q.kYs, Q.os_n, Q.os_t, Q.os_f, Q.is_t, Q.is_f, Q.is_n, Q.rs, Q.so, Q.l_int, Q.le_int, Q.g_int, Q.ge_int, Q.eq_d, Q.ne_d, Q.is_non, Q.bo', Q.tr_b, Q.tr_i, Q.tr_l, Q.ad_i, Q.sb_i, Q.ml_i, Q.fd_i, Q.md_i, Q.pw_i, Q.ad_l, Q.su_l, Q.su_t, Q.bi1', Q.i_i, Q.i_b, Q.ab_i, Q.le_l, Q.le_t, Q.li_l, Q.tu_l, Q.ng_i, Q.sx_l, Q.bm_s, exb, exs, evc, evl, evi, List.getElem?_cons_zero, List.getElem?_cons_succ, List.getElem?_nil, List.set_cons_zero, List.set_cons_succ, List.length_cons, List.length_nil, Option.bind_some, Option.bind_none, Option.map_some, Option.map_none, List.map_cons, List.map_nil, List.replicate_zero, List.replicate_succ, List.append_nil, List.cons_append, List.nil_append, Bool.not_true, Bool.not_false, Bool.false_eq_true, if_true, if_false, ite_true, ite_false, Option.isSome_some, Option.isSome_none, Bool.and_true, Bool.true_and, Bool.and_false, Bool.false_and, Bool.or_true, Bool.true_or, Bool.or_false, Bool.false_or, Nat.reduceAdd, Nat.reduceSub, Nat.sub_self, Nat.add_zero, Nat.zero_add, Nat.reduceLT, Nat.reduceLeDiff, reduceCtorEq, List.nodup_nil, List.nodup_cons, List.not_mem_nil, not_false_eq_true, and_self, and_true, true_and, decide_true, decide_false, List.tail_cons, List.headD_cons, CE.isNoe, CL.len, Bool.true_eq_false, Int.reduceLT, Int.reduceLE, Int.reduceToNat, reduceIte, cm, lm, hr0', el', hx, hn0, ix32, ix31, atTub0, atTub1, atTub2, sizeLine_pos]
/-- .. where that is asked first -/
def scoopB3 (ab rs : CE) (tl : CB) : CB :=
  (.cons (.ifs (.cmp .Eq (.sub (.var 0) (.int 0)) (.lst .nil)) (.cons (.ret (.int 0))
  .nil) .nil)
  (.cons (.ifs (.cmp .Gt (.sub (.var 0) (.int 2)) (.int 0)) (.cons (.asg (.nm 5) (.bi .int (.cons (.sub (.var 0) (.int 2)) .nil)))
  (.cons (.setix 0 (.int 2) (.bin .FloorDiv (.var 5) (.var 1)))
  (.cons (.ret (.bin .Mod (.bi .int (.cons (.var 5) .nil)) (.var 1)))
  .nil))) .nil)
  (.cons (.asg (.nm 2) (.sub (.var 0) (.int 1)))
  (.cons (.setix 0 (.int 1) (.bin .Add (.var 2) (.int 1)))
  (.cons (.asg (.nm 3) (.sub (.sub (.var 0) (.int 0)) (.bin .Mod (.bi .int (.cons (.var 2) .nil)) (.bi .len (.cons (.sub (.var 0) (.int 0)) .nil)))))
  (midB ab rs tl))))))
theorem scoop_draws3 {ab rs : CE} {M1 k3 k4 M2 c1 k5 k6 M3 q : Int} (hM1 : ok32 M1) (hM2 : ok32 M2) (hM3 : ok32 M3) (h3 : ok20 k3) (hk4 : ok20 k4) (hc1 : ok20 c1) (h5 : ok20 k5) (h6 : ok20 k6) (hq : ok20 q) (hab : absOf ab) (hrs : restOf rs) :
    Draws ⟨[true, false], runS 6 [true, false] (exb (scoopB3 ab rs (scoopT M1 k3 k4 M2 c1 k5 k6 M3 q)))⟩ := by
  refine ⟨rfl, ?_⟩
  rintro n d m ⟨c, t, r, rfl, ht, ht2, hr⟩ hn hm hm2
  have cm : (0 < m) = True := eq_true hm
  have lm : (m.natAbs.log2 < 9000) = True := eq_true (log_small hm hm2)
  have a3 : smallB t = true := small_of (by omega) (by omega)
  have a4 : smallB 2 = true := by decide
  have rc : (0 < r) = (0 < r) := rfl
  have el := eqD_nil (ints_PD c)
  have p1 : (0 ≤ (18 : Int)) = True := by simp
  have p2 : ((18 : Int) ≤ 1000000) = True := by simp
  have p3 : ((10 : Int).natAbs < 2 ^ 64) = True := by simp
  by_cases hr0 : 0 < r
  · have hr0' : (0 < r) = True := eq_true hr0
    cases c with
    | nil =>
      refine ⟨0, Tub [] t r, ?_, Int.le_refl 0, hm, [], t, r, rfl, ht, by omega, hr⟩
      have el : eqD (.lst []) (.lst []) = some true := rfl
      unfold scoopB3 Tub
      simp only [Q.b_ok, Q.b_ex, Q.b_bd, Q.t_ok, Q.t_ex, Q.t_bd, Q.s_nx, Q.s_rt, Q.s_bk, Q.s_ct, Q.s_ex, Q.s_bd, Q.p_sm, Q.p_no, Q.r_sh, Q.r_l, Q.r_t, Q.r_d, Q.w_sh, Q.w_fr, Q.w_br, Q.d_sh, Q.d_fr, Q.d_br, Q.a_sh, Q.a_ow, Q.a_io, Q.a_lk, Q.m_ow, Q.m_io, Q.m_sh, Q.h_sh, Q.h_fr, Q.h_br, Q.c_sh, Q.c_fr, Q.c_br, Q.v_sh, Q.v_fr, Q.e_val, Q.e_tst, Q.e_io, Q.e_md, Q.kC', Q.kV', Q.kU', Q.kB', Q.kP0, Q.kP1, Q.kS', Q.kT', Q.kCh', Q.bl_s, Q.kVa, Q.kN', Q.kI', Q.kIT, Q.kAV, Q.kAT, Q.kSh, Q.kNl, Q.kCo, Q.kVw', Q.kSt, Q.kTu, Q.kLs, Q.kBi', Q.dr_n, Q.dr_c, Q.kMm', Q.kMt, Q.kMf, Q.kCa, Q.kCk, Q.cs, Q.av_n, Q.av_s, Q.av_i, Q.ai_n, Q.ai_s, Q.ai_i, Q.io_s, Q.io_i, Q.st_n, Q.st_c, Q.mu_l, Q.mu_d, Q.mu_o, Q.sa, Q.fa, Q.f_no, Q.f_sh, Q.f_ow, Q.bv, Q.ag_n, Q.ag_t, Q.an, Q.at_, Q.as_n, Q.as_c, Q.pv, Q.rt_s, Q.rt_f, Q.rt_b, Q.kIv, Q.kYs, Q.os_n, Q.os_t, Q.os_f, Q.is_t, Q.is_f, Q.is_n, Q.rs, Q.so, Q.l_int, Q.le_int, Q.g_int, Q.ge_int, Q.eq_d, Q.ne_d, Q.is_non, Q.bo', Q.tr_b, Q.tr_i, Q.tr_l, Q.ad_i, Q.sb_i, Q.ml_i, Q.fd_i, Q.md_i, Q.pw_i, Q.ad_l, Q.su_l, Q.su_t, Q.bi1', Q.i_i, Q.i_b, Q.ab_i, Q.le_l, Q.le_t, Q.li_l, Q.tu_l, Q.ng_i, Q.sx_l, Q.bm_s, exb, exs, evc, evl, evi, List.getElem?_cons_zero, List.getElem?_cons_succ, List.getElem?_nil, List.set_cons_zero, List.set_cons_succ, List.length_cons, List.length_nil, Option.bind_some, Option.bind_none, Option.map_some, Option.map_none, List.map_cons, List.map_nil, List.replicate_zero, List.replicate_succ, List.append_nil, List.cons_append, List.nil_append, Bool.not_true, Bool.not_false, Bool.false_eq_true, if_true, if_false, ite_true, ite_false, Option.isSome_some, Option.isSome_none, Bool.and_true, Bool.true_and, Bool.and_false, Bool.false_and, Bool.or_true, Bool.true_or, Bool.or_false, Bool.false_or, Nat.reduceAdd, Nat.reduceSub, Nat.sub_self, Nat.add_zero, Nat.zero_add, Nat.reduceLT, Nat.reduceLeDiff, reduceCtorEq, List.nodup_nil, List.nodup_cons, List.not_mem_nil, not_false_eq_true, and_self, and_true, true_and, decide_true, decide_false, List.tail_cons, List.headD_cons, CE.isNoe, CL.len, Bool.true_eq_false, Int.reduceLT, Int.reduceLE, Int.reduceToNat, reduceIte, cm, lm, hr0', el, ix32, ix31, atTub0, atTub1, atTub2, sizeLine_pos]
    | cons x0 cs =>
      refine ⟨r % m, Tub (x0 :: cs) t (r / m), ?_, Int.emod_nonneg _ (by omega), Int.emod_lt_of_pos _ hm, x0 :: cs, t, r / m, rfl, ht, by omega, Int.ediv_nonneg hr (by omega)⟩
      unfold Tub scoopB3
      generalize hC : (x0 :: cs).map D.int = C at *
      have el' : eqD (.lst C) (.lst []) = some false := by rw [el, ← hC]; rfl
      simp only [Q.b_ok, Q.b_ex, Q.b_bd, Q.t_ok, Q.t_ex, Q.t_bd, Q.s_nx, Q.s_rt, Q.s_bk, Q.s_ct, Q.s_ex, Q.s_bd, Q.p_sm, Q.p_no, Q.r_sh, Q.r_l, Q.r_t, Q.r_d, Q.w_sh, Q.w_fr, Q.w_br, Q.d_sh, Q.d_fr, Q.d_br, Q.a_sh, Q.a_ow, Q.a_io, Q.a_lk, Q.m_ow, Q.m_io, Q.m_sh, Q.h_sh, Q.h_fr, Q.h_br, Q.c_sh, Q.c_fr, Q.c_br, Q.v_sh, Q.v_fr, Q.e_val, Q.e_tst, Q.e_io, Q.e_md, Q.kC', Q.kV', Q.kU', Q.kB', Q.kP0, Q.kP1, Q.kS', Q.kT', Q.kCh', Q.bl_s, Q.kVa, Q.kN', Q.kI', Q.kIT, Q.kAV, Q.kAT, Q.kSh, Q.kNl, Q.kCo, Q.kVw', Q.kSt, Q.kTu, Q.kLs, Q.kBi', Q.dr_n, Q.dr_c, Q.kMm', Q.kMt, Q.kMf, Q.kCa, Q.kCk, Q.cs, Q.av_n, Q.av_s, Q.av_i, Q.ai_n, Q.ai_s, Q.ai_i, Q.io_s, Q.io_i, Q.st_n, Q.st_c, Q.mu_l, Q.mu_d, Q.mu_o, Q.sa, Q.fa, Q.f_no, Q.f_sh, Q.f_ow, Q.bv, Q.ag_n, Q.ag_t, Q.an, Q.at_, Q.as_n, Q.as_c, Q.pv, Q.rt_s, Q.rt_f, Q.rt_b, Q.kIv, Q.kYs, Q.os_n, Q.os_t, Q.os_f, Q.is_t, Q.is_f, Q.is_n, Q.rs, Q.so, Q.l_int, Q.le_int, Q.g_int, Q.ge_int, Q.eq_d, Q.ne_d, Q.is_non, Q.bo', Q.tr_b, Q.tr_i, Q.tr_l, Q.ad_i, Q.sb_i, Q.ml_i, Q.fd_i, Q.md_i, Q.pw_i, Q.ad_l, Q.su_l, Q.su_t, Q.bi1', Q.i_i, Q.i_b, Q.ab_i, Q.le_l, Q.le_t, Q.li_l, Q.tu_l, Q.ng_i, Q.sx_l, Q.bm_s, exb, exs, evc, evl, evi, List.getElem?_cons_zero, List.getElem?_cons_succ, List.getElem?_nil, List.set_cons_zero, List.set_cons_succ, List.length_cons, List.length_nil, Option.bind_some, Option.bind_none, Option.map_some, Option.map_none, List.map_cons, List.map_nil, List.replicate_zero, List.replicate_succ, List.append_nil, List.cons_append, List.nil_append, Bool.not_true, Bool.not_false, Bool.false_eq_true, if_true, if_false, ite_true, ite_false, Option.isSome_some, Option.isSome_none, Bool.and_true, Bool.true_and, Bool.and_false, Bool.false_and, Bool.or_true, Bool.true_or, Bool.or_false, Bool.false_or, Nat.reduceAdd, Nat.reduceSub, Nat.sub_self, Nat.add_zero, Nat.zero_add, Nat.reduceLT, Nat.reduceLeDiff, reduceCtorEq, List.nodup_nil, List.nodup_cons, List.not_mem_nil, not_false_eq_true, and_self, and_true, true_and, decide_true, decide_false, List.tail_cons, List.headD_cons, CE.isNoe, CL.len, Bool.true_eq_false, Int.reduceLT, Int.reduceLE, Int.reduceToNat, reduceIte, cm, lm, hr0', el', ix32, ix31, atTub0, atTub1, atTub2, sizeLine_pos]
  · have hr0' : (0 < r) = False := eq_false hr0
    -- the cell
    have big : ∀ (x : Int), (∃ v d', exb (midB ab rs (scoopT M1 k3 k4 M2 c1 k5 k6 M3 q)) [.io (Tub c (t + 1) r), .sh (.int m), .sh (.int t), .sh (.int x), .no, .no] = .rt false (.int v) d' ∧ (∃ S d2, d' = .io d2 :: .sh (.int m) :: S ∧ TubOk (n + 1) d2) ∧ 0 ≤ v ∧ v < m) := fun x => by
      obtain ⟨v, S, he, v0, v1⟩ := tail_eq (M1 := M1) (k3 := k3) (k4 := k4) (M2 := M2) (c1 := c1) (k5 := k5) (k6 := k6) (M3 := M3) (q := q) (d := Tub c (t + 1) r) (m := m) (t := t) (x := x) (s5 := .no) rfl hM1 hM2 hM3 h3 hk4 hc1 h5 h6 hq ht (by omega) hm
      have tok : TubOk (n + 1) (Tub c (t + 1) r) := ⟨c, t + 1, r, rfl, by omega, by omega, hr⟩
      by_cases b1 : t < (c.map D.int).length
      · have b1' : (t < (c.map D.int).length) = True := eq_true b1
        by_cases b2 : (10 : Int) ^ (18 : Int).toNat ≤ (if x < 0 then -x else x)
        · have b2' : ((10 : Int) ^ (18 : Int).toNat ≤ (if x < 0 then -x else x)) = True := eq_true b2
          refine ⟨?v, ?d, ?h, ⟨?S, ?d2, ?e, ?k⟩, ?a, ?b⟩
          case h =>
            have hab1 := hab [.io (.lst [.lst (c.map D.int), .int (t + 1), .int r]), .sh (.int m), .sh (.int t), .sh (.int x), .no, .no] x rfl
            have hrs1 : ∀ y : Int, (evc rs).val [.io (.lst [.lst (c.map D.int), .int (t + 1), .int r]), .sh (.int m), .sh (.int t), .sh (.int x), .no, .sh (.int y)] = .ok (.sh (.int y)) [.io (.lst [.lst (c.map D.int), .int (t + 1), .int r]), .sh (.int m), .sh (.int t), .sh (.int x), .no, .sh (.int y)] := fun y => hrs _ y rfl
            unfold Tub midB
            simp only [Q.b_ok, Q.b_ex, Q.b_bd, Q.t_ok, Q.t_ex, Q.t_bd, Q.s_nx, Q.s_rt, Q.s_bk, Q.s_ct, Q.s_ex, Q.s_bd, Q.p_sm, Q.p_no, Q.r_sh, Q.r_l, Q.r_t, Q.r_d, Q.w_sh, Q.w_fr, Q.w_br, Q.d_sh, Q.d_fr, Q.d_br, Q.a_sh, Q.a_ow, Q.a_io, Q.a_lk, Q.m_ow, Q.m_io, Q.m_sh, Q.h_sh, Q.h_fr, Q.h_br, Q.c_sh, Q.c_fr, Q.c_br, Q.v_sh, Q.v_fr, Q.e_val, Q.e_tst, Q.e_io, Q.e_md, Q.kC', Q.kV', Q.kU', Q.kB', Q.kP0, Q.kP1, Q.kS', Q.kT', Q.kCh', Q.bl_s, Q.kVa, Q.kN', Q.kI', Q.kIT, Q.kAV, Q.kAT, Q.kSh, Q.kNl, Q.kCo, Q.kVw', Q.kSt, Q.kTu, Q.kLs, Q.kBi', Q.dr_n, Q.dr_c, Q.kMm', Q.kMt, Q.kMf, Q.kCa, Q.kCk, Q.cs, Q.av_n, Q.av_s, Q.av_i, Q.ai_n, Q.ai_s, Q.ai_i, Q.io_s, Q.io_i, Q.st_n, Q.st_c, Q.mu_l, Q.mu_d, Q.mu_o, Q.sa, Q.fa, Q.f_no, Q.f_sh, Q.f_ow, Q.bv, Q.ag_n, Q.ag_t, Q.an, Q.at_, Q.as_n, Q.as_c, Q.pv, Q.rt_s, Q.rt_f, Q.rt_b, Q.kIv, Q.kYs, Q.os_n, Q.os_t, Q.os_f, Q.is_t, Q.is_f, Q.is_n, Q.rs, Q.so, Q.l_int, Q.le_int, Q.g_int, Q.ge_int, Q.eq_d, Q.ne_d, Q.is_non, Q.bo', Q.tr_b, Q.tr_i, Q.tr_l, Q.ad_i, Q.sb_i, Q.ml_i, Q.fd_i, Q.md_i, Q.pw_i, Q.ad_l, Q.su_l, Q.su_t, Q.bi1', Q.i_i, Q.i_b, Q.ab_i, Q.le_l, Q.le_t, Q.li_l, Q.tu_l, Q.ng_i, Q.sx_l, Q.bm_s, exb, exs, evc, evl, evi, List.getElem?_cons_zero, List.getElem?_cons_succ, List.getElem?_nil, List.set_cons_zero, List.set_cons_succ, List.length_cons, List.length_nil, Option.bind_some, Option.bind_none, Option.map_some, Option.map_none, List.map_cons, List.map_nil, List.replicate_zero, List.replicate_succ, List.append_nil, List.cons_append, List.nil_append, Bool.not_true, Bool.not_false, Bool.false_eq_true, if_true, if_false, ite_true, ite_false, Option.isSome_some, Option.isSome_none, Bool.and_true, Bool.true_and, Bool.and_false, Bool.false_and, Bool.or_true, Bool.true_or, Bool.or_false, Bool.false_or, Nat.reduceAdd, Nat.reduceSub, Nat.sub_self, Nat.add_zero, Nat.zero_add, Nat.reduceLT, Nat.reduceLeDiff, reduceCtorEq, List.nodup_nil, List.nodup_cons, List.not_mem_nil, not_false_eq_true, and_self, and_true, true_and, decide_true, decide_false, List.tail_cons, List.headD_cons, CE.isNoe, CL.len, Bool.true_eq_false, Int.reduceLT, Int.reduceLE, Int.reduceToNat, reduceIte, hab1, hrs1, cm, lm, a4, b1', b2', p1, p2, p3, ix32, ix31, atTub0, atTub1, atTub2, -Int.reduceToNat, -Int.reducePow, -Int.reduceNeg]
            rfl
          case e => rfl
          case k =>
            refine ⟨c, t + 1, _, rfl, by omega, by omega, Int.ediv_nonneg ?_ (by omega)⟩
            split <;> omega
          case a => exact Int.emod_nonneg _ (by omega)
          case b => exact Int.emod_lt_of_pos _ hm
        · have b2' : ((10 : Int) ^ (18 : Int).toNat ≤ (if x < 0 then -x else x)) = False := eq_false b2
          refine ⟨v, _, ?_, ⟨S, _, rfl, tok⟩, v0, v1⟩
          rw [← he]
          unfold Tub midB
          simp only [Q.b_ok, Q.b_ex, Q.b_bd, Q.t_ok, Q.t_ex, Q.t_bd, Q.s_nx, Q.s_rt, Q.s_bk, Q.s_ct, Q.s_ex, Q.s_bd, Q.p_sm, Q.p_no, Q.r_sh, Q.r_l, Q.r_t, Q.r_d, Q.w_sh, Q.w_fr, Q.w_br, Q.d_sh, Q.d_fr, Q.d_br, Q.a_sh, Q.a_ow, Q.a_io, Q.a_lk, Q.m_ow, Q.m_io, Q.m_sh, Q.h_sh, Q.h_fr, Q.h_br, Q.c_sh, Q.c_fr, Q.c_br, Q.v_sh, Q.v_fr, Q.e_val, Q.e_tst, Q.e_io, Q.e_md, Q.kC', Q.kV', Q.kU', Q.kB', Q.kP0, Q.kP1, Q.kS', Q.kT', Q.kCh', Q.bl_s, Q.kVa, Q.kN', Q.kI', Q.kIT, Q.kAV, Q.kAT, Q.kSh, Q.kNl, Q.kCo, Q.kVw', Q.kSt, Q.kTu, Q.kLs, Q.kBi', Q.dr_n, Q.dr_c, Q.kMm', Q.kMt, Q.kMf, Q.kCa, Q.kCk, Q.cs, Q.av_n, Q.av_s, Q.av_i, Q.ai_n, Q.ai_s, Q.ai_i, Q.io_s, Q.io_i, Q.st_n, Q.st_c, Q.mu_l, Q.mu_d, Q.mu_o, Q.sa, Q.fa, Q.f_no, Q.f_sh, Q.f_ow, Q.bv, Q.ag_n, Q.ag_t, Q.an, Q.at_, Q.as_n, Q.as_c, Q.pv, Q.rt_s, Q.rt_f, Q.rt_b, Q.kIv, Q.kYs, Q.os_n, Q.os_t, Q.os_f, Q.is_t, Q.is_f, Q.is_n, Q.rs, Q.so, Q.l_int, Q.le_int, Q.g_int, Q.ge_int, Q.eq_d, Q.ne_d, Q.is_non, Q.bo', Q.tr_b, Q.tr_i, Q.tr_l, Q.ad_i, Q.sb_i, Q.ml_i, Q.fd_i, Q.md_i, Q.pw_i, Q.ad_l, Q.su_l, Q.su_t, Q.bi1', Q.i_i, Q.i_b, Q.ab_i, Q.le_l, Q.le_t, Q.li_l, Q.tu_l, Q.ng_i, Q.sx_l, Q.bm_s, exb, exs, evc, evl, evi, List.getElem?_cons_zero, List.getElem?_cons_succ, List.getElem?_nil, List.set_cons_zero, List.set_cons_succ, List.length_cons, List.length_nil, Option.bind_some, Option.bind_none, Option.map_some, Option.map_none, List.map_cons, List.map_nil, List.replicate_zero, List.replicate_succ, List.append_nil, List.cons_append, List.nil_append, Bool.not_true, Bool.not_false, Bool.false_eq_true, if_true, if_false, ite_true, ite_false, Option.isSome_some, Option.isSome_none, Bool.and_true, Bool.true_and, Bool.and_false, Bool.false_and, Bool.or_true, Bool.true_or, Bool.or_false, Bool.false_or, Nat.reduceAdd, Nat.reduceSub, Nat.sub_self, Nat.add_zero, Nat.zero_add, Nat.reduceLT, Nat.reduceLeDiff, reduceCtorEq, List.nodup_nil, List.nodup_cons, List.not_mem_nil, not_false_eq_true, and_self, and_true, true_and, decide_true, decide_false, List.tail_cons, List.headD_cons, CE.isNoe, CL.len, Bool.true_eq_false, Int.reduceLT, Int.reduceLE, Int.reduceToNat, reduceIte, cm, lm, a4, b1', b2', p1, p2, p3, ix32, ix31, atTub0, atTub1, atTub2, -Int.reduceToNat, -Int.reducePow, -Int.reduceNeg]
      · have b1' : (t < (c.map D.int).length) = False := eq_false b1
        refine ⟨v, _, ?_, ⟨S, _, rfl, tok⟩, v0, v1⟩
        rw [← he]
        unfold Tub midB
        simp only [Q.b_ok, Q.b_ex, Q.b_bd, Q.t_ok, Q.t_ex, Q.t_bd, Q.s_nx, Q.s_rt, Q.s_bk, Q.s_ct, Q.s_ex, Q.s_bd, Q.p_sm, Q.p_no, Q.r_sh, Q.r_l, Q.r_t, Q.r_d, Q.w_sh, Q.w_fr, Q.w_br, Q.d_sh, Q.d_fr, Q.d_br, Q.a_sh, Q.a_ow, Q.a_io, Q.a_lk, Q.m_ow, Q.m_io, Q.m_sh, Q.h_sh, Q.h_fr, Q.h_br, Q.c_sh, Q.c_fr, Q.c_br, Q.v_sh, Q.v_fr, Q.e_val, Q.e_tst, Q.e_io, Q.e_md, Q.kC', Q.kV', Q.kU', Q.kB', Q.kP0, Q.kP1, Q.kS', Q.kT', Q.kCh', Q.bl_s, Q.kVa, Q.kN', Q.kI', Q.kIT, Q.kAV, Q.kAT, Q.kSh, Q.kNl, Q.kCo, Q.kVw', Q.kSt, Q.kTu, Q.kLs, Q.kBi', Q.dr_n, Q.dr_c, Q.kMm', Q.kMt, Q.kMf, Q.kCa, Q.kCk, Q.cs, Q.av_n, Q.av_s, Q.av_i, Q.ai_n, Q.ai_s, Q.ai_i, Q.io_s, Q.io_i, Q.st_n, Q.st_c, Q.mu_l, Q.mu_d, Q.mu_o, Q.sa, Q.fa, Q.f_no, Q.f_sh, Q.f_ow, Q.bv, Q.ag_n, Q.ag_t, Q.an, Q.at_, Q.as_n, Q.as_c, Q.pv, Q.rt_s, Q.rt_f, Q.rt_b, Q.kIv, Q.kYs, Q.os_n, Q.os_t, Q.os_f, Q.is_t, Q.is_f, Q.is_n, Q.rs, Q.so, Q.l_int, Q.le_int, Q.g_int, Q.ge_int, Q.eq_d, Q.ne_d, Q.is_non, Q.bo', Q.tr_b, Q.tr_i, Q.tr_l, Q.ad_i, Q.sb_i, Q.ml_i, Q.fd_i, Q.md_i, Q.pw_i, Q.ad_l, Q.su_l, Q.su_t, Q.bi1', Q.i_i, Q.i_b, Q.ab_i, Q.le_l, Q.le_t, Q.li_l, Q.tu_l, Q.ng_i, Q.sx_l, Q.bm_s, exb, exs, evc, evl, evi, List.getElem?_cons_zero, List.getElem?_cons_succ, List.getElem?_nil, List.set_cons_zero, List.set_cons_succ, List.length_cons, List.length_nil, Option.bind_some, Option.bind_none, Option.map_some, Option.map_none, List.map_cons, List.map_nil, List.replicate_zero, List.replicate_succ, List.append_nil, List.cons_append, List.nil_append, Bool.not_true, Bool.not_false, Bool.false_eq_true, if_true, if_false, ite_true, ite_false, Option.isSome_some, Option.isSome_none, Bool.and_true, Bool.true_and, Bool.and_false, Bool.false_and, Bool.or_true, Bool.true_or, Bool.or_false, Bool.false_or, Nat.reduceAdd, Nat.reduceSub, Nat.sub_self, Nat.add_zero, Nat.zero_add, Nat.reduceLT, Nat.reduceLeDiff, reduceCtorEq, List.nodup_nil, List.nodup_cons, List.not_mem_nil, not_false_eq_true, and_self, and_true, true_and, decide_true, decide_false, List.tail_cons, List.headD_cons, CE.isNoe, CL.len, Bool.true_eq_false, Int.reduceLT, Int.reduceLE, Int.reduceToNat, reduceIte, cm, lm, a4, b1', p1, p2, p3, ix32, ix31, atTub0, atTub1, atTub2]
    have fin : ∀ x : Int, (exb (scoopB3 ab rs (scoopT M1 k3 k4 M2 c1 k5 k6 M3 q)) [.io (Tub c t r), .sh (.int m), .no, .no, .no, .no] = exb (midB ab rs (scoopT M1 k3 k4 M2 c1 k5 k6 M3 q)) [.io (Tub c (t + 1) r), .sh (.int m), .sh (.int t), .sh (.int x), .no, .no]) →
        ∃ v d', (runS 6 [true, false] (exb (scoopB3 ab rs (scoopT M1 k3 k4 M2 c1 k5 k6 M3 q)))) [Tub c t r, .int m] = .ok false (.int v) [d'] ∧ 0 ≤ v ∧ v < m ∧ TubOk (n + 1) d' := fun x e => by
      obtain ⟨v, d', h1, ⟨S, d2, rfl, tok⟩, v0, v1⟩ := big x
      refine ⟨v, d2, ?_, v0, v1, tok⟩
      have e2 : slotsOf 6 [true, false] [Tub c t r, .int m] = [.io (Tub c t r), .sh (.int m), .no, .no, .no, .no] := rfl
      rw [Q.rs, if_pos (show [true, false].length = [Tub c t r, D.int m].length from rfl), e2, e, h1]
      rfl
    cases c with
    | nil =>
      refine ⟨0, Tub [] t r, ?_, Int.le_refl 0, hm, [], t, r, rfl, ht, by omega, hr⟩
      unfold scoopB3 Tub
      have el : eqD (.lst []) (.lst []) = some true := rfl
      simp only [Q.b_ok, Q.b_ex, Q.b_bd, Q.t_ok, Q.t_ex, Q.t_bd, Q.s_nx, Q.s_rt, Q.s_bk, Q.s_ct, Q.s_ex, Q.s_bd, Q.p_sm, Q.p_no, Q.r_sh, Q.r_l, Q.r_t, Q.r_d, Q.w_sh, Q.w_fr, Q.w_br, Q.d_sh, Q.d_fr, Q.d_br, Q.a_sh, Q.a_ow, Q.a_io, Q.a_lk, Q.m_ow, Q.m_io, Q.m_sh, Q.h_sh, Q.h_fr, Q.h_br, Q.c_sh, Q.c_fr, Q.c_br, Q.v_sh, Q.v_fr, Q.e_val, Q.e_tst, Q.e_io, Q.e_md, Q.kC', Q.kV', Q.kU', Q.kB', Q.kP0, Q.kP1, Q.kS', Q.kT', Q.kCh', Q.bl_s, Q.kVa, Q.kN', Q.kI', Q.kIT, Q.kAV, Q.kAT, Q.kSh, Q.kNl, Q.kCo, Q.kVw', Q.kSt, Q.kTu, Q.kLs, Q.kBi', Q.dr_n, Q.dr_c, Q.kMm', Q.kMt, Q.kMf, Q.kCa, Q.kCk, Q.cs, Q.av_n, Q.av_s, Q.av_i, Q.ai_n, Q.ai_s, Q.ai_i, Q.io_s, Q.io_i, Q.st_n, Q.st_c, Q.mu_l, Q.mu_d, Q.mu_o, Q.sa, Q.fa, Q.f_no, Q.f_sh, Q.f_ow, Q.bv, Q.ag_n, Q.ag_t, Q.an, Q.at_, Q.as_n, Q.as_c, Q.pv, Q.rt_s, Q.rt_f, Q.rt_b, Q.kIv, Q.kYs, Q.os_n, Q.os_t, Q.os_f, Q.is_t, Q.is_f, Q.is_n, Q.rs, Q.so, Q.l_int, Q.le_int, Q.g_int, Q.ge_int, Q.eq_d, Q.ne_d, Q.is_non, Q.bo', Q.tr_b, Q.tr_i, Q.tr_l, Q.ad_i, Q.sb_i, Q.ml_i, Q.fd_i, Q.md_i, Q.pw_i, Q.ad_l, Q.su_l, Q.su_t, Q.bi1', Q.i_i, Q.i_b, Q.ab_i, Q.le_l, Q.le_t, Q.li_l, Q.tu_l, Q.ng_i, Q.sx_l, Q.bm_s, exb, exs, evc, evl, evi, List.getElem?_cons_zero, List.getElem?_cons_succ, List.getElem?_nil, List.set_cons_zero, List.set_cons_succ, List.length_cons, List.length_nil, Option.bind_some, Option.bind_none, Option.map_some, Option.map_none, List.map_cons, List.map_nil, List.replicate_zero, List.replicate_succ, List.append_nil, List.cons_append, List.nil_append, Bool.not_true, Bool.not_false, Bool.false_eq_true, if_true, if_false, ite_true, ite_false, Option.isSome_some, Option.isSome_none, Bool.and_true, Bool.true_and, Bool.and_false, Bool.false_and, Bool.or_true, Bool.true_or, Bool.or_false, Bool.false_or, Nat.reduceAdd, Nat.reduceSub, Nat.sub_self, Nat.add_zero, Nat.zero_add, Nat.reduceLT, Nat.reduceLeDiff, reduceCtorEq, List.nodup_nil, List.nodup_cons, List.not_mem_nil, not_false_eq_true, and_self, and_true, true_and, decide_true, decide_false, List.tail_cons, List.headD_cons, CE.isNoe, CL.len, Bool.true_eq_false, Int.reduceLT, Int.reduceLE, Int.reduceToNat, reduceIte, cm, lm, hr0', el, ix32, ix31, atTub0, atTub1, atTub2, sizeLine_pos]
    | cons x0 cs =>
      obtain ⟨x, hx⟩ : ∃ x, L2.atI ((x0 :: cs).map D.int) (t % (((x0 :: cs).map D.int).length : Nat)) = some (.int x) := by
        have hl : (0 : Int) < (((x0 :: cs).map D.int).length : Nat) := by simp <;> omega
        have h0 := Int.emod_nonneg t (show ((((x0 :: cs).map D.int).length : Nat) : Int) ≠ 0 by omega)
        have h1 := Int.emod_lt_of_pos t hl
        rw [List.length_map] at h0 h1
        have h2 : (t % (((x0 :: cs).length : Nat) : Int)).toNat < (x0 :: cs).length := by omega
        refine ⟨(x0 :: cs)[(t % (((x0 :: cs).length : Nat) : Int)).toNat], atI_nat (by rw [List.length_map]; exact h0) ?_⟩
        rw [List.length_map, List.getElem?_map, List.getElem?_eq_getElem h2]; rfl
      have hn0 : (0 < (((x0 :: cs).map D.int).length : Int)) = True := eq_true (by simp <;> omega)
      refine fin x ?_
      unfold scoopB3 Tub
      generalize hC : (x0 :: cs).map D.int = C at *
      have el' : eqD (.lst C) (.lst []) = some false := by rw [el, ← hC]; rfl
      simp only [Q.b_ok, Q.b_ex, Q.b_bd, Q.t_ok, Q.t_ex, Q.t_bd, Q.s_nx, Q.s_rt, Q.s_bk, Q.s_ct, Q.s_ex, Q.s_bd, Q.p_sm, Q.p_no, Q.r_sh, Q.r_l, Q.r_t, Q.r_d, Q.w_sh, Q.w_fr, Q.w_br, Q.d_sh, Q.d_fr, Q.d_br, Q.a_sh, Q.a_ow, Q.a_io, Q.a_lk, Q.m_ow, Q.m_io, Q.m_sh, Q.h_sh, Q.h_fr, Q.h_br, Q.c_sh, Q.c_fr, Q.c_br, Q.v_sh, Q.v_fr, Q.e_val, Q.e_tst, Q.e_io, Q.e_md, Q.kC', Q.kV', Q.kU', Q.kB', Q.kP0, Q.kP1, Q.kS', Q.kT', Q.kCh', Q.bl_s, Q.kVa, Q.kN', Q.kI', Q.kIT, Q.kAV, Q.kAT, Q.kSh, Q.kNl, Q.kCo, Q.kVw', Q.kSt, Q.kTu, Q.kLs, Q.kBi', Q.dr_n, Q.dr_c, Q.kMm', Q.kMt, Q.kMf, Q.kCa, Q.kCk, Q.cs, Q.av_n, Q.av_s, Q.av_i, Q.ai_n, Q.ai_s, Q.ai_i, Q.io_s, Q.io_i, Q.st_n, Q.st_c, Q.mu_l, Q.mu_d, Q.mu_o, Q.sa, Q.fa, Q.f_no, Q.f_sh, Q.f_ow, Q.bv, Q.ag_n, Q.ag_t, Q.an, Q.at_, Q.as_n, Q.as_c, Q.pv, Q.rt_s, Q.rt_f, Q.rt_b, Q.kIv, Q.kYs, Q.os_n, Q.os_t, Q.os_f, Q.is_t, Q.is_f, Q.is_n, Q.rs, Q.so, Q.l_int, Q.le_int, Q.g_int, Q.ge_int, Q.eq_d, Q.ne_d, Q.is_non, Q.bo', Q.tr_b, Q.tr_i, Q.tr_l, Q.ad_i, Q.sb_i, Q.ml_i, Q.fd_i, Q.md_i, Q.pw_i, Q.ad_l, Q.su_l, Q.su_t, Q.bi1', Q.i_i, Q.i_b, Q.ab_i, Q.le_l, Q.le_t, Q.li_l, Q.tu_l, Q.ng_i, Q.sx_l, Q.bm_s, exb, exs, evc, evl, evi, List.getElem?_cons_zero, List.getElem?_cons_succ, List.getElem?_nil, List.set_cons_zero, List.set_cons_succ, List.length_cons, List.length_nil, Option.bind_some, Option.bind_none, Option.map_some, Option.map_none, List.map_cons, List.map_nil, List.replicate_zero, List.replicate_succ, List.append_nil, List.cons_append, List.nil_append, Bool.not_true, Bool.not_false, Bool.false_eq_true, if_true, if_false, ite_true, ite_false, Option.isSome_some, Option.isSome_none, Bool.and_true, Bool.true_and, Bool.and_false, Bool.false_and, Bool.or_true, Bool.true_or, Bool.or_false, Bool.false_or, Nat.reduceAdd, Nat.reduceSub, Nat.sub_self, Nat.add_zero, Nat.zero_add, Nat.reduceLT, Nat.reduceLeDiff, reduceCtorEq, List.nodup_nil, List.nodup_cons, List.not_mem_nil, not_false_eq_true, and_self, and_true, true_and, decide_true, decide_false, List.tail_cons, List.headD_cons, CE.isNoe, CL.len, Bool.true_eq_false, Int.reduceLT, Int.reduceLE, Int.reduceToNat, reduceIte, cm, lm, hr0', el', hx, hn0, ix32, ix31, atTub0, atTub1, atTub2, sizeLine_pos]
def pickB (nm : Str) (sg : FSig) : CB := .cons (.ret (.sub (.var 1) (.call nm sg (.cons (.var 0) (.cons (.bi .len (.cons (.var 1) .nil)) .nil))))) .nil
theorem TubOk.mu {n : Nat} {d : D} (h : TubOk n d) : MutD d = true := by obtain ⟨c, t, r, rfl, _⟩ := h; rfl
theorem pick_of {nm : Str} {sg : FSig} (hd : Draws sg) : Picks ⟨[true, false], runS 2 [true, false] (exb (pickB nm sg))⟩ := by
  refine ⟨rfl, fun n d xs tok hn hne hlen => ?_⟩
  have hp : 0 < xs.length := by cases xs with
    | nil => exact absurd rfl hne
    | cons _ _ => simp
  obtain ⟨v, d', hm, v0, v1, tok'⟩ := hd.2 n d (xs.length : Nat) tok hn (by omega) (by omega)
  have hv : v.toNat < xs.length := by omega
  refine ⟨v.toNat, xs[v.toNat], d', List.getElem?_eq_getElem hv, ?_, tok'⟩
  have ha : L2.atI xs v = some xs[v.toNat] := atI_nat v0 (List.getElem?_eq_getElem hv)
  have hmd := hd.1
  have mu := tok'.mu
  unfold pickB
  simp only [Q.b_ok, Q.b_ex, Q.b_bd, Q.t_ok, Q.t_ex, Q.t_bd, Q.s_nx, Q.s_rt, Q.s_bk, Q.s_ct, Q.s_ex, Q.s_bd, Q.p_sm, Q.p_no, Q.r_sh, Q.r_l, Q.r_t, Q.r_d, Q.w_sh, Q.w_fr, Q.w_br, Q.d_sh, Q.d_fr, Q.d_br, Q.a_sh, Q.a_ow, Q.a_io, Q.a_lk, Q.m_ow, Q.m_io, Q.m_sh, Q.h_sh, Q.h_fr, Q.h_br, Q.c_sh, Q.c_fr, Q.c_br, Q.v_sh, Q.v_fr, Q.e_val, Q.e_tst, Q.e_io, Q.e_md, Q.kC', Q.kV', Q.kU', Q.kB', Q.kP0, Q.kP1, Q.kS', Q.kT', Q.kCh', Q.bl_s, Q.kVa, Q.kN', Q.kI', Q.kIT, Q.kAV, Q.kAT, Q.kSh, Q.kNl, Q.kCo, Q.kVw', Q.kSt, Q.kTu, Q.kLs, Q.kBi', Q.dr_n, Q.dr_c, Q.kMm', Q.kMt, Q.kMf, Q.kCa, Q.kCk, Q.cs, Q.av_n, Q.av_s, Q.av_i, Q.ai_n, Q.ai_s, Q.ai_i, Q.io_s, Q.io_i, Q.st_n, Q.st_c, Q.mu_l, Q.mu_d, Q.mu_o, Q.sa, Q.fa, Q.f_no, Q.f_sh, Q.f_ow, Q.bv, Q.ag_n, Q.ag_t, Q.an, Q.at_, Q.as_n, Q.as_c, Q.pv, Q.rt_s, Q.rt_f, Q.rt_b, Q.kIv, Q.kYs, Q.os_n, Q.os_t, Q.os_f, Q.is_t, Q.is_f, Q.is_n, Q.rs, Q.so, Q.l_int, Q.le_int, Q.g_int, Q.ge_int, Q.eq_d, Q.ne_d, Q.is_non, Q.bo', Q.tr_b, Q.tr_i, Q.tr_l, Q.ad_i, Q.sb_i, Q.ml_i, Q.fd_i, Q.md_i, Q.pw_i, Q.ad_l, Q.su_l, Q.su_t, Q.bi1', Q.i_i, Q.i_b, Q.ab_i, Q.le_l, Q.le_t, Q.li_l, Q.tu_l, Q.ng_i, Q.sx_l, Q.bm_s, exb, exs, evc, evl, evi, List.getElem?_cons_zero, List.getElem?_cons_succ, List.getElem?_nil, List.set_cons_zero, List.set_cons_succ, List.length_cons, List.length_nil, Option.bind_some, Option.bind_none, Option.map_some, Option.map_none, List.map_cons, List.map_nil, List.replicate_zero, List.replicate_succ, List.append_nil, List.cons_append, List.nil_append, Bool.not_true, Bool.not_false, Bool.false_eq_true, if_true, if_false, ite_true, ite_false, Option.isSome_some, Option.isSome_none, Bool.and_true, Bool.true_and, Bool.and_false, Bool.false_and, Bool.or_true, Bool.true_or, Bool.or_false, Bool.false_or, Nat.reduceAdd, Nat.reduceSub, Nat.sub_self, Nat.add_zero, Nat.zero_add, Nat.reduceLT, Nat.reduceLeDiff, reduceCtorEq, List.nodup_nil, List.nodup_cons, List.not_mem_nil, not_false_eq_true, and_self, and_true, true_and, decide_true, decide_false, List.tail_cons, List.headD_cons, CE.isNoe, CL.len, Bool.true_eq_false, Int.reduceLT, Int.reduceLE, Int.reduceToNat, reduceIte, hmd, hm, mu, ha]
def stirB (nm : Str) (sg : FSig) : CB :=
  (.cons (.par 2 3 (.bi .list (.cons (.var 1) .nil)) (.lst .nil))
  (.cons (.whl 4096 (.cmp .NotEq (.var 2) (.lst .nil)) (.cons (.expr (.mm .append 3 (.cons (.mm .popAt 2 (.cons (.call nm sg (.cons (.var 0) (.cons (.bi .len (.cons (.var 2) .nil)) .nil))) .nil)) .nil)))
  .nil))
  (.cons (.ret (.var 3))
  .nil)))
def Stirs (sg : FSig) : Prop := sg.md = [true, false] ∧ ∀ n d xs, TubOk n d → n + xs.length ≤ 4000 → (∀ x ∈ xs, PD 40 x) → ∃ (ys : List D) (d' : D), ys.Perm xs ∧ sg.m [d, .lst xs] = .ok true (.lst ys) [d'] ∧ TubOk (n + xs.length) d'
theorem sizeLine_big {n : Nat} (h : n ≤ 4096) : n < sizeLine := by rw [sizeLine_eq]; omega
theorem whl_go {c : KT} {b : SS → F} {n : Nat} {S S1 S2 : SS} (hc : c S = .ok true S1) (hb : b S1 = .nx S2) : whlF c b (n + 1) S = whlF c b n S2 := by
  rw [whlF, hc]
  simp only [Q.t_ok, if_true, hb]
theorem whl_end {c : KT} {b : SS → F} {n : Nat} {S S1 : SS} (hc : c S = .ok false S1) : whlF c b (n + 1) S = .nx S1 := by
  rw [whlF, hc]
  simp only [Q.t_ok, Bool.false_eq_true, if_false]
theorem exb_nx {s : CS} {b : CB} {S S1 : SS} (h : exs s S = .nx S1) : exb (.cons s b) S = exb b S1 := by
  rw [exb, h]; rfl
theorem exb_wh {fuel : Nat} {c : CE} {b r : CB} {S S1 : SS} (h : whlF (evc c).tst (exb b) fuel S = .nx S1) : exb (.cons (.whl fuel c b) r) S = exb r S1 := exb_nx (by rw [exs]; exact h)
theorem exb_rt {s : CS} {b : CB} {S S1 : SS} {fr : Bool} {d : D} (h : exs s S = .rt fr d S1) : exb (.cons s b) S = .rt fr d S1 := by
  rw [exb, h]; rfl
theorem runS_rt {n : Nat} {ms : List Bool} {b : SS → F} {ds o : List D} {fr : Bool} {d : D} {S : SS} (hl : ms.length = ds.length) (h : b (slotsOf n ms ds) = .rt fr d S) (ho : outsS ms S = some o) : runS n ms b ds = .ok fr d o := by
  rw [Q.rs, if_pos hl, h]
  simp only [ho]
theorem erase_perm {α : Type} : ∀ (l : List α) (i : Nat) (h : i < l.length), (l[i] :: l.eraseIdx i).Perm l
  | [], i, h => absurd h (Nat.not_lt_zero i)
  | x :: l, 0, h => .refl _
  | x :: l, i + 1, h => by
    have hi : i < l.length := by simpa using h
    have ih := erase_perm l i hi
    show (l[i] :: x :: l.eraseIdx i).Perm (x :: l)
    exact (List.Perm.swap x _ _).trans (ih.cons x)
theorem stir_loop {sg : FSig} {nm : Str} (hd : Draws sg) (k : Nat) : ∀ (n : Nat) (fuel : Nat) (d z : D) (left found : List D), left.length = k → k < fuel → TubOk n d → n + k ≤ 4000 → found.length + k ≤ 4000 → (∀ x ∈ left, PD 40 x) →
    ∃ (ys : List D) (d' : D), ys.Perm left ∧ TubOk (n + k) d' ∧ whlF (evc (.cmp .NotEq (.var 2) (.lst .nil))).tst (exb (.cons (.expr (.mm .append 3 (.cons (.mm .popAt 2 (.cons (.call nm sg (.cons (.var 0) (.cons (.bi .len (.cons (.var 2) .nil)) .nil))) .nil)) .nil))) .nil)) fuel
      [.io d, .sh z, .ow (.lst left), .ow (.lst found)] = .nx [.io d', .sh z, .ow (.lst []), .ow (.lst (found ++ ys))] := by
  induction k with
  | zero =>
    intro n fuel d z left found hl hf tok _ _ _
    cases fuel with
    | zero => exact absurd hf (Nat.not_lt_zero _)
    | succ fuel =>
      have : left = [] := List.length_eq_zero_iff.mp hl
      subst this
      refine ⟨[], d, .refl _, tok, ?_⟩
      have e : eqD (.lst []) (.lst []) = some true := rfl
      rw [List.append_nil]
      refine whl_end ?_
      simp only [Q.b_ok, Q.b_ex, Q.b_bd, Q.t_ok, Q.t_ex, Q.t_bd, Q.s_nx, Q.s_rt, Q.s_bk, Q.s_ct, Q.s_ex, Q.s_bd, Q.p_sm, Q.p_no, Q.r_sh, Q.r_l, Q.r_t, Q.r_d, Q.w_sh, Q.w_fr, Q.w_br, Q.d_sh, Q.d_fr, Q.d_br, Q.a_sh, Q.a_ow, Q.a_io, Q.a_lk, Q.m_ow, Q.m_io, Q.m_sh, Q.h_sh, Q.h_fr, Q.h_br, Q.c_sh, Q.c_fr, Q.c_br, Q.v_sh, Q.v_fr, Q.e_val, Q.e_tst, Q.e_io, Q.e_md, Q.kC', Q.kV', Q.kU', Q.kB', Q.kP0, Q.kP1, Q.kS', Q.kT', Q.kCh', Q.bl_s, Q.kVa, Q.kN', Q.kI', Q.kIT, Q.kAV, Q.kAT, Q.kSh, Q.kNl, Q.kCo, Q.kVw', Q.kSt, Q.kTu, Q.kLs, Q.kBi', Q.dr_n, Q.dr_c, Q.kMm', Q.kMt, Q.kMf, Q.kCa, Q.kCk, Q.cs, Q.av_n, Q.av_s, Q.av_i, Q.ai_n, Q.ai_s, Q.ai_i, Q.io_s, Q.io_i, Q.st_n, Q.st_c, Q.mu_l, Q.mu_d, Q.mu_o, Q.sa, Q.fa, Q.f_no, Q.f_sh, Q.f_ow, Q.bv, Q.ag_n, Q.ag_t, Q.an, Q.at_, Q.as_n, Q.as_c, Q.pv, Q.rt_s, Q.rt_f, Q.rt_b, Q.kIv, Q.kYs, Q.os_n, Q.os_t, Q.os_f, Q.is_t, Q.is_f, Q.is_n, Q.rs, Q.so, Q.l_int, Q.le_int, Q.g_int, Q.ge_int, Q.eq_d, Q.ne_d, Q.is_non, Q.bo', Q.tr_b, Q.tr_i, Q.tr_l, Q.ad_i, Q.sb_i, Q.ml_i, Q.fd_i, Q.md_i, Q.pw_i, Q.ad_l, Q.su_l, Q.su_t, Q.bi1', Q.i_i, Q.i_b, Q.ab_i, Q.le_l, Q.le_t, Q.li_l, Q.tu_l, Q.ng_i, Q.sx_l, Q.bm_s, exb, exs, evc, evl, evi, List.getElem?_cons_zero, List.getElem?_cons_succ, List.getElem?_nil, List.set_cons_zero, List.set_cons_succ, List.length_cons, List.length_nil, Option.bind_some, Option.bind_none, Option.map_some, Option.map_none, List.map_cons, List.map_nil, List.replicate_zero, List.replicate_succ, List.append_nil, List.cons_append, List.nil_append, Bool.not_true, Bool.not_false, Bool.false_eq_true, if_true, if_false, ite_true, ite_false, Option.isSome_some, Option.isSome_none, Bool.and_true, Bool.true_and, Bool.and_false, Bool.false_and, Bool.or_true, Bool.true_or, Bool.or_false, Bool.false_or, Nat.reduceAdd, Nat.reduceSub, Nat.sub_self, Nat.add_zero, Nat.zero_add, Nat.reduceLT, Nat.reduceLeDiff, reduceCtorEq, List.nodup_nil, List.nodup_cons, List.not_mem_nil, not_false_eq_true, and_self, and_true, true_and, decide_true, decide_false, List.tail_cons, List.headD_cons, CE.isNoe, CL.len, Bool.true_eq_false, Int.reduceLT, Int.reduceLE, Int.reduceToNat, reduceIte, e, sizeLine_pos]
  | succ k ih =>
    intro n fuel d z left found hl hf tok hn hfd hp
    cases fuel with
    | zero => exact absurd hf (Nat.not_lt_zero _)
    | succ fuel =>
    have e : eqD (.lst left) (.lst []) = some false := by
      rw [eqD_nil hp]
      cases left with
      | nil => cases hl
      | cons _ _ => rfl
    obtain ⟨v, d', hm, v0, v1, tok'⟩ := hd.2 n d (left.length : Nat) tok (by omega) (by omega) (by omega)
    have hv : v.toNat < left.length := by omega
    have hpop : mmD .popAt (.lst left) [.int v] = some (left[v.toNat], .lst (left.eraseIdx v.toNat)) := by
      show (if decide (-(2 ^ 63) ≤ v) && decide (v < 2 ^ 63) then (seqIndex? v left.length).bind fun k => (left[k]?).map fun y => (y, D.lst (left.eraseIdx k)) else none) = _
      rw [if_pos (by simp only [Bool.and_eq_true, decide_eq_true_eq]; omega), seqIndex_of v0 v1]
      show (left[v.toNat]?).map _ = _
      rw [List.getElem?_eq_getElem hv]; rfl
    have happ : mmD .append (.lst found) [left[v.toNat]] = some (.non, .lst (found ++ [left[v.toNat]])) := by
      show (if found.length < sizeLine then some (D.non, D.lst (found ++ [left[v.toNat]])) else none) = _
      rw [if_pos (sizeLine_big (by omega))]
    have pm : (left[v.toNat] :: left.eraseIdx v.toNat).Perm left := erase_perm left v.toNat hv
    have hl' : (left.eraseIdx v.toNat).length = k := by rw [List.length_eraseIdx_of_lt hv]; omega
    obtain ⟨ys, d2, p2, tok2, h2⟩ := ih (n + 1) fuel d' z (left.eraseIdx v.toNat) (found ++ [left[v.toNat]]) hl' (by omega) tok' (by omega) (by simp; omega) (fun x hx => hp x (List.mem_of_mem_eraseIdx hx))
    refine ⟨left[v.toNat] :: ys, d2, (p2.cons _).trans pm, (show n + (k + 1) = n + 1 + k by omega) ▸ tok2, ?_⟩
    have hmd := hd.1
    have mu := tok'.mu
    have is1 : isSeqL (.lst left) = true := rfl
    have is2 : isSeqL (.lst found) = true := rfl
    rw [List.append_assoc] at h2
    refine (whl_go (S1 := [.io d, .sh z, .ow (.lst left), .ow (.lst found)]) ?_ ?_).trans h2
    · simp only [Q.b_ok, Q.b_ex, Q.b_bd, Q.t_ok, Q.t_ex, Q.t_bd, Q.s_nx, Q.s_rt, Q.s_bk, Q.s_ct, Q.s_ex, Q.s_bd, Q.p_sm, Q.p_no, Q.r_sh, Q.r_l, Q.r_t, Q.r_d, Q.w_sh, Q.w_fr, Q.w_br, Q.d_sh, Q.d_fr, Q.d_br, Q.a_sh, Q.a_ow, Q.a_io, Q.a_lk, Q.m_ow, Q.m_io, Q.m_sh, Q.h_sh, Q.h_fr, Q.h_br, Q.c_sh, Q.c_fr, Q.c_br, Q.v_sh, Q.v_fr, Q.e_val, Q.e_tst, Q.e_io, Q.e_md, Q.kC', Q.kV', Q.kU', Q.kB', Q.kP0, Q.kP1, Q.kS', Q.kT', Q.kCh', Q.bl_s, Q.kVa, Q.kN', Q.kI', Q.kIT, Q.kAV, Q.kAT, Q.kSh, Q.kNl, Q.kCo, Q.kVw', Q.kSt, Q.kTu, Q.kLs, Q.kBi', Q.dr_n, Q.dr_c, Q.kMm', Q.kMt, Q.kMf, Q.kCa, Q.kCk, Q.cs, Q.av_n, Q.av_s, Q.av_i, Q.ai_n, Q.ai_s, Q.ai_i, Q.io_s, Q.io_i, Q.st_n, Q.st_c, Q.mu_l, Q.mu_d, Q.mu_o, Q.sa, Q.fa, Q.f_no, Q.f_sh, Q.f_ow, Q.bv, Q.ag_n, Q.ag_t, Q.an, Q.at_, Q.as_n, Q.as_c, Q.pv, Q.rt_s, Q.rt_f, Q.rt_b, Q.kIv, Q.kYs, Q.os_n, Q.os_t, Q.os_f, Q.is_t, Q.is_f, Q.is_n, Q.rs, Q.so, Q.l_int, Q.le_int, Q.g_int, Q.ge_int, Q.eq_d, Q.ne_d, Q.is_non, Q.bo', Q.tr_b, Q.tr_i, Q.tr_l, Q.ad_i, Q.sb_i, Q.ml_i, Q.fd_i, Q.md_i, Q.pw_i, Q.ad_l, Q.su_l, Q.su_t, Q.bi1', Q.i_i, Q.i_b, Q.ab_i, Q.le_l, Q.le_t, Q.li_l, Q.tu_l, Q.ng_i, Q.sx_l, Q.bm_s, exb, exs, evc, evl, evi, List.getElem?_cons_zero, List.getElem?_cons_succ, List.getElem?_nil, List.set_cons_zero, List.set_cons_succ, List.length_cons, List.length_nil, Option.bind_some, Option.bind_none, Option.map_some, Option.map_none, List.map_cons, List.map_nil, List.replicate_zero, List.replicate_succ, List.append_nil, List.cons_append, List.nil_append, Bool.not_true, Bool.not_false, Bool.false_eq_true, if_true, if_false, ite_true, ite_false, Option.isSome_some, Option.isSome_none, Bool.and_true, Bool.true_and, Bool.and_false, Bool.false_and, Bool.or_true, Bool.true_or, Bool.or_false, Bool.false_or, Nat.reduceAdd, Nat.reduceSub, Nat.sub_self, Nat.add_zero, Nat.zero_add, Nat.reduceLT, Nat.reduceLeDiff, reduceCtorEq, List.nodup_nil, List.nodup_cons, List.not_mem_nil, not_false_eq_true, and_self, and_true, true_and, decide_true, decide_false, List.tail_cons, List.headD_cons, CE.isNoe, CL.len, Bool.true_eq_false, Int.reduceLT, Int.reduceLE, Int.reduceToNat, reduceIte, e, sizeLine_pos]
    · simp only [Q.b_ok, Q.b_ex, Q.b_bd, Q.t_ok, Q.t_ex, Q.t_bd, Q.s_nx, Q.s_rt, Q.s_bk, Q.s_ct, Q.s_ex, Q.s_bd, Q.p_sm, Q.p_no, Q.r_sh, Q.r_l, Q.r_t, Q.r_d, Q.w_sh, Q.w_fr, Q.w_br, Q.d_sh, Q.d_fr, Q.d_br, Q.a_sh, Q.a_ow, Q.a_io, Q.a_lk, Q.m_ow, Q.m_io, Q.m_sh, Q.h_sh, Q.h_fr, Q.h_br, Q.c_sh, Q.c_fr, Q.c_br, Q.v_sh, Q.v_fr, Q.e_val, Q.e_tst, Q.e_io, Q.e_md, Q.kC', Q.kV', Q.kU', Q.kB', Q.kP0, Q.kP1, Q.kS', Q.kT', Q.kCh', Q.bl_s, Q.kVa, Q.kN', Q.kI', Q.kIT, Q.kAV, Q.kAT, Q.kSh, Q.kNl, Q.kCo, Q.kVw', Q.kSt, Q.kTu, Q.kLs, Q.kBi', Q.dr_n, Q.dr_c, Q.kMm', Q.kMt, Q.kMf, Q.kCa, Q.kCk, Q.cs, Q.av_n, Q.av_s, Q.av_i, Q.ai_n, Q.ai_s, Q.ai_i, Q.io_s, Q.io_i, Q.st_n, Q.st_c, Q.mu_l, Q.mu_d, Q.mu_o, Q.sa, Q.fa, Q.f_no, Q.f_sh, Q.f_ow, Q.bv, Q.ag_n, Q.ag_t, Q.an, Q.at_, Q.as_n, Q.as_c, Q.pv, Q.rt_s, Q.rt_f, Q.rt_b, Q.kIv, Q.kYs, Q.os_n, Q.os_t, Q.os_f, Q.is_t, Q.is_f, Q.is_n, Q.rs, Q.so, Q.l_int, Q.le_int, Q.g_int, Q.ge_int, Q.eq_d, Q.ne_d, Q.is_non, Q.bo', Q.tr_b, Q.tr_i, Q.tr_l, Q.ad_i, Q.sb_i, Q.ml_i, Q.fd_i, Q.md_i, Q.pw_i, Q.ad_l, Q.su_l, Q.su_t, Q.bi1', Q.i_i, Q.i_b, Q.ab_i, Q.le_l, Q.le_t, Q.li_l, Q.tu_l, Q.ng_i, Q.sx_l, Q.bm_s, exb, exs, evc, evl, evi, List.getElem?_cons_zero, List.getElem?_cons_succ, List.getElem?_nil, List.set_cons_zero, List.set_cons_succ, List.length_cons, List.length_nil, Option.bind_some, Option.bind_none, Option.map_some, Option.map_none, List.map_cons, List.map_nil, List.replicate_zero, List.replicate_succ, List.append_nil, List.cons_append, List.nil_append, Bool.not_true, Bool.not_false, Bool.false_eq_true, if_true, if_false, ite_true, ite_false, Option.isSome_some, Option.isSome_none, Bool.and_true, Bool.true_and, Bool.and_false, Bool.false_and, Bool.or_true, Bool.true_or, Bool.or_false, Bool.false_or, Nat.reduceAdd, Nat.reduceSub, Nat.sub_self, Nat.add_zero, Nat.zero_add, Nat.reduceLT, Nat.reduceLeDiff, reduceCtorEq, List.nodup_nil, List.nodup_cons, List.not_mem_nil, not_false_eq_true, and_self, and_true, true_and, decide_true, decide_false, List.tail_cons, List.headD_cons, CE.isNoe, CL.len, Bool.true_eq_false, Int.reduceLT, Int.reduceLE, Int.reduceToNat, reduceIte, hmd, hm, mu, hpop, happ, is1, is2]
theorem stir_of {nm : Str} {sg : FSig} (hd : Draws sg) : Stirs ⟨[true, false], runS 4 [true, false] (exb (stirB nm sg))⟩ := by
  refine ⟨rfl, fun n d xs tok hn hp => ?_⟩
  obtain ⟨ys, d', p, tok', h⟩ := stir_loop (nm := nm) hd xs.length n 4096 d (.lst xs) xs [] rfl (by omega) tok hn (by simp; omega) hp
  refine ⟨ys, d', p, ?_, tok'⟩
  have b1 : ((2 : Nat) != 3) = true := rfl
  refine runS_rt (n := 4) (ds := [d, .lst xs]) (b := exb (stirB nm sg)) (ms := [true, false]) (o := [d']) (S := [.io d', .sh (.lst xs), .ow (.lst []), .no]) rfl ?_ rfl
  have e0 : slotsOf 4 [true, false] [d, .lst xs] = [.io d, .sh (.lst xs), .no, .no] := rfl
  rw [e0]
  unfold stirB
  refine (exb_nx (S1 := [.io d, .sh (.lst xs), .ow (.lst xs), .ow (.lst [])]) ?_).trans ((exb_wh h).trans (exb_rt ?_))
  · simp only [Q.b_ok, Q.b_ex, Q.b_bd, Q.t_ok, Q.t_ex, Q.t_bd, Q.s_nx, Q.s_rt, Q.s_bk, Q.s_ct, Q.s_ex, Q.s_bd, Q.p_sm, Q.p_no, Q.r_sh, Q.r_l, Q.r_t, Q.r_d, Q.w_sh, Q.w_fr, Q.w_br, Q.d_sh, Q.d_fr, Q.d_br, Q.a_sh, Q.a_ow, Q.a_io, Q.a_lk, Q.m_ow, Q.m_io, Q.m_sh, Q.h_sh, Q.h_fr, Q.h_br, Q.c_sh, Q.c_fr, Q.c_br, Q.v_sh, Q.v_fr, Q.e_val, Q.e_tst, Q.e_io, Q.e_md, Q.kC', Q.kV', Q.kU', Q.kB', Q.kP0, Q.kP1, Q.kS', Q.kT', Q.kCh', Q.bl_s, Q.kVa, Q.kN', Q.kI', Q.kIT, Q.kAV, Q.kAT, Q.kSh, Q.kNl, Q.kCo, Q.kVw', Q.kSt, Q.kTu, Q.kLs, Q.kBi', Q.dr_n, Q.dr_c, Q.kMm', Q.kMt, Q.kMf, Q.kCa, Q.kCk, Q.cs, Q.av_n, Q.av_s, Q.av_i, Q.ai_n, Q.ai_s, Q.ai_i, Q.io_s, Q.io_i, Q.st_n, Q.st_c, Q.mu_l, Q.mu_d, Q.mu_o, Q.sa, Q.fa, Q.f_no, Q.f_sh, Q.f_ow, Q.bv, Q.ag_n, Q.ag_t, Q.an, Q.at_, Q.as_n, Q.as_c, Q.pv, Q.rt_s, Q.rt_f, Q.rt_b, Q.kIv, Q.kYs, Q.os_n, Q.os_t, Q.os_f, Q.is_t, Q.is_f, Q.is_n, Q.rs, Q.so, Q.l_int, Q.le_int, Q.g_int, Q.ge_int, Q.eq_d, Q.ne_d, Q.is_non, Q.bo', Q.tr_b, Q.tr_i, Q.tr_l, Q.ad_i, Q.sb_i, Q.ml_i, Q.fd_i, Q.md_i, Q.pw_i, Q.ad_l, Q.su_l, Q.su_t, Q.bi1', Q.i_i, Q.i_b, Q.ab_i, Q.le_l, Q.le_t, Q.li_l, Q.tu_l, Q.ng_i, Q.sx_l, Q.bm_s, exb, exs, evc, evl, evi, List.getElem?_cons_zero, List.getElem?_cons_succ, List.getElem?_nil, List.set_cons_zero, List.set_cons_succ, List.length_cons, List.length_nil, Option.bind_some, Option.bind_none, Option.map_some, Option.map_none, List.map_cons, List.map_nil, List.replicate_zero, List.replicate_succ, List.append_nil, List.cons_append, List.nil_append, Bool.not_true, Bool.not_false, Bool.false_eq_true, if_true, if_false, ite_true, ite_false, Option.isSome_some, Option.isSome_none, Bool.and_true, Bool.true_and, Bool.and_false, Bool.false_and, Bool.or_true, Bool.true_or, Bool.or_false, Bool.false_or, Nat.reduceAdd, Nat.reduceSub, Nat.sub_self, Nat.add_zero, Nat.zero_add, Nat.reduceLT, Nat.reduceLeDiff, reduceCtorEq, List.nodup_nil, List.nodup_cons, List.not_mem_nil, not_false_eq_true, and_self, and_true, true_and, decide_true, decide_false, List.tail_cons, List.headD_cons, CE.isNoe, CL.len, Bool.true_eq_false, Int.reduceLT, Int.reduceLE, Int.reduceToNat, reduceIte, sizeLine_pos, b1]
  · simp only [Q.b_ok, Q.b_ex, Q.b_bd, Q.t_ok, Q.t_ex, Q.t_bd, Q.s_nx, Q.s_rt, Q.s_bk, Q.s_ct, Q.s_ex, Q.s_bd, Q.p_sm, Q.p_no, Q.r_sh, Q.r_l, Q.r_t, Q.r_d, Q.w_sh, Q.w_fr, Q.w_br, Q.d_sh, Q.d_fr, Q.d_br, Q.a_sh, Q.a_ow, Q.a_io, Q.a_lk, Q.m_ow, Q.m_io, Q.m_sh, Q.h_sh, Q.h_fr, Q.h_br, Q.c_sh, Q.c_fr, Q.c_br, Q.v_sh, Q.v_fr, Q.e_val, Q.e_tst, Q.e_io, Q.e_md, Q.kC', Q.kV', Q.kU', Q.kB', Q.kP0, Q.kP1, Q.kS', Q.kT', Q.kCh', Q.bl_s, Q.kVa, Q.kN', Q.kI', Q.kIT, Q.kAV, Q.kAT, Q.kSh, Q.kNl, Q.kCo, Q.kVw', Q.kSt, Q.kTu, Q.kLs, Q.kBi', Q.dr_n, Q.dr_c, Q.kMm', Q.kMt, Q.kMf, Q.kCa, Q.kCk, Q.cs, Q.av_n, Q.av_s, Q.av_i, Q.ai_n, Q.ai_s, Q.ai_i, Q.io_s, Q.io_i, Q.st_n, Q.st_c, Q.mu_l, Q.mu_d, Q.mu_o, Q.sa, Q.fa, Q.f_no, Q.f_sh, Q.f_ow, Q.bv, Q.ag_n, Q.ag_t, Q.an, Q.at_, Q.as_n, Q.as_c, Q.pv, Q.rt_s, Q.rt_f, Q.rt_b, Q.kIv, Q.kYs, Q.os_n, Q.os_t, Q.os_f, Q.is_t, Q.is_f, Q.is_n, Q.rs, Q.so, Q.l_int, Q.le_int, Q.g_int, Q.ge_int, Q.eq_d, Q.ne_d, Q.is_non, Q.bo', Q.tr_b, Q.tr_i, Q.tr_l, Q.ad_i, Q.sb_i, Q.ml_i, Q.fd_i, Q.md_i, Q.pw_i, Q.ad_l, Q.su_l, Q.su_t, Q.bi1', Q.i_i, Q.i_b, Q.ab_i, Q.le_l, Q.le_t, Q.li_l, Q.tu_l, Q.ng_i, Q.sx_l, Q.bm_s, exb, exs, evc, evl, evi, List.getElem?_cons_zero, List.getElem?_cons_succ, List.getElem?_nil, List.set_cons_zero, List.set_cons_succ, List.length_cons, List.length_nil, Option.bind_some, Option.bind_none, Option.map_some, Option.map_none, List.map_cons, List.map_nil, List.replicate_zero, List.replicate_succ, List.append_nil, List.cons_append, List.nil_append, Bool.not_true, Bool.not_false, Bool.false_eq_true, if_true, if_false, ite_true, ite_false, Option.isSome_some, Option.isSome_none, Bool.and_true, Bool.true_and, Bool.and_false, Bool.false_and, Bool.or_true, Bool.true_or, Bool.or_false, Bool.false_or, Nat.reduceAdd, Nat.reduceSub, Nat.sub_self, Nat.add_zero, Nat.zero_add, Nat.reduceLT, Nat.reduceLeDiff, reduceCtorEq, List.nodup_nil, List.nodup_cons, List.not_mem_nil, not_false_eq_true, and_self, and_true, true_and, decide_true, decide_false, List.tail_cons, List.headD_cons, CE.isNoe, CL.len, Bool.true_eq_false, Int.reduceLT, Int.reduceLE, Int.reduceToNat, reduceIte, sizeLine_pos, b1]
/-! ### comprehensions that only look -/
theorem loopC_map {step : D → SS → R (Option D)} {S : SS} {f : D → D} : ∀ {xs acc : List D}, (∀ x ∈ xs, step x S = .ok (some (f x)) S) → acc.length + xs.length ≤ 4000 → loopC step xs acc S = .ok (acc ++ xs.map f) S
  | [], acc, _, _ => by rw [loopC, List.map_nil, List.append_nil]
  | x :: xs, acc, h, hl => by
    have hl' : acc.length + (xs.length + 1) ≤ 4000 := hl
    rw [loopC, h x (by simp)]
    simp only [Q.b_ok]
    rw [if_pos (sizeLine_big (by omega)), loopC_map (fun y hy => h y (by simp [hy])) (by simp; omega), List.map_cons, List.append_assoc]
    rfl
theorem kComp_map {elt : KE} {tg : Tg} {it : SS → R (List D × Option Nat)} {ifs : KT} {own : List Nat} {S S1 : SS} {xs : List D} {u : Option Nat} {f : D → D} (hi : it S = .ok (xs, u) S1) (h : ∀ x ∈ xs, turnC elt tg ifs own x S1 = .ok (some (f x)) S1) (hl : xs.length ≤ 4000) :
    kComp elt tg it ifs own S = .ok (.fr (.lst (xs.map f))) (unlock S1 u) := by
  unfold kComp
  rw [hi]
  simp only [Q.b_ok]
  rw [loopC_map (f := f) h (by simp; omega)]
  rfl
theorem allB_map (g : D → Bool) : ∀ xs : List D, allB (xs.map fun x => .bl (g x)) = some (xs.map g)
  | [] => rfl
  | x :: xs => by rw [List.map_cons, List.map_cons, allB, allB_map g xs]; rfl
theorem allI_ints : ∀ ns : List Int, allI (ns.map D.int) = some ns
  | [] => rfl
  | n :: ns => by rw [List.map_cons, allI, allI_ints ns]; rfl
theorem eq_ii {i j : Int} : eqD (.int i) (.int j) = some (i == j) := rfl
/-- the tub at the start -/
def tubB (k : Int) : CB := (.cons (.ret (.lst (.cons (.comp (.bi .int (.cons (.var 1) .nil)) (.nm 1) (.val (.slc (.var 0) .noe (.int k))) .nil [1]) (.cons (.int 0) (.cons (.int 0) .nil)))))
  .nil)
def MakesTub (sg : FSig) : Prop := sg.md = [false] ∧ ∀ ns : List Int, ns.length ≤ 4000 → ∃ c, sg.m [.scr (ns.map D.int)] = .ok true (Tub c 0 0) []
theorem cutD_map (ns : List Int) (l h : Option Int) : ∃ c : List Int, cutD (ns.map D.int) l h = c.map D.int ∧ c.length ≤ ns.length := by
  unfold cutD
  exact ⟨(ns.drop (HT.sIx (ns.map D.int).length 0 l)).take (HT.sIx (ns.map D.int).length (ns.map D.int).length h - HT.sIx (ns.map D.int).length 0 l), by rw [List.map_take, List.map_drop], by rw [List.length_take, List.length_drop]; omega⟩
theorem sizeLine3 : (3 ≤ sizeLine) = True := eq_true (by rw [sizeLine_eq]; decide)
theorem tub_of {k : Int} : MakesTub ⟨[false], runS 2 [false] (exb (tubB k))⟩ := by
  refine ⟨rfl, fun ns hn => ?_⟩
  obtain ⟨c, hc, hcl⟩ := cutD_map ns none (some k)
  refine ⟨c, ?_⟩
  have hs : slcD none (some k) (.scr (ns.map D.int)) = some (.nw (.lst (c.map D.int))) := by rw [← hc]; rfl
  have hi : evi (.val (.slc (.var 0) .noe (.int k))) [.sh (.scr (ns.map D.int)), .no] = .ok (c.map D.int, none) [.sh (.scr (ns.map D.int)), .no] := by
    simp only [Q.b_ok, Q.b_ex, Q.b_bd, Q.t_ok, Q.t_ex, Q.t_bd, Q.s_nx, Q.s_rt, Q.s_bk, Q.s_ct, Q.s_ex, Q.s_bd, Q.p_sm, Q.p_no, Q.r_sh, Q.r_l, Q.r_t, Q.r_d, Q.w_sh, Q.w_fr, Q.w_br, Q.d_sh, Q.d_fr, Q.d_br, Q.a_sh, Q.a_ow, Q.a_io, Q.a_lk, Q.m_ow, Q.m_io, Q.m_sh, Q.h_sh, Q.h_fr, Q.h_br, Q.c_sh, Q.c_fr, Q.c_br, Q.v_sh, Q.v_fr, Q.e_val, Q.e_tst, Q.e_io, Q.e_md, Q.kC', Q.kV', Q.kU', Q.kB', Q.kP0, Q.kP1, Q.kS', Q.kT', Q.kCh', Q.bl_s, Q.kVa, Q.kN', Q.kI', Q.kIT, Q.kAV, Q.kAT, Q.kSh, Q.kNl, Q.kCo, Q.kVw', Q.kSt, Q.kTu, Q.kLs, Q.kBi', Q.dr_n, Q.dr_c, Q.kMm', Q.kMt, Q.kMf, Q.kCa, Q.kCk, Q.cs, Q.av_n, Q.av_s, Q.av_i, Q.ai_n, Q.ai_s, Q.ai_i, Q.io_s, Q.io_i, Q.st_n, Q.st_c, Q.mu_l, Q.mu_d, Q.mu_o, Q.sa, Q.fa, Q.f_no, Q.f_sh, Q.f_ow, Q.bv, Q.ag_n, Q.ag_t, Q.an, Q.at_, Q.as_n, Q.as_c, Q.pv, Q.rt_s, Q.rt_f, Q.rt_b, Q.kIv, Q.kYs, Q.os_n, Q.os_t, Q.os_f, Q.is_t, Q.is_f, Q.is_n, Q.rs, Q.so, Q.l_int, Q.le_int, Q.g_int, Q.ge_int, Q.eq_d, Q.ne_d, Q.is_non, Q.bo', Q.tr_b, Q.tr_i, Q.tr_l, Q.ad_i, Q.sb_i, Q.ml_i, Q.fd_i, Q.md_i, Q.pw_i, Q.ad_l, Q.su_l, Q.su_t, Q.bi1', Q.i_i, Q.i_b, Q.ab_i, Q.le_l, Q.le_t, Q.li_l, Q.tu_l, Q.ng_i, Q.sx_l, Q.bm_s, exb, exs, evc, evl, evi, List.getElem?_cons_zero, List.getElem?_cons_succ, List.getElem?_nil, List.set_cons_zero, List.set_cons_succ, List.length_cons, List.length_nil, Option.bind_some, Option.bind_none, Option.map_some, Option.map_none, List.map_cons, List.map_nil, List.replicate_zero, List.replicate_succ, List.append_nil, List.cons_append, List.nil_append, Bool.not_true, Bool.not_false, Bool.false_eq_true, if_true, if_false, ite_true, ite_false, Option.isSome_some, Option.isSome_none, Bool.and_true, Bool.true_and, Bool.and_false, Bool.false_and, Bool.or_true, Bool.true_or, Bool.or_false, Bool.false_or, Nat.reduceAdd, Nat.reduceSub, Nat.sub_self, Nat.add_zero, Nat.zero_add, Nat.reduceLT, Nat.reduceLeDiff, reduceCtorEq, List.nodup_nil, List.nodup_cons, List.not_mem_nil, not_false_eq_true, and_self, and_true, true_and, decide_true, decide_false, List.tail_cons, List.headD_cons, CE.isNoe, CL.len, Bool.true_eq_false, Int.reduceLT, Int.reduceLE, Int.reduceToNat, reduceIte, hs, itemsOf]
  have ht : ∀ x ∈ c.map D.int, turnC (evc (.bi .int (.cons (.var 1) .nil))).val (.nm 1) ((evl .nil).tn true) [1] x [.sh (.scr (ns.map D.int)), .no] = .ok (some (id x)) [.sh (.scr (ns.map D.int)), .no] := fun x hx => by
    obtain ⟨i, _, rfl⟩ := List.mem_map.mp hx
    unfold turnC
    simp only [Q.b_ok, Q.b_ex, Q.b_bd, Q.t_ok, Q.t_ex, Q.t_bd, Q.s_nx, Q.s_rt, Q.s_bk, Q.s_ct, Q.s_ex, Q.s_bd, Q.p_sm, Q.p_no, Q.r_sh, Q.r_l, Q.r_t, Q.r_d, Q.w_sh, Q.w_fr, Q.w_br, Q.d_sh, Q.d_fr, Q.d_br, Q.a_sh, Q.a_ow, Q.a_io, Q.a_lk, Q.m_ow, Q.m_io, Q.m_sh, Q.h_sh, Q.h_fr, Q.h_br, Q.c_sh, Q.c_fr, Q.c_br, Q.v_sh, Q.v_fr, Q.e_val, Q.e_tst, Q.e_io, Q.e_md, Q.kC', Q.kV', Q.kU', Q.kB', Q.kP0, Q.kP1, Q.kS', Q.kT', Q.kCh', Q.bl_s, Q.kVa, Q.kN', Q.kI', Q.kIT, Q.kAV, Q.kAT, Q.kSh, Q.kNl, Q.kCo, Q.kVw', Q.kSt, Q.kTu, Q.kLs, Q.kBi', Q.dr_n, Q.dr_c, Q.kMm', Q.kMt, Q.kMf, Q.kCa, Q.kCk, Q.cs, Q.av_n, Q.av_s, Q.av_i, Q.ai_n, Q.ai_s, Q.ai_i, Q.io_s, Q.io_i, Q.st_n, Q.st_c, Q.mu_l, Q.mu_d, Q.mu_o, Q.sa, Q.fa, Q.f_no, Q.f_sh, Q.f_ow, Q.bv, Q.ag_n, Q.ag_t, Q.an, Q.at_, Q.as_n, Q.as_c, Q.pv, Q.rt_s, Q.rt_f, Q.rt_b, Q.kIv, Q.kYs, Q.os_n, Q.os_t, Q.os_f, Q.is_t, Q.is_f, Q.is_n, Q.rs, Q.so, Q.l_int, Q.le_int, Q.g_int, Q.ge_int, Q.eq_d, Q.ne_d, Q.is_non, Q.bo', Q.tr_b, Q.tr_i, Q.tr_l, Q.ad_i, Q.sb_i, Q.ml_i, Q.fd_i, Q.md_i, Q.pw_i, Q.ad_l, Q.su_l, Q.su_t, Q.bi1', Q.i_i, Q.i_b, Q.ab_i, Q.le_l, Q.le_t, Q.li_l, Q.tu_l, Q.ng_i, Q.sx_l, Q.bm_s, exb, exs, evc, evl, evi, List.getElem?_cons_zero, List.getElem?_cons_succ, List.getElem?_nil, List.set_cons_zero, List.set_cons_succ, List.length_cons, List.length_nil, Option.bind_some, Option.bind_none, Option.map_some, Option.map_none, List.map_cons, List.map_nil, List.replicate_zero, List.replicate_succ, List.append_nil, List.cons_append, List.nil_append, Bool.not_true, Bool.not_false, Bool.false_eq_true, if_true, if_false, ite_true, ite_false, Option.isSome_some, Option.isSome_none, Bool.and_true, Bool.true_and, Bool.and_false, Bool.false_and, Bool.or_true, Bool.true_or, Bool.or_false, Bool.false_or, Nat.reduceAdd, Nat.reduceSub, Nat.sub_self, Nat.add_zero, Nat.zero_add, Nat.reduceLT, Nat.reduceLeDiff, reduceCtorEq, List.nodup_nil, List.nodup_cons, List.not_mem_nil, not_false_eq_true, and_self, and_true, true_and, decide_true, decide_false, List.tail_cons, List.headD_cons, CE.isNoe, CL.len, Bool.true_eq_false, Int.reduceLT, Int.reduceLE, Int.reduceToNat, reduceIte, wipeS, backS, Option.getD_some, id]
  have hk := kComp_map (elt := (evc (.bi .int (.cons (.var 1) .nil))).val) (tg := .nm 1) (ifs := (evl .nil).tn true) (own := [1]) hi ht (by rw [List.length_map]; omega)
  rw [List.map_id, show unlock [SV.sh (.scr (ns.map D.int)), .no] none = [.sh (.scr (ns.map D.int)), .no] from rfl] at hk
  have he : (evc (.comp (.bi .int (.cons (.var 1) .nil)) (.nm 1) (.val (.slc (.var 0) .noe (.int k))) .nil [1])).val [.sh (.scr (ns.map D.int)), .no] = .ok (.fr (.lst (c.map D.int))) [.sh (.scr (ns.map D.int)), .no] := hk
  refine runS_rt (n := 2) (ds := [.scr (ns.map D.int)]) (b := exb (tubB k)) (ms := [false]) (o := []) (S := [.sh (.scr (ns.map D.int)), .no]) rfl ?_ rfl
  have e0 : slotsOf 2 [false] [.scr (ns.map D.int)] = [.sh (.scr (ns.map D.int)), .no] := rfl
  rw [e0]
  unfold tubB
  refine exb_rt ?_
  have hl : (evl (.cons (.comp (.bi .int (.cons (.var 1) .nil)) (.nm 1) (.val (.slc (.var 0) .noe (.int k))) .nil [1]) (.cons (.int 0) (.cons (.int 0) .nil)))).sh [.sh (.scr (ns.map D.int)), .no] = .ok [.lst (c.map D.int), .int 0, .int 0] [.sh (.scr (ns.map D.int)), .no] := by
    show kCons (kShr (evc (.comp (.bi .int (.cons (.var 1) .nil)) (.nm 1) (.val (.slc (.var 0) .noe (.int k))) .nil [1])).val) (evl (.cons (.int 0) (.cons (.int 0) .nil))).sh _ = _
    simp only [Q.kCo, Q.kSh, he]
    simp only [Q.b_ok, Q.b_ex, Q.b_bd, Q.t_ok, Q.t_ex, Q.t_bd, Q.s_nx, Q.s_rt, Q.s_bk, Q.s_ct, Q.s_ex, Q.s_bd, Q.p_sm, Q.p_no, Q.r_sh, Q.r_l, Q.r_t, Q.r_d, Q.w_sh, Q.w_fr, Q.w_br, Q.d_sh, Q.d_fr, Q.d_br, Q.a_sh, Q.a_ow, Q.a_io, Q.a_lk, Q.m_ow, Q.m_io, Q.m_sh, Q.h_sh, Q.h_fr, Q.h_br, Q.c_sh, Q.c_fr, Q.c_br, Q.v_sh, Q.v_fr, Q.e_val, Q.e_tst, Q.e_io, Q.e_md, Q.kC', Q.kV', Q.kU', Q.kB', Q.kP0, Q.kP1, Q.kS', Q.kT', Q.kCh', Q.bl_s, Q.kVa, Q.kN', Q.kI', Q.kIT, Q.kAV, Q.kAT, Q.kSh, Q.kNl, Q.kCo, Q.kVw', Q.kSt, Q.kTu, Q.kLs, Q.kBi', Q.dr_n, Q.dr_c, Q.kMm', Q.kMt, Q.kMf, Q.kCa, Q.kCk, Q.cs, Q.av_n, Q.av_s, Q.av_i, Q.ai_n, Q.ai_s, Q.ai_i, Q.io_s, Q.io_i, Q.st_n, Q.st_c, Q.mu_l, Q.mu_d, Q.mu_o, Q.sa, Q.fa, Q.f_no, Q.f_sh, Q.f_ow, Q.bv, Q.ag_n, Q.ag_t, Q.an, Q.at_, Q.as_n, Q.as_c, Q.pv, Q.rt_s, Q.rt_f, Q.rt_b, Q.kIv, Q.kYs, Q.os_n, Q.os_t, Q.os_f, Q.is_t, Q.is_f, Q.is_n, Q.rs, Q.so, Q.l_int, Q.le_int, Q.g_int, Q.ge_int, Q.eq_d, Q.ne_d, Q.is_non, Q.bo', Q.tr_b, Q.tr_i, Q.tr_l, Q.ad_i, Q.sb_i, Q.ml_i, Q.fd_i, Q.md_i, Q.pw_i, Q.ad_l, Q.su_l, Q.su_t, Q.bi1', Q.i_i, Q.i_b, Q.ab_i, Q.le_l, Q.le_t, Q.li_l, Q.tu_l, Q.ng_i, Q.sx_l, Q.bm_s, exb, exs, evc, evl, evi, List.getElem?_cons_zero, List.getElem?_cons_succ, List.getElem?_nil, List.set_cons_zero, List.set_cons_succ, List.length_cons, List.length_nil, Option.bind_some, Option.bind_none, Option.map_some, Option.map_none, List.map_cons, List.map_nil, List.replicate_zero, List.replicate_succ, List.append_nil, List.cons_append, List.nil_append, Bool.not_true, Bool.not_false, Bool.false_eq_true, if_true, if_false, ite_true, ite_false, Option.isSome_some, Option.isSome_none, Bool.and_true, Bool.true_and, Bool.and_false, Bool.false_and, Bool.or_true, Bool.true_or, Bool.or_false, Bool.false_or, Nat.reduceAdd, Nat.reduceSub, Nat.sub_self, Nat.add_zero, Nat.zero_add, Nat.reduceLT, Nat.reduceLeDiff, reduceCtorEq, List.nodup_nil, List.nodup_cons, List.not_mem_nil, not_false_eq_true, and_self, and_true, true_and, decide_true, decide_false, List.tail_cons, List.headD_cons, CE.isNoe, CL.len, Bool.true_eq_false, Int.reduceLT, Int.reduceLE, Int.reduceToNat, reduceIte, sizeLine_pos]
  show (kLst (evl (.cons (.comp (.bi .int (.cons (.var 1) .nil)) (.nm 1) (.val (.slc (.var 0) .noe (.int k))) .nil [1]) (.cons (.int 0) (.cons (.int 0) .nil)))).sh [.sh (.scr (ns.map D.int)), .no]).toF _ = _
  simp only [Q.kLs, hl]
  simp only [Q.b_ok, Q.b_ex, Q.b_bd, Q.t_ok, Q.t_ex, Q.t_bd, Q.s_nx, Q.s_rt, Q.s_bk, Q.s_ct, Q.s_ex, Q.s_bd, Q.p_sm, Q.p_no, Q.r_sh, Q.r_l, Q.r_t, Q.r_d, Q.w_sh, Q.w_fr, Q.w_br, Q.d_sh, Q.d_fr, Q.d_br, Q.a_sh, Q.a_ow, Q.a_io, Q.a_lk, Q.m_ow, Q.m_io, Q.m_sh, Q.h_sh, Q.h_fr, Q.h_br, Q.c_sh, Q.c_fr, Q.c_br, Q.v_sh, Q.v_fr, Q.e_val, Q.e_tst, Q.e_io, Q.e_md, Q.kC', Q.kV', Q.kU', Q.kB', Q.kP0, Q.kP1, Q.kS', Q.kT', Q.kCh', Q.bl_s, Q.kVa, Q.kN', Q.kI', Q.kIT, Q.kAV, Q.kAT, Q.kSh, Q.kNl, Q.kCo, Q.kVw', Q.kSt, Q.kTu, Q.kLs, Q.kBi', Q.dr_n, Q.dr_c, Q.kMm', Q.kMt, Q.kMf, Q.kCa, Q.kCk, Q.cs, Q.av_n, Q.av_s, Q.av_i, Q.ai_n, Q.ai_s, Q.ai_i, Q.io_s, Q.io_i, Q.st_n, Q.st_c, Q.mu_l, Q.mu_d, Q.mu_o, Q.sa, Q.fa, Q.f_no, Q.f_sh, Q.f_ow, Q.bv, Q.ag_n, Q.ag_t, Q.an, Q.at_, Q.as_n, Q.as_c, Q.pv, Q.rt_s, Q.rt_f, Q.rt_b, Q.kIv, Q.kYs, Q.os_n, Q.os_t, Q.os_f, Q.is_t, Q.is_f, Q.is_n, Q.rs, Q.so, Q.l_int, Q.le_int, Q.g_int, Q.ge_int, Q.eq_d, Q.ne_d, Q.is_non, Q.bo', Q.tr_b, Q.tr_i, Q.tr_l, Q.ad_i, Q.sb_i, Q.ml_i, Q.fd_i, Q.md_i, Q.pw_i, Q.ad_l, Q.su_l, Q.su_t, Q.bi1', Q.i_i, Q.i_b, Q.ab_i, Q.le_l, Q.le_t, Q.li_l, Q.tu_l, Q.ng_i, Q.sx_l, Q.bm_s, exb, exs, evc, evl, evi, List.getElem?_cons_zero, List.getElem?_cons_succ, List.getElem?_nil, List.set_cons_zero, List.set_cons_succ, List.length_cons, List.length_nil, Option.bind_some, Option.bind_none, Option.map_some, Option.map_none, List.map_cons, List.map_nil, List.replicate_zero, List.replicate_succ, List.append_nil, List.cons_append, List.nil_append, Bool.not_true, Bool.not_false, Bool.false_eq_true, if_true, if_false, ite_true, ite_false, Option.isSome_some, Option.isSome_none, Bool.and_true, Bool.true_and, Bool.and_false, Bool.false_and, Bool.or_true, Bool.true_or, Bool.or_false, Bool.false_or, Nat.reduceAdd, Nat.reduceSub, Nat.sub_self, Nat.add_zero, Nat.zero_add, Nat.reduceLT, Nat.reduceLeDiff, reduceCtorEq, List.nodup_nil, List.nodup_cons, List.not_mem_nil, not_false_eq_true, and_self, and_true, true_and, decide_true, decide_false, List.tail_cons, List.headD_cons, CE.isNoe, CL.len, Bool.true_eq_false, Int.reduceLT, Int.reduceLE, Int.reduceToNat, reduceIte, sizeLine3]
  rfl
end Eng

namespace Eng
open PySem PySem.Spec
open PyProof.Rows hiding St
/-! ### loops -/
theorem rangeD_cons (lo : Int) : ∀ n : Nat, rangeD lo (n + 1) = .int lo :: rangeD (lo + 1) n
  | 0 => by simp [rangeD]
  | n + 1 => by
    rw [rangeD, rangeD_cons lo n, List.cons_append, rangeD]
    congr 3
    push_cast
    simp only [D.int.injEq]
    omega
theorem rangeD_len (lo : Int) : ∀ n : Nat, (rangeD lo n).length = n
  | 0 => rfl
  | n + 1 => by rw [rangeD, List.length_append, rangeD_len lo n]; rfl
theorem rangeD_map (lo : Int) : ∀ n : Nat, rangeD lo n = ((List.range n).map fun (k : Nat) => lo + (k : Int)).map D.int
  | 0 => rfl
  | n + 1 => by rw [rangeD, rangeD_map lo n, List.range_succ]; simp
/-- for i in range(lo, lo + n): an invariant, or a return on the way -/
theorem for_range {tg : Tg} {b : SS → F} {I : Nat → SS → Prop} {R : F → Prop} {lo : Int} : ∀ (n k : Nat) {S : SS}, I k S →
    (∀ j S, k ≤ j → j < k + n → I j S → ∃ S1, assign tg (.int (lo + j)) S = some S1 ∧ ((∃ S2, b S1 = .nx S2 ∧ I (j + 1) S2) ∨ (∃ fr d S2, b S1 = .rt fr d S2 ∧ R (.rt fr d S2)))) →
    (∃ S', forF tg b (rangeD (lo + k) n) S = .nx S' ∧ I (k + n) S') ∨ (∃ fr d S2, forF tg b (rangeD (lo + k) n) S = .rt fr d S2 ∧ R (.rt fr d S2))
  | 0, k, S, h, _ => .inl ⟨S, rfl, h⟩
  | n + 1, k, S, h, st => by
    rw [rangeD_cons]
    obtain ⟨S1, h1, h2⟩ := st k S (Nat.le_refl _) (by omega) h
    show (∃ S', (match assign tg (.int (lo + k)) S with | none => F.bad | some S1 => (match b S1 with | .nx S2 => forF tg b (rangeD (lo + k + 1) n) S2 | .ct S2 => forF tg b (rangeD (lo + k + 1) n) S2 | .bk S2 => .nx S2 | r => r)) = .nx S' ∧ _) ∨ (∃ fr d S2, (match assign tg (.int (lo + k)) S with | none => F.bad | some S1 => (match b S1 with | .nx S2 => forF tg b (rangeD (lo + k + 1) n) S2 | .ct S2 => forF tg b (rangeD (lo + k + 1) n) S2 | .bk S2 => .nx S2 | r => r)) = .rt fr d S2 ∧ _)
    rw [h1]
    simp only
    rcases h2 with ⟨S2, e, i⟩ | ⟨fr, d, S2, e, r⟩
    · rw [e]
      simp only
      have := for_range (lo := lo) n (k + 1) i fun j S a b' => st j S (by omega) (by omega)
      have e2 : lo + ((k + 1 : Nat) : Int) = lo + k + 1 := by push_cast; omega
      rw [e2, show k + 1 + n = k + (n + 1) by omega] at this
      exact this
    · rw [e]
      exact .inr ⟨fr, d, S2, rfl, r⟩
theorem for_nx {tg : Tg} {b : SS → F} {x : D} {xs : List D} {S S1 S2 : SS} (h1 : assign tg x S = some S1) (h2 : b S1 = .nx S2) : forF tg b (x :: xs) S = forF tg b xs S2 := by
  show (match assign tg x S with | none => F.bad | some S1 => _) = _
  rw [h1]
  simp only
  rw [h2]
theorem exs_for {tg : Tg} {it : CI} {b : CB} {S S1 S2 : SS} {xs : List D} {u : Option Nat} (h1 : evi it S = .ok (xs, u) S1) (h2 : forF tg (exb b) xs S1 = .nx S2) : exs (.for_ tg it b) S = .nx (unlock S2 u) := by
  rw [exs, h1]
  show unlockF u (forF tg (exb b) xs S1) = _
  rw [h2]; rfl
theorem exs_for_rt {tg : Tg} {it : CI} {b : CB} {S S1 S2 : SS} {xs : List D} {u : Option Nat} {fr : Bool} {d : D} (h1 : evi it S = .ok (xs, u) S1) (h2 : forF tg (exb b) xs S1 = .rt fr d S2) : exs (.for_ tg it b) S = .rt fr d S2 := by
  rw [exs, h1]
  show unlockF u (forF tg (exb b) xs S1) = _
  rw [h2]; rfl
/-- a comprehension whose turns draw: J tells of the slots -/
theorem loopC_inv {step : D → SS → R (Option D)} {J : Nat → SS → Prop} {Q : D → Prop} : ∀ (xs acc : List D) (k : Nat) {S : SS}, J k S → acc.length + xs.length ≤ 4000 → (∀ d ∈ acc, Q d) →
    (∀ x ∈ xs, ∀ j S, k ≤ j → j < k + xs.length → J j S → ∃ y S1, step x S = .ok (some y) S1 ∧ Q y ∧ J (j + 1) S1) → ∃ ys S1, loopC step xs acc S = .ok ys S1 ∧ ys.length = acc.length + xs.length ∧ (∀ d ∈ ys, Q d) ∧ J (k + xs.length) S1
  | [], acc, k, S, h, _, ha, _ => ⟨acc, S, rfl, rfl, ha, h⟩
  | x :: xs, acc, k, S, h, hl, ha, st => by
    have hl : acc.length + (xs.length + 1) ≤ 4000 := hl
    obtain ⟨y, S1, e, q, j⟩ := st x (.head _) k S (Nat.le_refl _) (by simp <;> omega) h
    obtain ⟨ys, S2, e2, l2, q2, j2⟩ := loopC_inv xs (acc ++ [y]) (k + 1) j (by rw [List.length_append]; simp <;> omega) (fun d hd => by
      rcases List.mem_append.mp hd with m | m
      · exact ha d m
      · rw [List.mem_singleton] at m; rw [m]; exact q) fun z hz i S a b => st z (.tail _ hz) i S (by omega) (by simp <;> omega)
    refine ⟨ys, S2, ?_, ?_, q2, ?_⟩
    · show (step x S).bind _ = _
      rw [e]
      show (if acc.length < sizeLine then loopC step xs (acc ++ [y]) S1 else .bad) = _
      rw [if_pos (sizeLine_big (by omega)), e2]
    · rw [l2, List.length_append]; simp <;> omega
    · rw [show k + (x :: xs).length = k + 1 + xs.length by simp <;> omega]; exact j2
theorem rngOk_of {i j : Int} (h1 : -(2 ^ 62) ≤ i) (h2 : i < 2 ^ 62) (h3 : -(2 ^ 62) ≤ j) (h4 : j < 2 ^ 62) : rngOk i j = true := by
  unfold rngOk; simp only [Bool.and_eq_true, decide_eq_true_eq]; exact ⟨⟨⟨h1, h2⟩, h3⟩, h4⟩
theorem rng1_of {a : CE} {S S1 : SS} {j : Int} {n : Nat} (ha : (evc a).val S = .ok (.sh (.int j)) S1) (h1 : -(2 ^ 62) ≤ j) (h2 : j < 2 ^ 62) (hn : j.toNat = n) : evi (.rng1 a) S = .ok (rangeD 0 n, none) S1 := by
  show ((evc a).val S).bind _ = _
  rw [ha]
  show (if rngOk 0 j then R.ok (rangeD 0 j.toNat, none) S1 else .bad) = _
  rw [if_pos (rngOk_of (by omega) (by omega) h1 h2), hn]
theorem rng2_of {a b : CE} {S S1 S2 : SS} {i j : Int} {n : Nat} (ha : (evc a).val S = .ok (.sh (.int i)) S1) (hb : (evc b).val S1 = .ok (.sh (.int j)) S2) (h1 : -(2 ^ 62) ≤ i) (h2 : i < 2 ^ 62) (h3 : -(2 ^ 62) ≤ j) (h4 : j < 2 ^ 62) (hn : (j - i).toNat = n) : evi (.rng2 a b) S = .ok (rangeD i n, none) S2 := by
  show ((evc a).val S).bind _ = _
  rw [ha]
  show ((evc b).val S1).bind _ = _
  rw [hb]
  show (if rngOk i j then R.ok (rangeD i (j - i).toNat, none) S2 else .bad) = _
  rw [if_pos (rngOk_of h1 h2 h3 h4), hn]
theorem fd2 (L : Int) : binD .FloorDiv (.int L) (.int 2) = some (.sh (.int (L / 2))) := by
  have z : (decide (0 < (2 : Int)) && decide ((2 : Int).natAbs.log2 < 9000)) = true := by
    rw [decide_eq_true (show (0 : Int) < 2 by decide), decide_eq_true (log_small (show (0 : Int) < 2 by decide) (by decide))]
    rfl
  rw [Q.fd_i, if_pos z]
/-- a call with one shared argument -/
theorem call1 {x : Str} {sg : FSig} {e : CE} {S S1 : SS} {d r : D} {fr : Bool} (hm : sg.md = [false]) (he : kShr (evc e).val S = .ok d S1) (h : sg.m [d] = .ok fr r []) : (evc (.call x sg (.cons e .nil))).val S = .ok (if fr then .fr r else .sh r) S1 := by
  show ((evl (.cons e .nil)).md sg.md S).bind _ = _
  rw [hm]
  show ((kCons ((evc e).md false) kNil S).bind fun as S1 => callSem sg as S1) = _
  have e1 : kCons ((evc e).md false) kNil S = .ok [.sh d] S1 := by
    show (((kShr (evc e).val S).bind fun d S1 => R.ok (AV.sh d) S1).bind _) = _
    rw [he]; rfl
  rw [e1]
  show callSem sg [.sh d] S1 = _
  unfold callSem
  show (if ([] : List Nat).Nodup ∧ [false] = sg.md then (match sg.m [d] with | .ok fr d outs => _ | .exc e outs => _ | .bad => _) else _) = _
  rw [if_pos ⟨List.nodup_nil, hm.symm⟩, h]
  rfl
theorem call1_exc {x : Str} {sg : FSig} {e : CE} {S S1 : SS} {d r : D} (hm : sg.md = [false]) (he : kShr (evc e).val S = .ok d S1) (h : sg.m [d] = .exc r []) : (evc (.call x sg (.cons e .nil))).val S = .exc r S1 := by
  show ((evl (.cons e .nil)).md sg.md S).bind _ = _
  rw [hm]
  show ((kCons ((evc e).md false) kNil S).bind fun as S1 => callSem sg as S1) = _
  have e1 : kCons ((evc e).md false) kNil S = .ok [.sh d] S1 := by
    show (((kShr (evc e).val S).bind fun d S1 => R.ok (AV.sh d) S1).bind _) = _
    rw [he]; rfl
  rw [e1]
  show callSem sg [.sh d] S1 = _
  unfold callSem
  show (if ([] : List Nat).Nodup ∧ [false] = sg.md then (match sg.m [d] with | .ok fr d outs => _ | .exc e outs => _ | .bad => _) else _) = _
  rw [if_pos ⟨List.nodup_nil, hm.symm⟩, h]
  rfl
theorem call1_in {x : Str} {sg : FSig} {e : CE} {S S1 : SS} {r : D} (hm : sg.md = [false]) (he : (evc e).val S = .exc r S1) : (evc (.call x sg (.cons e .nil))).val S = .exc r S1 := by
  show ((evl (.cons e .nil)).md sg.md S).bind _ = _
  rw [hm]
  show ((kCons ((evc e).md false) kNil S).bind fun as S1 => callSem sg as S1) = _
  have e1 : kCons ((evc e).md false) kNil S = .exc r S1 := by
    show (((((evc e).val S).bind shr).bind fun d S1 => R.ok (AV.sh d) S1).bind _) = _
    rw [he]; rfl
  rw [e1]; rfl
/-- a draw: x(tub, m) -/
theorem call_tub {x : Str} {sg : FSig} {i : Nat} {e : CE} {S S1 S2 : SS} {d0 d d' m r : D} {fr : Bool} (hm : sg.md = [true, false]) (hi : (S[i]?).bind SV.mu = some d0) (he : kShr (evc e).val S = .ok m S1) (hi1 : (S1[i]?).bind SV.mu = some d) (h : sg.m [d, m] = .ok fr r [d']) (mu : MutD d' = true) (hs : setAt S1 i d' = some S2) : (evc (.call x sg (.cons (.var i) (.cons e .nil)))).val S = .ok (if fr then .fr r else .sh r) S2 := by
  show ((evl (.cons (.var i) (.cons e .nil))).md sg.md S).bind _ = _
  rw [hm]
  have e1 : kCons ((evc (.var i)).md true) (kCons ((evc e).md false) kNil) S = .ok [.io i, .sh m] S1 := by
    show (((if ((S[i]?).bind SV.mu).isSome then R.ok (AV.io i) S else .bad)).bind _) = _
    rw [hi]
    show ((kCons ((evc e).md false) kNil S).bind _) = _
    have e2 : kCons ((evc e).md false) kNil S = .ok [.sh m] S1 := by
      show (((kShr (evc e).val S).bind fun d S1 => R.ok (AV.sh d) S1).bind _) = _
      rw [he]; rfl
    rw [e2]; rfl
  show ((kCons ((evc (.var i)).md true) (kCons ((evc e).md false) kNil) S).bind fun as S1 => callSem sg as S1) = _
  rw [e1]
  show callSem sg [.io i, .sh m] S1 = _
  unfold callSem
  have e3 : avDs S1 [.io i, .sh m] = some [d, m] := by
    show (match (S1[i]?).bind SV.mu with | some d => _ | _ => none) = _
    rw [hi1]; rfl
  rw [e3]
  show (if ([i] : List Nat).Nodup ∧ [true, false] = sg.md then (match sg.m [d, m] with | .ok fr d outs => _ | .exc e outs => _ | .bad => _) else _) = _
  rw [if_pos ⟨by simp, hm.symm⟩, h]
  have e4 : setIos S1 [i] [d'] = some S2 := by
    show (if MutD d' = true then (setAt S1 i d').bind fun S' => setIos S' [] [] else none) = _
    rw [if_pos mu, hs]; rfl
  show (match setIos S1 [i] [d'] with | some S' => R.ok (if fr then RV.fr r else .sh r) S' | none => .bad) = _
  rw [e4]
/-- .. some of them kept -/
theorem loopC_opt {step : D → SS → R (Option D)} {J : Nat → SS → Prop} {Q : D → Prop} : ∀ (xs acc : List D) (k : Nat) {S : SS}, J k S → acc.length + xs.length ≤ 4000 → (∀ d ∈ acc, Q d) →
    (∀ x ∈ xs, ∀ j S, k ≤ j → j < k + xs.length → J j S → ∃ yo S1, step x S = .ok yo S1 ∧ (∀ y, yo = some y → Q y) ∧ J (j + 1) S1) → ∃ ys S1, loopC step xs acc S = .ok ys S1 ∧ ys.length ≤ acc.length + xs.length ∧ (∀ d ∈ ys, Q d) ∧ J (k + xs.length) S1
  | [], acc, k, S, h, _, ha, _ => ⟨acc, S, rfl, Nat.le_refl _, ha, h⟩
  | x :: xs, acc, k, S, h, hl, ha, st => by
    have hl : acc.length + (xs.length + 1) ≤ 4000 := hl
    obtain ⟨yo, S1, e, q, j⟩ := st x (.head _) k S (Nat.le_refl _) (by simp <;> omega) h
    have rest : ∀ acc', acc'.length ≤ acc.length + 1 → (∀ d ∈ acc', Q d) → ∃ ys S2, loopC step xs acc' S1 = .ok ys S2 ∧ ys.length ≤ acc'.length + xs.length ∧ (∀ d ∈ ys, Q d) ∧ J (k + 1 + xs.length) S2 := fun acc' la qa =>
      loopC_opt xs acc' (k + 1) j (by omega) qa fun z hz i S a b => st z (.tail _ hz) i S (by omega) (by simp <;> omega)
    cases yo with
    | none =>
      obtain ⟨ys, S2, e2, l2, q2, j2⟩ := rest acc (by omega) ha
      refine ⟨ys, S2, ?_, by simp <;> omega, q2, by rw [show k + (x :: xs).length = k + 1 + xs.length by simp <;> omega]; exact j2⟩
      show (step x S).bind _ = _
      rw [e]
      exact e2
    | some y =>
      obtain ⟨ys, S2, e2, l2, q2, j2⟩ := rest (acc ++ [y]) (by rw [List.length_append]; simp) (fun d hd => by
        rcases List.mem_append.mp hd with m | m
        · exact ha d m
        · rw [List.mem_singleton] at m; rw [m]; exact q y rfl)
      refine ⟨ys, S2, ?_, by rw [List.length_append] at l2; simp at l2 ⊢ <;> omega, q2, by rw [show k + (x :: xs).length = k + 1 + xs.length by simp <;> omega]; exact j2⟩
      show (step x S).bind _ = _
      rw [e]
      show (if acc.length < sizeLine then loopC step xs (acc ++ [y]) S1 else .bad) = _
      rw [if_pos (sizeLine_big (by omega))]
      exact e2
theorem comp_of {elt : CE} {tg : Tg} {it : CI} {ifs : CL} {own : List Nat} {S S1 S2 : SS} {xs ys : List D} {u : Option Nat} (hi : evi it S = .ok (xs, u) S1) (hl : loopC (turnC (evc elt).val tg ((evl ifs).tn true) own) xs [] S1 = .ok ys S2) : (evc (.comp elt tg it ifs own)).val S = .ok (.fr (.lst ys)) (unlock S2 u) := by
  show ((evi it S).bind fun xu S1 => ((loopC (turnC (evc elt).val tg ((evl ifs).tn true) own) xu.1 [] S1).bind fun ys S2 => R.ok (RV.fr (.lst ys)) (unlock S2 xu.2)).noexc) = _
  rw [hi]
  show ((loopC (turnC (evc elt).val tg ((evl ifs).tn true) own) xs [] S1).bind fun ys S2 => R.ok (RV.fr (.lst ys)) (unlock S2 u)).noexc = _
  rw [hl]
  rfl
/-- numbers from 0 on -/
def NN (d : D) : Prop := ∃ i, d = .int i ∧ 0 ≤ i
theorem nn_ws : ∀ {ys : List D}, (∀ y ∈ ys, NN y) → ∃ ws : List Int, ys = ws.map D.int ∧ (∀ i ∈ ws, 0 ≤ i)
  | [], _ => ⟨[], rfl, fun i h => by cases h⟩
  | y :: ys, h => by
    obtain ⟨i, rfl, hi⟩ := h y (.head _)
    obtain ⟨ws, rfl, hw⟩ := nn_ws (ys := ys) fun z hz => h z (.tail _ hz)
    refine ⟨i :: ws, rfl, fun j hj => ?_⟩
    rcases List.mem_cons.mp hj with rfl | hj
    · exact hi
    · exact hw j hj
theorem enum_mem : ∀ {ds : List D} {i : Nat} {x : D}, x ∈ enumD i ds → ∃ (k : Nat) (y : D), x = .tup [.int (k : Nat), y] ∧ i ≤ k ∧ ds[k - i]? = some y
  | [], _, _, h => by cases h
  | d :: ds, i, x, h => by
    rcases List.mem_cons.mp h with rfl | h
    · exact ⟨i, d, rfl, Nat.le_refl _, by simp⟩
    · obtain ⟨k, y, e, hk, hy⟩ := enum_mem h
      refine ⟨k, y, e, by omega, ?_⟩
      rw [show k - i = (k - (i + 1)) + 1 by omega, List.getElem?_cons_succ]; exact hy
theorem range_nn {n : Nat} : ∀ x ∈ rangeD 0 n, NN x := fun x hx => by
  rw [rangeD_map] at hx
  obtain ⟨i, hi, rfl⟩ := List.mem_map.mp hx
  obtain ⟨k, _, rfl⟩ := List.mem_map.mp hi
  exact ⟨_, rfl, by omega⟩
end Eng

namespace Eng
open PySem PySem.Spec
open PyProof.Rows hiding St
/-! ### rules of the evaluator, to be put together by hand -/
theorem shr_of {p : KE} {S S1 : SS} {d : D} (h : p S = .ok (.sh d) S1) : kShr p S = .ok d S1 := by
  show (p S).bind shr = _
  rw [h]; rfl
theorem add_i {a b : CE} {S S1 S2 : SS} {i j : Int} (ha : (evc a).val S = .ok (.sh (.int i)) S1) (hb : (evc b).val S1 = .ok (.sh (.int j)) S2) : (evc (.bin .Add a b)).val S = .ok (.sh (.int (i + j))) S2 := by
  show ((evc a).val S).bind _ = _
  rw [ha]
  show ((evc b).val S1).bind _ = _
  rw [hb]; rfl
theorem sub_i {a b : CE} {S S1 S2 : SS} {i j : Int} (ha : (evc a).val S = .ok (.sh (.int i)) S1) (hb : (evc b).val S1 = .ok (.sh (.int j)) S2) : (evc (.bin .Sub a b)).val S = .ok (.sh (.int (i - j))) S2 := by
  show ((evc a).val S).bind _ = _
  rw [ha]
  show ((evc b).val S1).bind _ = _
  rw [hb]; rfl
theorem eq0 {a : CE} {S S1 : SS} {i : Int} (ha : (evc a).val S = .ok (.sh (.int i)) S1) : (evc (.cmp .Eq a (.int 0))).tst S = .ok (i == 0) S1 := by
  show kTest (kBin (cmpD .Eq) (evc a).val (kC (.int 0))) S = _
  unfold kTest kBin
  rw [ha]; rfl
theorem ifs_t {c : CE} {a b : CB} {S S1 : SS} (h : (evc c).tst S = .ok true S1) : exs (.ifs c a b) S = exb a S1 := by
  rw [exs, h]; rfl
theorem ifs_f {c : CE} {a b : CB} {S S1 : SS} (h : (evc c).tst S = .ok false S1) : exs (.ifs c a b) S = exb b S1 := by
  rw [exs, h]; rfl
theorem asg_v {i : Nat} {e : CE} {S S1 : SS} {d : D} (h : (evc e).val S = .ok (.sh d) S1) (hf : freeAt S1 i = true) : exs (.asg (.nm i) e) S = .nx (S1.set i (.sh d)) := by
  rw [exs, h]
  show (if freeAt S1 i = true then _ else _) = _
  rw [if_pos hf]; rfl
theorem asg_l {i : Nat} {e : CE} {S S1 : SS} {d : D} (h : (evc e).val S = .ok (.fr d) S1) (hf : freeAt S1 i = true) : exs (.asg (.nm i) e) S = .nx (S1.set i (.ow d)) := by
  rw [exs, h]
  show (if freeAt S1 i = true then _ else _) = _
  rw [if_pos hf]; rfl
theorem int_NN {v : Int} (h : 0 ≤ v) : NN (.int v) := ⟨v, rfl, h⟩
theorem cut_mem {ds : List D} {l h : Option Int} {x : D} (hx : x ∈ cutD ds l h) : x ∈ ds := List.mem_of_mem_drop (List.mem_of_mem_take hx)
theorem cut_len (ds : List D) (l h : Option Int) : (cutD ds l h).length ≤ ds.length := by
  unfold cutD
  rw [List.length_take, List.length_drop]
  omega
theorem part_no {S : SS} : kPart CE.noe.isNoe (evc .noe).val S = .ok none S := rfl
theorem part_i {e : CE} {S S1 : SS} {i : Int} (hn : e.isNoe = false) (h : (evc e).val S = .ok (.sh (.int i)) S1) : kPart e.isNoe (evc e).val S = .ok (some i) S1 := by
  rw [hn]
  show ((evc e).val S).bind _ = _
  rw [h]; rfl
theorem slcL {a lo hi : CE} {S S1 S2 S3 : SS} {r : RV} {ds : List D} {l h : Option Int} (ha : (evc a).val S = .ok r S1) (hlo : kPart lo.isNoe (evc lo).val S1 = .ok l S2) (hhi : kPart hi.isNoe (evc hi).val S2 = .ok h S3) (hd : deref S3 r.vw = some (.lst ds)) :
    (evc (.slc a lo hi)).val S = .ok (.fr (.lst (cutD ds l h))) S3 := by
  show ((evc a).val S).bind _ = _
  rw [ha]
  show (kPart lo.isNoe (evc lo).val S1).bind _ = _
  rw [hlo]
  show (kPart hi.isNoe (evc hi).val S2).bind _ = _
  rw [hhi]
  show prim ((deref S3 r.vw).bind (slcD l h)) S3 = _
  rw [hd]; rfl
theorem addL {a b : CE} {S S1 S2 : SS} {xs ys : List D} {r t : RV} (ha : (evc a).val S = .ok r S1) (hb : (evc b).val S1 = .ok t S2) (h1 : deref S2 r.vw = some (.lst xs)) (h2 : deref S2 t.vw = some (.lst ys)) (hl : xs.length + ys.length ≤ 4000) :
    (evc (.bin .Add a b)).val S = .ok (.fr (.lst (xs ++ ys))) S2 := by
  show ((evc a).val S).bind _ = _
  rw [ha]
  show ((evc b).val S1).bind _ = _
  rw [hb]
  show prim ((deref S2 r.vw).bind fun d => (deref S2 t.vw).bind fun e => binD .Add d e) S2 = _
  rw [h1, h2]
  show prim (if xs.length + ys.length ≤ sizeLine then some (.nw (.lst (xs ++ ys))) else none) S2 = _
  rw [if_pos (Nat.le_of_lt (sizeLine_big (by omega)))]
  rfl
theorem app_nn {xs ys : List D} (h1 : ∀ y ∈ xs, NN y) (h2 : ∀ y ∈ ys, NN y) : ∀ y ∈ xs ++ ys, NN y := fun y h => (List.mem_append.mp h).elim (h1 y) (h2 y)
theorem strOk_app {a b : Str} (h1 : PyData.strOk a = true) (h2 : PyData.strOk b = true) : PyData.strOk (a ++ b) = true := by
  unfold PyData.strOk at *
  rw [Str.cps_append, Array.all_append, h1, h2]; rfl
theorem eq_str {p : Str} (h : PyData.strOk p = true) : eqD (.str p) (.str p) = some true := by
  show (if SeqAt.shaped (.str p) && SeqAt.shaped (.str p) then some (PyData.eqv (.str p) (.str p)) else none) = _
  have s : SeqAt.shaped (.str p) = true := by
    unfold SeqAt.shaped
    simp [PyData.canLay0, h, PyData.depth]
  rw [s]
  simp [PyData.eqv]
theorem call_io1 {x : Str} {sg : FSig} {i : Nat} {S S2 : SS} {d d' r : D} {fr : Bool} (hm : sg.md = [true]) (hi : (S[i]?).bind SV.mu = some d) (h : sg.m [d] = .ok fr r [d']) (mu : MutD d' = true) (hs : setAt S i d' = some S2) : (evc (.call x sg (.cons (.var i) .nil))).val S = .ok (if fr then .fr r else .sh r) S2 := by
  show ((evl (.cons (.var i) .nil)).md sg.md S).bind _ = _
  rw [hm]
  have e1 : kCons ((evc (.var i)).md true) kNil S = .ok [.io i] S := by
    show (((if ((S[i]?).bind SV.mu).isSome then R.ok (AV.io i) S else .bad)).bind _) = _
    rw [hi]; rfl
  show ((kCons ((evc (.var i)).md true) kNil S).bind fun as S1 => callSem sg as S1) = _
  rw [e1]
  show callSem sg [.io i] S = _
  unfold callSem
  have e3 : avDs S [.io i] = some [d] := by
    show (match (S[i]?).bind SV.mu with | some d => _ | _ => none) = _
    rw [hi]; rfl
  rw [e3]
  show (if ([i] : List Nat).Nodup ∧ [true] = sg.md then (match sg.m [d] with | .ok fr d outs => _ | .exc e outs => _ | .bad => _) else _) = _
  rw [if_pos ⟨by simp, hm.symm⟩, h]
  have e4 : setIos S [i] [d'] = some S2 := by
    show (if MutD d' = true then (setAt S i d').bind fun S' => setIos S' [] [] else none) = _
    rw [if_pos mu, hs]; rfl
  show (match setIos S [i] [d'] with | some S' => R.ok (if fr then RV.fr r else .sh r) S' | none => .bad) = _
  rw [e4]
theorem callk1 {x p : Str} {sg : FSig} {e : CE} {S S1 : SS} {d r : D} {fr : Bool} (hp : kwG [p] [p] [] [d] = [d]) (hm : sg.md = [false]) (he : kShr (evc e).val S = .ok d S1) (h : sg.m [d] = .ok fr r []) : (evc (.callk x [p] sg .nil [p] (.cons e .nil))).val S = .ok (if fr then .fr r else .sh r) S1 := by
  show (R.bind (.ok ([] : List D) S) fun ds S1 => (kCons (kShr (evc e).val) kNil S1).bind fun es S2 => if ds.length = 0 ∧ es.length = 1 then callSem sg ((kwG [p] [p] ds es).map .sh) S2 else .bad) = _
  show ((kCons (kShr (evc e).val) kNil S).bind fun es S2 => if ([] : List D).length = 0 ∧ es.length = 1 then callSem sg ((kwG [p] [p] [] es).map .sh) S2 else .bad) = _
  have e1 : kCons (kShr (evc e).val) kNil S = .ok [d] S1 := by
    show ((kShr (evc e).val S).bind _) = _
    rw [he]; rfl
  rw [e1]
  show (if ([] : List D).length = 0 ∧ [d].length = 1 then callSem sg ((kwG [p] [p] [] [d]).map .sh) S1 else .bad) = _
  rw [if_pos ⟨rfl, rfl⟩, hp]
  show callSem sg [.sh d] S1 = _
  unfold callSem
  show (if ([] : List Nat).Nodup ∧ [false] = sg.md then (match sg.m [d] with | .ok fr d outs => _ | .exc e outs => _ | .bad => _) else _) = _
  rw [if_pos ⟨List.nodup_nil, hm.symm⟩, h]
  rfl
theorem repr_of {e : CE} {S S1 : SS} {d : D} {p : Str} {r : RV} (h : (evc e).val S = .ok r S1) (hd : deref S1 r.vw = some d) (hp : bi1 .repr d = some (.sh (.str p))) : (evc (.bi .repr (.cons e .nil))).val S = .ok (.sh (.str p)) S1 := by
  show ((kCons (kVw (evc e).val) kNil S).bind _) = _
  have e1 : kCons (kVw (evc e).val) kNil S = .ok [r.vw] S1 := by
    show ((((evc e).val S).bind fun r S1 => R.ok r.vw S1).bind _) = _
    rw [h]; rfl
  rw [e1]
  show prim ((derefs S1 [r.vw]).bind (biD .repr)) S1 = _
  have e2 : derefs S1 [r.vw] = some [d] := by
    show (deref S1 r.vw).bind _ = _
    rw [hd]; rfl
  rw [e2]
  show prim (bi1 .repr d) S1 = _
  rw [hp]; rfl
theorem ne_str {a b : CE} {S S1 S2 : SS} {p : Str} (ha : (evc a).val S = .ok (.sh (.str p)) S1) (hb : (evc b).val S1 = .ok (.sh (.str p)) S2) (hp : eqD (.str p) (.str p) = some true) : (evc (.cmp .NotEq a b)).tst S = .ok false S2 := by
  show kTest (kBin (cmpD .NotEq) (evc a).val (evc b).val) S = _
  unfold kTest kBin
  rw [ha]
  show ((((evc b).val S1).bind _).bind _) = _
  rw [hb]
  show ((prim ((eqD (.str p) (.str p)).map fun b => bo (!b)) S2).bind _) = _
  rw [hp]; rfl
theorem isnot_t {a : CE} {S S1 : SS} (ha : (evc a).val S = .ok (.sh (.bl true)) S1) : (evc (.cmp .IsNot a (.bl true))).tst S = .ok false S1 := by
  show kTest (kBin (cmpD .IsNot) (evc a).val (kC (.bl true))) S = _
  unfold kTest kBin
  rw [ha]; rfl
theorem or_ff {a b : CE} {S S1 S2 : SS} (ha : (evc a).tst S = .ok false S1) (hb : (evc b).tst S1 = .ok false S2) : (evc (.or_ (.cons a (.cons b .nil)))).tst S = .ok false S2 := by
  show kAndT false (evc a).tst (evc b).tst S = _
  unfold kAndT
  rw [ha]
  exact hb
theorem ite_v {c a b : CE} {S S1 : SS} {k : Bool} (h : (evc c).tst S = .ok k S1) : (evc (.ite c a b)).val S = if k then (evc a).val S1 else (evc b).val S1 := by
  rw [evc]
  simp only [kIf, h]
  rfl
theorem and_tt {a b : CE} {S S1 S2 : SS} (ha : (evc a).val S = .ok (.sh (.bl true)) S1) (hb : (evc b).val S1 = .ok (.sh (.bl true)) S2) : (evc (.and_ (.cons a (.cons b .nil)))).val S = .ok (.sh (.bl true)) S2 := by
  show kAndV true (evc a).val (evc b).val S = _
  unfold kAndV
  rw [ha]
  exact hb
theorem is_f {a : CE} {S S1 : SS} (ha : (evc a).val S = .ok (.sh (.bl false)) S1) : (evc (.cmp .Is a (.bl false))).val S = .ok (.sh (.bl true)) S1 := by
  show kBin (cmpD .Is) (evc a).val (kC (.bl false)) S = _
  unfold kBin
  rw [ha]; rfl
theorem toPs_ints : ∀ ns : List Int, toPs (ns.map D.int) = some (ns.map PyData.int)
  | [] => rfl
  | n :: ns => by
    show (toP (.int n)).bind _ = _
    show (toPs (ns.map D.int)).map _ = _
    rw [toPs_ints ns]; rfl
theorem eqv_ints : ∀ xs ys : List Int, PyData.eqvAll (xs.map PyData.int) (ys.map PyData.int) = decide (xs = ys)
  | [], [] => by simp [PyData.eqvAll]
  | [], _ :: _ => by simp [PyData.eqvAll]
  | _ :: _, [] => by simp [PyData.eqvAll]
  | x :: xs, y :: ys => by
    simp only [List.map_cons, PyData.eqvAll, PyData.eqv, eqv_ints xs ys, List.cons.injEq, Bool.decide_and]
    congr 1
theorem eqD_ints (xs ys : List Int) : eqD (.lst (xs.map D.int)) (.lst (ys.map D.int)) = some (decide (xs = ys)) := by
  obtain ⟨p, q, h1, h2, h3⟩ := eqD_of (n := 41) (by decide) (PD.lst (ints_PD xs)) (PD.lst (ints_PD ys))
  rw [h3]
  have e1 : toP (.lst (xs.map D.int)) = some (.list (xs.map PyData.int)) := by show (toPs _).map _ = _; rw [toPs_ints]; rfl
  have e2 : toP (.lst (ys.map D.int)) = some (.list (ys.map PyData.int)) := by show (toPs _).map _ = _; rw [toPs_ints]; rfl
  rw [e1] at h1; rw [e2] at h2
  cases h1; cases h2
  rw [PyData.eqv, eqv_ints]
theorem cut_nat {ws : List Int} {i j : Nat} (h1 : i ≤ j) (h2 : j ≤ ws.length) : cutD (ws.map D.int) (some (i : Int)) (some (j : Int)) = ((ws.drop i).take (j - i)).map D.int := by
  unfold cutD
  rw [HT.sIx_nat, HT.sIx_nat, List.length_map, Nat.min_eq_left (show i ≤ ws.length by omega), Nat.min_eq_left h2, List.map_take, List.map_drop]
theorem len_l (ws : List Int) : bi1 .len (.lst (ws.map D.int)) = some (.sh (.int (ws.length : Nat))) := by rw [Q.le_l, List.length_map]
theorem allB_true : ∀ ns : List D, allB (ns.map fun _ => D.bl true) = some (ns.map fun _ => true)
  | [] => rfl
  | n :: ns => by
    show (allB (ns.map fun _ => D.bl true)).map _ = _
    rw [allB_true ns]; rfl
def sq (tp : Bool) (xs : List D) : D := if tp then .tup xs else .lst xs
theorem isSeq (tp : Bool) (xs : List D) : isTs [.list, .tuple] (sq tp xs) = some (bo true) := by cases tp <;> rfl
theorem tup_sq (tp : Bool) (xs : List D) : ∃ ro, bi1 .tuple (sq tp xs) = some ro ∧ ro.rv = .sh (.tup xs) := by
  cases tp
  · exact ⟨_, rfl, rfl⟩
  · exact ⟨_, rfl, rfl⟩
/-- a draw below the number that e tells; e may draw, too -/
theorem cast_at {cn : Str} {sg : FSig} (dr : Draws sg) {n : Nat} {d d1 : D} {rest rest1 : SS} {e : CE} {m : Int} (tok : TubOk n d1) (hn : n ≤ 4000) (hm : 0 < m) (hm2 : m < 2 ^ 40) (he : kShr (evc e).val (.io d :: rest) = .ok (.int m) (.io d1 :: rest1)) :
    ∃ v d', (evc (.call cn sg (.cons (.var 0) (.cons e .nil)))).val (.io d :: rest) = .ok (.sh (.int v)) (.io d' :: rest1) ∧ 0 ≤ v ∧ v < m ∧ TubOk (n + 1) d' := by
  obtain ⟨v, d', h, v0, v1, t⟩ := dr.2 n d1 m tok hn hm hm2
  exact ⟨v, d', call_tub (i := 0) (fr := false) dr.1 rfl he rfl h t.mu rfl, v0, v1, t⟩
theorem pick_at {pn : Str} {sg : FSig} (pk : Picks sg) {n : Nat} {d d1 : D} {rest rest1 : SS} {e : CE} {xs : List D} (tok : TubOk n d1) (hn : n ≤ 4000) (h0 : xs ≠ []) (h1 : xs.length < 2 ^ 40) (he : kShr (evc e).val (.io d :: rest) = .ok (.lst xs) (.io d1 :: rest1)) :
    ∃ x d', (evc (.call pn sg (.cons (.var 0) (.cons e .nil)))).val (.io d :: rest) = .ok (.sh x) (.io d' :: rest1) ∧ x ∈ xs ∧ TubOk (n + 1) d' := by
  obtain ⟨i, x, d', g, h, t⟩ := pk.2 n d1 xs tok hn h0 h1
  exact ⟨x, d', call_tub (i := 0) (fr := false) pk.1 rfl he rfl h t.mu rfl, List.mem_of_getElem? g, t⟩
end Eng

namespace LK47
open PySem PySem.Spec L2 Eng
open PyProof.Rows hiding St
def top (i : Nat) : Stmt := PySem.Challenge.pw_threelanes_k47_plain_words_without_a_rep.main.body.getD i (.Pass ⟨0, 0, 0, 0⟩)
def xs_BadNumber : XSig := ⟨["part"], [.lit "is none: ", .par 0]⟩
def xs_BadWord : XSig := ⟨["part"], [.lit "is none: ", .par 0]⟩
def otLaneError : OTy := ⟨"LaneError", 0, [], [], [1, 2], []⟩
def otBadNumber : OTy := ⟨"BadNumber", 1, [], [], [1], [2]⟩
def otBadWord : OTy := ⟨"BadWord", 2, [], [], [2], [1]⟩
abbrev s_is_integer : Stmt := top 5
def n_is_integer : List Str := ["value"]
def p_is_integer : List Str := ["value"]
def b_is_integer : CB := (.cons (.ret (.and_ (.cons (.isi (.var 0) [.int]) (.cons (.not (.isi (.var 0) [.bool])) .nil))))
  .nil)
def g_is_integer : FSig := ⟨[false], runS 1 [false] (exb b_is_integer)⟩
abbrev s_is_within : Stmt := top 6
def n_is_within : List Str := ["value", "least", "most"]
def p_is_within : List Str := ["value", "least", "most"]
def b_is_within : CB := (.cons (.ifs (.not (.call "is_integer" g_is_integer (.cons (.var 0) .nil))) (.cons (.ret (.bl false))
  .nil) .nil)
  (.cons (.ret (.and_ (.cons (.or_ (.cons (.cmp .Is (.var 1) .non) (.cons (.cmp .LtE (.var 1) (.var 0)) .nil))) (.cons (.or_ (.cons (.cmp .Is (.var 2) .non) (.cons (.cmp .LtE (.var 0) (.var 2)) .nil))) .nil))))
  .nil))
def g_is_within : FSig := ⟨[false, false, false], runS 3 [false, false, false] (exb b_is_within)⟩
abbrev s_need_number : Stmt := top 7
def n_need_number : List Str := ["value", "part", "least", "most"]
def p_need_number : List Str := ["value", "part", "least", "most"]
def b_need_number : CB := (.cons (.ifs (.not (.call "is_within" g_is_within (.cons (.var 0) (.cons (.var 2) (.cons (.var 3) .nil))))) (.cons (.rais 1 "BadNumber" xs_BadNumber (.cons (.var 1) .nil))
  .nil) .nil)
  .nil)
def g_need_number : FSig := ⟨[false, false, false, false], runS 4 [false, false, false, false] (exb b_need_number)⟩
abbrev s_is_word : Stmt := top 10
def n_is_word : List Str := ["value", "each"]
def p_is_word : List Str := ["value"]
def b_is_word : CB := (.cons (.ret (.and_ (.cons (.isi (.var 0) [.list, .tuple]) (.cons (.bi .all (.cons (.comp (.call "is_within" g_is_within (.cons (.var 1) (.cons (.int 0) (.cons .non .nil)))) (.nm 1) (.val (.var 0)) .nil [1]) .nil)) .nil))))
  .nil)
def g_is_word : FSig := ⟨[false], runS 2 [false] (exb b_is_word)⟩
abbrev s_need_word : Stmt := top 11
def n_need_word : List Str := ["value", "part"]
def p_need_word : List Str := ["value", "part"]
def b_need_word : CB := (.cons (.ifs (.not (.call "is_word" g_is_word (.cons (.var 0) .nil))) (.cons (.rais 2 "BadWord" xs_BadWord (.cons (.var 1) .nil))
  .nil) .nil)
  (.cons (.ret (.bi .tuple (.cons (.var 0) .nil)))
  .nil))
def g_need_word : FSig := ⟨[false, false], runS 2 [false, false] (exb b_need_word)⟩
abbrev s_least_repeat : Stmt := top 12
def n_least_repeat : List Str := ["word", "best", "half", "run", "at"]
def p_least_repeat : List Str := ["word"]
def b_least_repeat : CB := (.cons (.asg (.nm 1) .non)
  (.cons (.for_ (.nm 2) (.rng2 (.int 1) (.bin .Add (.bin .FloorDiv (.bi .len (.cons (.var 0) .nil)) (.int 2)) (.int 1))) (.cons (.asg (.nm 3) (.int 0))
  (.cons (.for_ (.nm 4) (.rng1 (.bin .Sub (.bi .len (.cons (.var 0) .nil)) (.var 2))) (.cons (.asg (.nm 3) (.ite (.cmp .Eq (.sub (.var 0) (.var 4)) (.sub (.var 0) (.bin .Add (.var 4) (.var 2)))) (.bin .Add (.var 3) (.int 1)) (.int 0)))
  (.cons (.ifs (.and_ (.cons (.cmp .Eq (.var 3) (.var 2)) (.cons (.or_ (.cons (.cmp .Is (.var 1) .non) (.cons (.cmp .Lt (.bin .Add (.bin .Sub (.var 4) (.var 2)) (.int 1)) (.sub (.var 1) (.int 0))) .nil))) .nil))) (.cons (.asg (.nm 1) (.tup (.cons (.bin .Add (.bin .Sub (.var 4) (.var 2)) (.int 1)) (.cons (.var 2) .nil))))
  .nil) .nil)
  .nil)))
  .nil)))
  (.cons (.ret (.var 1))
  .nil)))
def g_least_repeat : FSig := ⟨[false], runS 5 [false] (exb b_least_repeat)⟩
abbrev s_is_odd : Stmt := top 13
def n_is_odd : List Str := ["number", "odd"]
def p_is_odd : List Str := ["number"]
def b_is_odd : CB := (.cons (.asg (.nm 1) (.bl false))
  (.cons (.whl 4096 (.cmp .Gt (.var 0) (.int 0)) (.cons (.par 1 0 (.cmp .NotEq (.var 1) (.cmp .Eq (.bin .Mod (.var 0) (.int 2)) (.int 1))) (.bin .FloorDiv (.var 0) (.int 2)))
  .nil))
  (.cons (.ret (.var 1))
  .nil)))
def g_is_odd : FSig := ⟨[false], runS 2 [false] (exb b_is_odd)⟩
abbrev s_plain_signs : Stmt := top 14
def n_plain_signs : List Str := ["many", "found", "ones", "at"]
def p_plain_signs : List Str := ["many"]
def b_plain_signs : CB := (.cons (.parl [1, 2, 3] (.cons (.lst .nil) (.cons (.int 0) (.cons (.int 1) .nil))))
  (.cons (.whl 4096 (.cmp .Lt (.bi .len (.cons (.var 1) .nil)) (.var 0)) (.cons (.ifs (.call "is_odd" g_is_odd (.cons (.var 3) .nil)) (.cons (.asg (.nm 2) (.bin .Add (.var 2) (.int 1)))
  .nil) (.cons (.expr (.mm .append 1 (.cons (.var 2) .nil)))
  (.cons (.asg (.nm 2) (.int 0))
  .nil)))
  (.cons (.asg (.nm 3) (.bin .Add (.var 3) (.int 1)))
  .nil)))
  (.cons (.ret (.bi .tuple (.cons (.var 1) .nil)))
  .nil)))
def g_plain_signs : FSig := ⟨[false], runS 4 [false] (exb b_plain_signs)⟩
abbrev s_plain_word : Stmt := top 15
def n_plain_word : List Str := ["many"]
def p_plain_word : List Str := ["many"]
def b_plain_word : CB := (.cons (.expr (.call "need_number" g_need_number (.cons (.var 0) (.cons (.str "many") (.cons (.int 0) (.cons (.glob "MOST_SIGNS" (.int 2000)) .nil))))))
  (.cons (.ret (.call "plain_signs" g_plain_signs (.cons (.var 0) .nil)))
  .nil))
def g_plain_word : FSig := ⟨[false], runS 1 [false] (exb b_plain_word)⟩
abbrev s_first_repeat : Stmt := top 16
def n_first_repeat : List Str := ["word"]
def p_first_repeat : List Str := ["word"]
def b_first_repeat : CB := (.cons (.ret (.call "least_repeat" g_least_repeat (.cons (.call "need_word" (g_need_word.dflt [.str "word"]) (.cons (.var 0) .nil)) .nil)))
  .nil)
def g_first_repeat : FSig := ⟨[false], runS 1 [false] (exb b_first_repeat)⟩
abbrev s__law_spool : Stmt := top 18
def n__law_spool : List Str := ["_law_script", "_law_cell"]
def p__law_spool : List Str := ["_law_script"]
def b__law_spool : CB := (.cons (.ret (.lst (.cons (.comp (.bi .int (.cons (.var 1) .nil)) (.nm 1) (.val (.slc (.var 0) .noe (.int 60))) .nil [1]) (.cons (.int 0) (.cons (.int 0) .nil)))))
  .nil)
def g__law_spool : FSig := ⟨[false], runS 2 [false] (exb b__law_spool)⟩
abbrev s__law_wind : Stmt := top 19
def n__law_wind : List Str := ["_law_spool_here", "_law_many", "_law_turn", "_law_cell", "_law_mixed", "_law_left"]
def p__law_wind : List Str := ["_law_spool_here", "_law_many"]
def b__law_wind : CB := (.cons (.ifs (.cmp .Gt (.sub (.var 0) (.int 2)) (.int 0)) (.cons (.asg (.nm 5) (.bi .int (.cons (.sub (.var 0) (.int 2)) .nil)))
  (.cons (.setix 0 (.int 2) (.bin .FloorDiv (.var 5) (.var 1)))
  (.cons (.ret (.bin .Mod (.bi .int (.cons (.var 5) .nil)) (.var 1)))
  .nil))) .nil)
  (.cons (.asg (.nm 2) (.sub (.var 0) (.int 1)))
  (.cons (.setix 0 (.int 1) (.bin .Add (.var 2) (.int 1)))
  (.cons (.asg (.nm 3) (.bin .Add (.bin .Mult (.int 109121) (.var 2)) (.int 8179)))
  (.cons (.ifs (.cmp .NotEq (.sub (.var 0) (.int 0)) (.lst .nil)) (.cons (.asg (.nm 3) (.sub (.sub (.var 0) (.int 0)) (.bin .Mod (.bi .int (.cons (.var 2) .nil)) (.bi .len (.cons (.sub (.var 0) (.int 0)) .nil)))))
  .nil) .nil)
  (.cons (.ifs (.and_ (.cons (.cmp .Lt (.var 2) (.bi .len (.cons (.sub (.var 0) (.int 0)) .nil))) (.cons (.cmp .GtE (.bi .abs (.cons (.var 3) .nil)) (.bin .Pow (.int 10) (.int 18))) .nil))) (.cons (.asg (.nm 5) (.bin .Add (.bin .Mult (.int 2) (.bin .Sub (.bi .abs (.cons (.bi .int (.cons (.var 3) .nil)) .nil)) (.bin .Pow (.int 10) (.int 18)))) (.bi .int (.cons (.cmp .Lt (.var 3) (.int 0)) .nil))))
  (.cons (.setix 0 (.int 2) (.bin .FloorDiv (.var 5) (.var 1)))
  (.cons (.ret (.bin .Mod (.bi .int (.cons (.var 5) .nil)) (.var 1)))
  .nil))) .nil)
  (.cons (.asg (.nm 4) (.bin .Mod (.bi .int (.cons (.bin .Pow (.bin .Add (.bin .Add (.bin .Mod (.bi .int (.cons (.var 3) .nil)) (.int 2147483563)) (.bin .Mult (.int 85199) (.var 2))) (.int 8179)) (.int 5)) .nil)) (.int 2147483579)))
  (.cons (.asg (.nm 4) (.bin .Mod (.bi .int (.cons (.bin .Pow (.bin .Add (.bin .Add (.bin .Mult (.var 4) (.bin .Add (.bin .Mult (.int 2) (.var 2)) (.int 8179))) (.bin .Mult (.bin .Mult (.int 109121) (.var 2)) (.var 2))) (.int 85199)) (.int 3)) .nil)) (.int 2147483549)))
  (.cons (.ret (.bin .Mod (.bi .int (.cons (.bin .FloorDiv (.var 4) (.int 64)) .nil)) (.var 1)))
  .nil)))))))))
def g__law_wind : FSig := ⟨[true, false], runS 6 [true, false] (exb b__law_wind)⟩
abbrev s__law_pick : Stmt := top 20
def n__law_pick : List Str := ["_law_spool_here", "_law_some"]
def p__law_pick : List Str := ["_law_spool_here", "_law_some"]
def b__law_pick : CB := (.cons (.ret (.sub (.var 1) (.call "_law_wind" g__law_wind (.cons (.var 0) (.cons (.bi .len (.cons (.var 1) .nil)) .nil)))))
  .nil)
def g__law_pick : FSig := ⟨[true, false], runS 2 [true, false] (exb b__law_pick)⟩
abbrev s__law_figures : Stmt := top 21
def n__law_figures : List Str := ["_law_many", "_law_row", "_law_each"]
def p__law_figures : List Str := ["_law_many"]
def b__law_figures : CB := (.cons (.asg (.nm 1) (.lst (.cons (.int 0) .nil)))
  (.cons (.whl 4096 (.cmp .Lt (.bi .len (.cons (.var 1) .nil)) (.var 0)) (.cons (.asg (.nm 1) (.bin .Add (.var 1) (.comp (.bin .Sub (.int 1) (.var 2)) (.nm 2) (.val (.var 1)) .nil [2])))
  .nil))
  (.cons (.ret (.slc (.var 1) .noe (.var 0)))
  .nil)))
def g__law_figures : FSig := ⟨[false], runS 3 [false] (exb b__law_figures)⟩
abbrev s__law_gaps : Stmt := top 22
def n__law_gaps : List Str := ["_law_many", "_law_figure", "_law_found", "_law_ones"]
def p__law_gaps : List Str := ["_law_many"]
def b__law_gaps : CB := (.cons (.par 2 3 (.lst .nil) (.int 0))
  (.cons (.for_ (.nm 1) (.val (.slc (.call "_law_figures" g__law_figures (.cons (.bin .Add (.bin .Mult (.int 4) (.var 0)) (.int 8)) .nil)) (.int 1) .noe)) (.cons (.ifs (.cmp .Eq (.var 1) (.int 0)) (.cons (.expr (.mm .append 2 (.cons (.var 3) .nil)))
  .nil) .nil)
  (.cons (.asg (.nm 3) (.ite (.cmp .Eq (.var 1) (.int 0)) (.int 0) (.bin .Add (.var 3) (.int 1))))
  .nil)))
  (.cons (.ret (.slc (.var 2) .noe (.var 0)))
  .nil)))
def g__law_gaps : FSig := ⟨[false], runS 4 [false] (exb b__law_gaps)⟩
abbrev s__law_led : Stmt := top 23
def n__law_led : List Str := ["_law_many", "_law_rows", "_law_word", "_law_longer", "_law_sign"]
def p__law_led : List Str := ["_law_many"]
def b__law_led : CB := (.cons (.par 1 2 (.lst (.cons (.lst (.cons (.int 1) .nil)) (.cons (.lst (.cons (.int 2) (.cons (.int 0) .nil))) (.cons (.lst (.cons (.int 2) (.cons (.int 1) (.cons (.int 0) .nil)))) .nil)))) (.lst (.cons (.int 2) .nil)))
  (.cons (.whl 4096 (.cmp .Lt (.bi .len (.cons (.var 2) .nil)) (.var 0)) (.cons (.asg (.nm 3) (.lst .nil))
  (.cons (.for_ (.nm 4) (.val (.var 2)) (.cons (.asg (.nm 3) (.bin .Add (.var 3) (.sub (.var 1) (.var 4))))
  .nil))
  (.cons (.asg (.nm 2) (.var 3))
  .nil))))
  (.cons (.ret (.slc (.var 2) .noe (.var 0)))
  .nil)))
def g__law_led : FSig := ⟨[false], runS 5 [false] (exb b__law_led)⟩
abbrev s__law_is_free : Stmt := top 24
def n__law_is_free : List Str := ["_law_word", "_law_half", "_law_run", "_law_at"]
def p__law_is_free : List Str := ["_law_word"]
def b__law_is_free : CB := (.cons (.for_ (.nm 1) (.rng2 (.int 1) (.bin .Add (.bin .FloorDiv (.bi .len (.cons (.var 0) .nil)) (.int 2)) (.int 1))) (.cons (.asg (.nm 2) (.int 0))
  (.cons (.for_ (.nm 3) (.rng1 (.bin .Sub (.bi .len (.cons (.var 0) .nil)) (.var 1))) (.cons (.asg (.nm 2) (.ite (.cmp .Eq (.sub (.var 0) (.var 3)) (.sub (.var 0) (.bin .Add (.var 3) (.var 1)))) (.bin .Add (.var 2) (.int 1)) (.int 0)))
  (.cons (.ifs (.cmp .Eq (.var 2) (.var 1)) (.cons (.ret (.bl false))
  .nil) .nil)
  .nil)))
  .nil)))
  (.cons (.ret (.bl true))
  .nil))
def g__law_is_free : FSig := ⟨[false], runS 4 [false] (exb b__law_is_free)⟩
abbrev s__law_heard : Stmt := top 25
def n__law_heard : List Str := ["_law_ask", "_law_caught", "error"]
def p__law_heard : List Str := ["_law_ask"]
def b__law_heard : CB := (.cons (.ret (.ite (.isc (.var 1) [otBadNumber]) (.fldx (.var 1) "part" [1, 2]) (.var 1)))
  .nil)
def hs__law_heard : HSig := ⟨3, 1, [1, 2], tailFO (exb b__law_heard)⟩
abbrev s_law : Stmt := top 26
def n_law : List Str := ["_law_script", "_law_spool_here", "_law_many", "_law_word", "_law_fewer", "_law_odd"]
def p_law : List Str := ["_law_script"]
def b_law : CB := (.cons (.asg (.nm 1) (.call "_law_spool" g__law_spool (.cons (.var 0) .nil)))
  (.cons (.asg (.nm 2) (.call "_law_wind" g__law_wind (.cons (.var 1) (.cons (.call "_law_pick" g__law_pick (.cons (.var 1) (.cons (.lst (.cons (.int 401) (.cons (.int 4) (.cons (.int 30) (.cons (.int 120) .nil))))) .nil))) .nil))))
  (.cons (.asg (.nm 3) (.call "plain_word" g_plain_word (.cons (.var 2) .nil)))
  (.cons (.ifs (.or_ (.cons (.not (.isi (.var 3) [.tuple])) (.cons (.cmp .NotEq (.bi .repr (.cons (.bi .list (.cons (.var 3) .nil)) .nil)) (.bi .repr (.cons (.call "_law_gaps" g__law_gaps (.cons (.var 2) .nil)) .nil))) (.cons (.cmp .NotEq (.bi .list (.cons (.var 3) .nil)) (.call "_law_led" g__law_led (.cons (.var 2) .nil))) (.cons (.not (.call "_law_is_free" g__law_is_free (.cons (.var 3) .nil))) .nil))))) (.cons (.ret (.bl false))
  .nil) .nil)
  (.cons (.asg (.nm 4) (.call "_law_wind" g__law_wind (.cons (.var 1) (.cons (.bin .Add (.var 2) (.int 1)) .nil))))
  (.cons (.ifs (.or_ (.cons (.cmp .NotEq (.callk "plain_word" ["many"] g_plain_word .nil ["many"] (.cons (.var 4) .nil)) (.slc (.var 3) .noe (.var 4))) (.cons (.and_ (.cons (.cmp .LtE (.var 2) (.int 120)) (.cons (.cmp .IsNot (.call "first_repeat" g_first_repeat (.cons (.var 3) .nil)) .non) .nil))) .nil))) (.cons (.ret (.bl false))
  .nil) .nil)
  (.cons (.asg (.nm 5) (.call "_law_pick" g__law_pick (.cons (.var 1) (.cons (.lst (.cons (.neg (.int 1)) (.cons (.int 2001) (.cons (.bl true) (.cons .non (.cons (.str "7") (.cons (.tup (.cons (.int 1) .nil)) (.cons (.bin .Pow (.int 10) (.int 30)) .nil)))))))) .nil))))
  (.cons (.ifs (.and_ (.cons (.cmp .Eq (.call "_law_wind" g__law_wind (.cons (.var 1) (.cons (.int 4) .nil))) (.int 0)) (.cons (.cmp .NotEq (.bi .list (.cons (.call "plain_word" g_plain_word (.cons (.int 2000) .nil)) .nil)) (.call "_law_led" g__law_led (.cons (.int 2000) .nil))) .nil))) (.cons (.ret (.bl false))
  .nil) .nil)
  (.cons (.ret (.and_ (.cons (.cmp .Eq (.heard "_law_heard" hs__law_heard (.call "plain_word" g_plain_word (.cons (.var 5) .nil))) (.str "many")) (.cons (.cmp .Eq (.bi .len (.cons (.call "plain_word" g_plain_word (.cons (.int 2000) .nil)) .nil)) (.int 2000)) .nil))))
  .nil)))))))))
def g_law : FSig := ⟨[false], runS 6 [false] (exb b_law)⟩

theorem z_is_integer : C8.scC n_is_integer p_is_integer (C8.fnScope s_is_integer) = true := by decide +kernel
theorem c_is_integer : chkB (C8.fnScope s_is_integer) n_is_integer (cellsOf (C8.fnScope s_is_integer)) b_is_integer (C8.fnBody s_is_integer) = true := by decide +kernel
theorem z_is_within : C8.scC n_is_within p_is_within (C8.fnScope s_is_within) = true := by decide +kernel
theorem c_is_within : chkB (C8.fnScope s_is_within) n_is_within (cellsOf (C8.fnScope s_is_within)) b_is_within (C8.fnBody s_is_within) = true := by decide +kernel
theorem z_need_number : C8.scC n_need_number p_need_number (C8.fnScope s_need_number) = true := by decide +kernel
theorem c_need_number : chkB (C8.fnScope s_need_number) n_need_number (cellsOf (C8.fnScope s_need_number)) b_need_number (C8.fnBody s_need_number) = true := by decide +kernel
theorem z_is_word : C8.scC n_is_word p_is_word (C8.fnScope s_is_word) = true := by decide +kernel
theorem c_is_word : chkB (C8.fnScope s_is_word) n_is_word (cellsOf (C8.fnScope s_is_word)) b_is_word (C8.fnBody s_is_word) = true := by decide +kernel
theorem z_need_word : C8.scC n_need_word p_need_word (C8.fnScope s_need_word) = true := by decide +kernel
theorem c_need_word : chkB (C8.fnScope s_need_word) n_need_word (cellsOf (C8.fnScope s_need_word)) b_need_word (C8.fnBody s_need_word) = true := by decide +kernel
theorem z_least_repeat : C8.scC n_least_repeat p_least_repeat (C8.fnScope s_least_repeat) = true := by decide +kernel
theorem c_least_repeat : chkB (C8.fnScope s_least_repeat) n_least_repeat (cellsOf (C8.fnScope s_least_repeat)) b_least_repeat (C8.fnBody s_least_repeat) = true := by decide +kernel
theorem z_is_odd : C8.scC n_is_odd p_is_odd (C8.fnScope s_is_odd) = true := by decide +kernel
theorem c_is_odd : chkB (C8.fnScope s_is_odd) n_is_odd (cellsOf (C8.fnScope s_is_odd)) b_is_odd (C8.fnBody s_is_odd) = true := by decide +kernel
theorem z_plain_signs : C8.scC n_plain_signs p_plain_signs (C8.fnScope s_plain_signs) = true := by decide +kernel
theorem c_plain_signs : chkB (C8.fnScope s_plain_signs) n_plain_signs (cellsOf (C8.fnScope s_plain_signs)) b_plain_signs (C8.fnBody s_plain_signs) = true := by decide +kernel
theorem z_plain_word : C8.scC n_plain_word p_plain_word (C8.fnScope s_plain_word) = true := by decide +kernel
theorem c_plain_word : chkB (C8.fnScope s_plain_word) n_plain_word (cellsOf (C8.fnScope s_plain_word)) b_plain_word (C8.fnBody s_plain_word) = true := by decide +kernel
theorem z_first_repeat : C8.scC n_first_repeat p_first_repeat (C8.fnScope s_first_repeat) = true := by decide +kernel
theorem c_first_repeat : chkB (C8.fnScope s_first_repeat) n_first_repeat (cellsOf (C8.fnScope s_first_repeat)) b_first_repeat (C8.fnBody s_first_repeat) = true := by decide +kernel
theorem z__law_spool : C8.scC n__law_spool p__law_spool (C8.fnScope s__law_spool) = true := by decide +kernel
theorem c__law_spool : chkB (C8.fnScope s__law_spool) n__law_spool (cellsOf (C8.fnScope s__law_spool)) b__law_spool (C8.fnBody s__law_spool) = true := by decide +kernel
theorem z__law_wind : C8.scC n__law_wind p__law_wind (C8.fnScope s__law_wind) = true := by decide +kernel
theorem c__law_wind : chkB (C8.fnScope s__law_wind) n__law_wind (cellsOf (C8.fnScope s__law_wind)) b__law_wind (C8.fnBody s__law_wind) = true := by decide +kernel
theorem z__law_pick : C8.scC n__law_pick p__law_pick (C8.fnScope s__law_pick) = true := by decide +kernel
theorem c__law_pick : chkB (C8.fnScope s__law_pick) n__law_pick (cellsOf (C8.fnScope s__law_pick)) b__law_pick (C8.fnBody s__law_pick) = true := by decide +kernel
theorem z__law_figures : C8.scC n__law_figures p__law_figures (C8.fnScope s__law_figures) = true := by decide +kernel
theorem c__law_figures : chkB (C8.fnScope s__law_figures) n__law_figures (cellsOf (C8.fnScope s__law_figures)) b__law_figures (C8.fnBody s__law_figures) = true := by decide +kernel
theorem z__law_gaps : C8.scC n__law_gaps p__law_gaps (C8.fnScope s__law_gaps) = true := by decide +kernel
theorem c__law_gaps : chkB (C8.fnScope s__law_gaps) n__law_gaps (cellsOf (C8.fnScope s__law_gaps)) b__law_gaps (C8.fnBody s__law_gaps) = true := by decide +kernel
theorem z__law_led : C8.scC n__law_led p__law_led (C8.fnScope s__law_led) = true := by decide +kernel
theorem c__law_led : chkB (C8.fnScope s__law_led) n__law_led (cellsOf (C8.fnScope s__law_led)) b__law_led (C8.fnBody s__law_led) = true := by decide +kernel
theorem z__law_is_free : C8.scC n__law_is_free p__law_is_free (C8.fnScope s__law_is_free) = true := by decide +kernel
theorem c__law_is_free : chkB (C8.fnScope s__law_is_free) n__law_is_free (cellsOf (C8.fnScope s__law_is_free)) b__law_is_free (C8.fnBody s__law_is_free) = true := by decide +kernel
theorem z__law_heard : C8.scC n__law_heard p__law_heard (C8.fnScope s__law_heard) = true := by decide +kernel
theorem c__law_heard : hearC (C8.fnScope s__law_heard) n__law_heard "_law_ask" "LaneError" 1 2 b__law_heard (C8.fnBody s__law_heard) = true := by decide +kernel
theorem z_law : C8.scC n_law p_law (C8.fnScope s_law) = true := by decide +kernel
theorem c_law : chkB (C8.fnScope s_law) n_law (cellsOf (C8.fnScope s_law)) b_law (C8.fnBody s_law) = true := by decide +kernel
section
variable {P : Program} {w : World} {K : PySem.W.Frag} {mg : Str → Option Value} {base : Heap} {G : Gs}
theorem d_is_integer  : needB (wants P w K mg base 0 G False) b_is_integer := (And.intro (And.intro trivial (And.intro trivial trivial)) trivial)
theorem d_is_within (h_is_integer : FnAt P w K mg base 1 G "is_integer" g_is_integer) : needB (wants P w K mg base 1 G False) b_is_within := (And.intro (And.intro (And.intro h_is_integer (And.intro trivial trivial)) (And.intro (And.intro trivial trivial) trivial)) (And.intro (And.intro (And.intro (And.intro trivial (And.intro trivial trivial)) (And.intro (And.intro trivial (And.intro trivial trivial)) trivial)) (And.intro (And.intro (And.intro trivial (And.intro trivial trivial)) (And.intro (And.intro trivial (And.intro trivial trivial)) trivial)) trivial)) trivial))
theorem d_need_number (h_is_within : FnAt P w K mg base 2 G "is_within" g_is_within) (ex_BadNumber : ExcC P w K mg base G 1 "BadNumber" xs_BadNumber ∧ 2 ≤ 2) : needB (wants P w K mg base 2 G False) b_need_number := (And.intro (And.intro (And.intro h_is_within (And.intro trivial (And.intro trivial (And.intro trivial trivial)))) (And.intro (And.intro (And.intro ex_BadNumber (And.intro trivial (And.intro trivial trivial))) trivial) trivial)) trivial)
theorem d_is_word (h_is_within : FnAt P w K mg base 2 G "is_within" g_is_within) : needB (wants P w K mg base 2 G False) b_is_word := (And.intro (And.intro trivial (And.intro (And.intro trivial (And.intro (And.intro trivial (And.intro trivial (And.intro trivial (And.intro h_is_within (And.intro trivial (And.intro trivial (And.intro trivial trivial))))))) trivial)) trivial)) trivial)
theorem d_need_word (h_is_word : FnAt P w K mg base 3 G "is_word" g_is_word) (ex_BadWord : ExcC P w K mg base G 2 "BadWord" xs_BadWord ∧ 2 ≤ 3) : needB (wants P w K mg base 3 G False) b_need_word := (And.intro (And.intro (And.intro h_is_word (And.intro trivial trivial)) (And.intro (And.intro (And.intro ex_BadWord (And.intro trivial (And.intro trivial trivial))) trivial) trivial)) (And.intro (And.intro trivial (And.intro trivial trivial)) trivial))
theorem d_least_repeat  : needB (wants P w K mg base 0 G False) b_least_repeat := (And.intro (And.intro trivial trivial) (And.intro (And.intro trivial (And.intro (And.intro trivial (And.intro trivial (And.intro (And.intro trivial (And.intro (And.intro trivial (And.intro trivial trivial)) trivial)) trivial))) (And.intro (And.intro trivial trivial) (And.intro (And.intro trivial (And.intro (And.intro trivial (And.intro (And.intro trivial (And.intro trivial trivial)) trivial)) (And.intro (And.intro trivial (And.intro (And.intro trivial (And.intro (And.intro trivial trivial) (And.intro trivial (And.intro trivial (And.intro trivial trivial))))) (And.intro (And.intro trivial (And.intro trivial trivial)) trivial))) (And.intro (And.intro (And.intro (And.intro trivial (And.intro trivial trivial)) (And.intro (And.intro (And.intro trivial (And.intro trivial trivial)) (And.intro (And.intro trivial (And.intro (And.intro trivial (And.intro (And.intro trivial (And.intro trivial trivial)) trivial)) (And.intro trivial trivial))) trivial)) trivial)) (And.intro (And.intro (And.intro trivial (And.intro (And.intro trivial (And.intro (And.intro trivial (And.intro trivial trivial)) trivial)) (And.intro trivial trivial))) trivial) trivial)) trivial)))) trivial)))) (And.intro trivial trivial)))
theorem d_is_odd  : needB (wants P w K mg base 0 G False) b_is_odd := (And.intro (And.intro trivial trivial) (And.intro (And.intro (And.intro trivial (And.intro trivial trivial)) (And.intro (And.intro trivial (And.intro (And.intro trivial (And.intro trivial (And.intro trivial (And.intro (And.intro trivial (And.intro trivial trivial)) trivial)))) (And.intro trivial (And.intro trivial trivial)))) trivial)) (And.intro trivial trivial)))
theorem d_plain_signs (h_is_odd : FnAt P w K mg base 1 G "is_odd" g_is_odd) : needB (wants P w K mg base 1 G False) b_plain_signs := (And.intro (And.intro trivial (And.intro trivial (And.intro trivial (And.intro trivial trivial)))) (And.intro (And.intro (And.intro trivial (And.intro (And.intro trivial (And.intro trivial trivial)) trivial)) (And.intro (And.intro (And.intro h_is_odd (And.intro trivial trivial)) (And.intro (And.intro (And.intro trivial (And.intro trivial (And.intro trivial trivial))) trivial) (And.intro (And.intro trivial trivial) (And.intro (And.intro trivial trivial) trivial)))) (And.intro (And.intro trivial (And.intro trivial (And.intro trivial trivial))) trivial))) (And.intro (And.intro trivial (And.intro trivial trivial)) trivial)))
theorem d_plain_word (h_plain_signs : FnAt P w K mg base 3 G "plain_signs" g_plain_signs) (h_need_number : FnAt P w K mg base 3 G "need_number" g_need_number) (gl_MOST_SIGNS : ∃ u v, mg "MOST_SIGNS" = some u ∧ RelV v u ∧ ∀ Av H, Rep G Av H (.int 2000) v) : needB (wants P w K mg base 3 G False) b_plain_word := (And.intro (And.intro h_need_number (And.intro trivial (And.intro trivial (And.intro trivial (And.intro gl_MOST_SIGNS trivial))))) (And.intro (And.intro h_plain_signs (And.intro trivial trivial)) trivial))
theorem d_first_repeat (h_need_word : FnAt P w K mg base 4 G "need_word" g_need_word) (h_least_repeat : FnAt P w K mg base 4 G "least_repeat" g_least_repeat) (h_need_word_1 : FnAt P w K mg base 4 G "need_word" (g_need_word.dflt [.str "word"])) : needB (wants P w K mg base 4 G False) b_first_repeat := (And.intro (And.intro h_least_repeat (And.intro (And.intro h_need_word_1 (And.intro trivial trivial)) trivial)) trivial)
theorem d__law_spool  : needB (wants P w K mg base 0 G False) b__law_spool := (And.intro (And.intro (And.intro trivial (And.intro (And.intro trivial (And.intro trivial trivial)) (And.intro trivial (And.intro trivial (And.intro trivial trivial))))) (And.intro trivial (And.intro trivial trivial))) trivial)
theorem d__law_wind  : needB (wants P w K mg base 0 G False) b__law_wind := (And.intro (And.intro (And.intro trivial (And.intro (And.intro trivial trivial) trivial)) (And.intro (And.intro (And.intro trivial (And.intro trivial (And.intro (And.intro trivial trivial) trivial))) (And.intro (And.intro trivial (And.intro trivial (And.intro trivial trivial))) (And.intro (And.intro trivial (And.intro (And.intro trivial (And.intro trivial trivial)) trivial)) trivial))) trivial)) (And.intro (And.intro trivial (And.intro trivial trivial)) (And.intro (And.intro trivial (And.intro trivial (And.intro trivial trivial))) (And.intro (And.intro trivial (And.intro trivial (And.intro (And.intro trivial (And.intro trivial trivial)) trivial))) (And.intro (And.intro (And.intro trivial (And.intro (And.intro trivial trivial) trivial)) (And.intro (And.intro (And.intro trivial (And.intro (And.intro trivial trivial) (And.intro trivial (And.intro (And.intro trivial (And.intro trivial trivial)) (And.intro trivial (And.intro (And.intro trivial trivial) trivial)))))) trivial) trivial)) (And.intro (And.intro (And.intro (And.intro trivial (And.intro trivial (And.intro trivial (And.intro (And.intro trivial trivial) trivial)))) (And.intro (And.intro trivial (And.intro (And.intro trivial (And.intro trivial trivial)) (And.intro trivial (And.intro trivial trivial)))) trivial)) (And.intro (And.intro (And.intro trivial (And.intro trivial (And.intro (And.intro trivial (And.intro trivial (And.intro trivial (And.intro (And.intro trivial (And.intro (And.intro trivial (And.intro trivial trivial)) trivial)) (And.intro trivial (And.intro trivial trivial)))))) (And.intro trivial (And.intro (And.intro trivial (And.intro trivial trivial)) trivial))))) (And.intro (And.intro trivial (And.intro trivial (And.intro trivial trivial))) (And.intro (And.intro trivial (And.intro (And.intro trivial (And.intro trivial trivial)) trivial)) trivial))) trivial)) (And.intro (And.intro trivial (And.intro trivial (And.intro (And.intro trivial (And.intro (And.intro trivial (And.intro (And.intro trivial (And.intro (And.intro trivial (And.intro (And.intro trivial (And.intro (And.intro trivial (And.intro trivial trivial)) trivial)) (And.intro trivial (And.intro trivial trivial)))) trivial)) trivial)) trivial)) trivial))) (And.intro (And.intro trivial (And.intro trivial (And.intro (And.intro trivial (And.intro (And.intro trivial (And.intro (And.intro trivial (And.intro (And.intro trivial (And.intro (And.intro trivial (And.intro trivial (And.intro trivial (And.intro (And.intro trivial (And.intro trivial trivial)) trivial)))) (And.intro trivial (And.intro (And.intro trivial (And.intro trivial trivial)) trivial)))) trivial)) trivial)) trivial)) trivial))) (And.intro (And.intro trivial (And.intro (And.intro trivial (And.intro (And.intro trivial (And.intro trivial trivial)) trivial)) trivial)) trivial)))))))))
theorem d__law_pick (h__law_wind : FnAt P w K mg base 1 G "_law_wind" g__law_wind) : needB (wants P w K mg base 1 G False) b__law_pick := (And.intro (And.intro trivial (And.intro h__law_wind (And.intro trivial (And.intro (And.intro trivial (And.intro trivial trivial)) trivial)))) trivial)
theorem d__law_figures  : needB (wants P w K mg base 0 G False) b__law_figures := (And.intro (And.intro trivial (And.intro trivial trivial)) (And.intro (And.intro (And.intro trivial (And.intro (And.intro trivial (And.intro trivial trivial)) trivial)) (And.intro (And.intro trivial (And.intro trivial (And.intro trivial (And.intro trivial (And.intro trivial (And.intro trivial (And.intro trivial (And.intro trivial trivial)))))))) trivial)) (And.intro (And.intro trivial (And.intro trivial trivial)) trivial)))
theorem d__law_gaps (h__law_figures : FnAt P w K mg base 1 G "_law_figures" g__law_figures) : needB (wants P w K mg base 1 G False) b__law_gaps := (And.intro (And.intro trivial (And.intro trivial trivial)) (And.intro (And.intro trivial (And.intro (And.intro (And.intro h__law_figures (And.intro (And.intro trivial (And.intro (And.intro trivial (And.intro trivial trivial)) trivial)) trivial)) (And.intro trivial trivial)) (And.intro (And.intro (And.intro trivial (And.intro trivial trivial)) (And.intro (And.intro (And.intro trivial trivial) trivial) trivial)) (And.intro (And.intro trivial (And.intro (And.intro trivial (And.intro trivial trivial)) (And.intro trivial (And.intro trivial (And.intro trivial trivial))))) trivial)))) (And.intro (And.intro trivial (And.intro trivial trivial)) trivial)))
theorem d__law_led  : needB (wants P w K mg base 0 G False) b__law_led := (And.intro (And.intro trivial (And.intro (And.intro (And.intro trivial trivial) (And.intro (And.intro trivial (And.intro trivial trivial)) (And.intro (And.intro trivial (And.intro trivial (And.intro trivial trivial))) trivial))) (And.intro trivial trivial))) (And.intro (And.intro (And.intro trivial (And.intro (And.intro trivial (And.intro trivial trivial)) trivial)) (And.intro (And.intro trivial trivial) (And.intro (And.intro trivial (And.intro trivial (And.intro (And.intro trivial (And.intro trivial (And.intro trivial (And.intro trivial trivial)))) trivial))) (And.intro (And.intro trivial trivial) trivial)))) (And.intro (And.intro trivial (And.intro trivial trivial)) trivial)))
theorem d__law_is_free  : needB (wants P w K mg base 0 G False) b__law_is_free := (And.intro (And.intro trivial (And.intro (And.intro trivial (And.intro trivial (And.intro (And.intro trivial (And.intro (And.intro trivial (And.intro trivial trivial)) trivial)) trivial))) (And.intro (And.intro trivial trivial) (And.intro (And.intro trivial (And.intro (And.intro trivial (And.intro (And.intro trivial (And.intro trivial trivial)) trivial)) (And.intro (And.intro trivial (And.intro (And.intro trivial (And.intro (And.intro trivial trivial) (And.intro trivial (And.intro trivial (And.intro trivial trivial))))) (And.intro (And.intro trivial (And.intro trivial trivial)) trivial))) (And.intro (And.intro (And.intro trivial (And.intro trivial trivial)) (And.intro (And.intro trivial trivial) trivial)) trivial)))) trivial)))) (And.intro trivial trivial))
theorem d__law_heard (ot_BadNumber : OtyOk K mg G otBadNumber) (xf_BadNumber_part : XfC K (G.c 1) ∧ PySem.W.findIn K (.ref (G.c 1)) "part" = some none) (xf_BadWord_part : XfC K (G.c 2) ∧ PySem.W.findIn K (.ref (G.c 2)) "part" = some none) : needB (wants P w K mg base 2 G False) b__law_heard := (And.intro (And.intro (And.intro trivial (fun o h => by simp only [List.mem_cons, List.not_mem_nil, or_false] at h; rcases h with rfl <;> assumption)) (And.intro (And.intro trivial (fun c h => by simp only [List.mem_cons, List.not_mem_nil, or_false] at h; rcases h with rfl | rfl <;> assumption)) trivial)) trivial)
theorem d_law (h_plain_word : FnAt P w K mg base 5 G "plain_word" g_plain_word) (h__law_led : FnAt P w K mg base 5 G "_law_led" g__law_led) (h__law_wind : FnAt P w K mg base 5 G "_law_wind" g__law_wind) (h__law_pick : FnAt P w K mg base 5 G "_law_pick" g__law_pick) (h_first_repeat : FnAt P w K mg base 5 G "first_repeat" g_first_repeat) (k_plain_word_0_many : FnAtK P w K mg base 5 G "plain_word" ["many"] g_plain_word 0 ["many"]) (h__law_is_free : FnAt P w K mg base 5 G "_law_is_free" g__law_is_free) (h__law_gaps : FnAt P w K mg base 5 G "_law_gaps" g__law_gaps) (h__law_spool : FnAt P w K mg base 5 G "_law_spool" g__law_spool) (hh__law_heard : HeardC P w K mg base G "_law_heard" hs__law_heard) : needB (wants P w K mg base 5 G True) b_law := (And.intro (And.intro trivial (And.intro h__law_spool (And.intro trivial trivial))) (And.intro (And.intro trivial (And.intro h__law_wind (And.intro trivial (And.intro (And.intro h__law_pick (And.intro trivial (And.intro (And.intro trivial (And.intro trivial (And.intro trivial (And.intro trivial trivial)))) trivial))) trivial)))) (And.intro (And.intro trivial (And.intro h_plain_word (And.intro trivial trivial))) (And.intro (And.intro (And.intro trivial (And.intro (And.intro trivial (And.intro (And.intro trivial (And.intro (And.intro trivial (And.intro trivial trivial)) trivial)) (And.intro trivial (And.intro (And.intro h__law_gaps (And.intro trivial trivial)) trivial)))) (And.intro (And.intro trivial (And.intro (And.intro trivial (And.intro trivial trivial)) (And.intro h__law_led (And.intro trivial trivial)))) (And.intro (And.intro h__law_is_free (And.intro trivial trivial)) trivial)))) (And.intro (And.intro trivial trivial) trivial)) (And.intro (And.intro trivial (And.intro h__law_wind (And.intro trivial (And.intro (And.intro trivial (And.intro trivial trivial)) trivial)))) (And.intro (And.intro (And.intro (And.intro trivial (And.intro (And.intro k_plain_word_0_many (And.intro trivial (And.intro trivial trivial))) (And.intro trivial (And.intro trivial trivial)))) (And.intro (And.intro (And.intro trivial (And.intro trivial trivial)) (And.intro (And.intro trivial (And.intro (And.intro h_first_repeat (And.intro trivial trivial)) trivial)) trivial)) trivial)) (And.intro (And.intro trivial trivial) trivial)) (And.intro (And.intro trivial (And.intro h__law_pick (And.intro trivial (And.intro (And.intro trivial (And.intro trivial (And.intro trivial (And.intro trivial (And.intro trivial (And.intro (And.intro trivial trivial) (And.intro (And.intro trivial (And.intro trivial trivial)) trivial))))))) trivial)))) (And.intro (And.intro (And.intro (And.intro trivial (And.intro (And.intro h__law_wind (And.intro trivial (And.intro trivial trivial))) trivial)) (And.intro (And.intro trivial (And.intro (And.intro trivial (And.intro (And.intro h_plain_word (And.intro trivial trivial)) trivial)) (And.intro h__law_led (And.intro trivial trivial)))) trivial)) (And.intro (And.intro trivial trivial) trivial)) (And.intro (And.intro (And.intro trivial (And.intro (And.intro hh__law_heard (And.intro trivial (And.intro h_plain_word (And.intro trivial trivial)))) trivial)) (And.intro (And.intro trivial (And.intro (And.intro trivial (And.intro (And.intro h_plain_word (And.intro trivial trivial)) trivial)) trivial)) trivial)) trivial)))))))))
end
section
variable {q : Program} {P : Program} {w : World} {K : PySem.W.Frag} {h : Heap} {mg : Str → Option Value} {fa : Addr}
theorem all_mk (X : K.In h) (N : h.Ns mainGlobals mg) (hfa : mg "law" = some (.ref fa))
  {C0 : Addr}
  {C1 : Addr}
  {C2 : Addr}
  {f0 : Addr} {od0 an0 : Option Addr} {sl0 : Array (Option Value)} {oc0 kV0 dc0 pm0 ct0 : Value} {cd0 : Value}
  {f1 : Addr} {od1 an1 : Option Addr} {sl1 : Array (Option Value)} {oc1 kV1 dc1 pm1 ct1 : Value} {cd1 : Value}
  {f2 : Addr} {od2 an2 : Option Addr} {sl2 : Array (Option Value)} {oc2 kV2 dc2 pm2 ct2 : Value} {cd2 : Value}
  {f3 : Addr} {od3 an3 : Option Addr} {sl3 : Array (Option Value)} {oc3 kV3 dc3 pm3 ct3 : Value} {cd3 : Value}
  {f4 : Addr} {od4 an4 : Option Addr} {sl4 : Array (Option Value)} {oc4 kV4 dc4 pm4 ct4 : Value} {cd4 : Value} {T4 : Addr} {tc4 : Value} {td4 : Option Addr} {ts4 : Array (Option Value)} {tn4 : Nat} {tk4_0 : Tok}
  {f5 : Addr} {od5 an5 : Option Addr} {sl5 : Array (Option Value)} {oc5 kV5 dc5 pm5 ct5 : Value} {cd5 : Value}
  {f6 : Addr} {od6 an6 : Option Addr} {sl6 : Array (Option Value)} {oc6 kV6 dc6 pm6 ct6 : Value} {cd6 : Value}
  {f7 : Addr} {od7 an7 : Option Addr} {sl7 : Array (Option Value)} {oc7 kV7 dc7 pm7 ct7 : Value} {cd7 : Value}
  {f8 : Addr} {od8 an8 : Option Addr} {sl8 : Array (Option Value)} {oc8 kV8 dc8 pm8 ct8 : Value} {cd8 : Value}
  {f9 : Addr} {od9 an9 : Option Addr} {sl9 : Array (Option Value)} {oc9 kV9 dc9 pm9 ct9 : Value} {cd9 : Value}
  {f10 : Addr} {od10 an10 : Option Addr} {sl10 : Array (Option Value)} {oc10 kV10 dc10 pm10 ct10 : Value} {cd10 : Value}
  {f11 : Addr} {od11 an11 : Option Addr} {sl11 : Array (Option Value)} {oc11 kV11 dc11 pm11 ct11 : Value} {cd11 : Value}
  {f12 : Addr} {od12 an12 : Option Addr} {sl12 : Array (Option Value)} {oc12 kV12 dc12 pm12 ct12 : Value} {cd12 : Value}
  {f13 : Addr} {od13 an13 : Option Addr} {sl13 : Array (Option Value)} {oc13 kV13 dc13 pm13 ct13 : Value} {cd13 : Value}
  {f14 : Addr} {od14 an14 : Option Addr} {sl14 : Array (Option Value)} {oc14 kV14 dc14 pm14 ct14 : Value} {cd14 : Value}
  {f15 : Addr} {od15 an15 : Option Addr} {sl15 : Array (Option Value)} {oc15 kV15 dc15 pm15 ct15 : Value} {cd15 : Value}
  {f16 : Addr} {od16 an16 : Option Addr} {sl16 : Array (Option Value)} {oc16 kV16 dc16 pm16 ct16 : Value} {cd16 : Value}
  {f17 : Addr} {od17 an17 : Option Addr} {sl17 : Array (Option Value)} {oc17 kV17 dc17 pm17 ct17 : Value} {cd17 : Value}
  {f18 : Addr} {od18 an18 : Option Addr} {sl18 : Array (Option Value)} {oc18 kV18 dc18 pm18 ct18 : Value} {cl18 P18 : Addr} {ce18 : Value} {cf18 : Option Addr} {cg18 : Array Value} {ch18 : Array (Option Value)}
  {tk_gl_MOST_SIGNS : Tok}
  (x0 : PySem.W.nsIn K mainGlobals "LaneError" = some (some (.ref C0)))
  (x1 : ExcF P K "BadNumber" C1 xs_BadNumber)
  (x2 : ExcF P K "BadWord" C2 xs_BadWord)
  (a0 : PySem.W.nsIn K mainGlobals "is_integer" = some (some (.ref f0)))
  (l0 : K.lookup f0 = some ⟨oc0, od0, .func (PySem.W.fnOf "is_integer" "is_integer" (C8.fnArgs s_is_integer) (C8.fnBody s_is_integer) (C8.fnScope s_is_integer) (.none) kV0 dc0 pm0 an0 (cd0) ct0), sl0⟩)
  (c0 : PySem.W.codeIn K (cd0) "is_integer" = true)
  (k0 : PySem.W.keepIn K (.ref f0) = true)
  (a1 : PySem.W.nsIn K mainGlobals "is_within" = some (some (.ref f1)))
  (l1 : K.lookup f1 = some ⟨oc1, od1, .func (PySem.W.fnOf "is_within" "is_within" (C8.fnArgs s_is_within) (C8.fnBody s_is_within) (C8.fnScope s_is_within) (.none) kV1 dc1 pm1 an1 (cd1) ct1), sl1⟩)
  (c1 : PySem.W.codeIn K (cd1) "is_within" = true)
  (k1 : PySem.W.keepIn K (.ref f1) = true)
  (a2 : PySem.W.nsIn K mainGlobals "need_number" = some (some (.ref f2)))
  (l2 : K.lookup f2 = some ⟨oc2, od2, .func (PySem.W.fnOf "need_number" "need_number" (C8.fnArgs s_need_number) (C8.fnBody s_need_number) (C8.fnScope s_need_number) (.none) kV2 dc2 pm2 an2 (cd2) ct2), sl2⟩)
  (c2 : PySem.W.codeIn K (cd2) "need_number" = true)
  (k2 : PySem.W.keepIn K (.ref f2) = true)
  (a3 : PySem.W.nsIn K mainGlobals "is_word" = some (some (.ref f3)))
  (l3 : K.lookup f3 = some ⟨oc3, od3, .func (PySem.W.fnOf "is_word" "is_word" (C8.fnArgs s_is_word) (C8.fnBody s_is_word) (C8.fnScope s_is_word) (.none) kV3 dc3 pm3 an3 (cd3) ct3), sl3⟩)
  (c3 : PySem.W.codeIn K (cd3) "is_word" = true)
  (k3 : PySem.W.keepIn K (.ref f3) = true)
  (a4 : PySem.W.nsIn K mainGlobals "need_word" = some (some (.ref f4)))
  (l4 : K.lookup f4 = some ⟨oc4, od4, .func (PySem.W.fnOf "need_word" "need_word" (C8.fnArgs s_need_word) (C8.fnBody s_need_word) (C8.fnScope s_need_word) (.ref T4) kV4 dc4 pm4 an4 (cd4) ct4), sl4⟩)
  (c4 : PySem.W.codeIn K (cd4) "need_word" = true)
  (k4 : PySem.W.keepIn K (.ref f4) = true)
  (t4 : K.lookup T4 = some ⟨tc4, td4, .seq #[.str "word" tk4_0] tn4, ts4⟩)
  (a5 : PySem.W.nsIn K mainGlobals "least_repeat" = some (some (.ref f5)))
  (l5 : K.lookup f5 = some ⟨oc5, od5, .func (PySem.W.fnOf "least_repeat" "least_repeat" (C8.fnArgs s_least_repeat) (C8.fnBody s_least_repeat) (C8.fnScope s_least_repeat) (.none) kV5 dc5 pm5 an5 (cd5) ct5), sl5⟩)
  (c5 : PySem.W.codeIn K (cd5) "least_repeat" = true)
  (k5 : PySem.W.keepIn K (.ref f5) = true)
  (a6 : PySem.W.nsIn K mainGlobals "is_odd" = some (some (.ref f6)))
  (l6 : K.lookup f6 = some ⟨oc6, od6, .func (PySem.W.fnOf "is_odd" "is_odd" (C8.fnArgs s_is_odd) (C8.fnBody s_is_odd) (C8.fnScope s_is_odd) (.none) kV6 dc6 pm6 an6 (cd6) ct6), sl6⟩)
  (c6 : PySem.W.codeIn K (cd6) "is_odd" = true)
  (k6 : PySem.W.keepIn K (.ref f6) = true)
  (a7 : PySem.W.nsIn K mainGlobals "plain_signs" = some (some (.ref f7)))
  (l7 : K.lookup f7 = some ⟨oc7, od7, .func (PySem.W.fnOf "plain_signs" "plain_signs" (C8.fnArgs s_plain_signs) (C8.fnBody s_plain_signs) (C8.fnScope s_plain_signs) (.none) kV7 dc7 pm7 an7 (cd7) ct7), sl7⟩)
  (c7 : PySem.W.codeIn K (cd7) "plain_signs" = true)
  (k7 : PySem.W.keepIn K (.ref f7) = true)
  (a8 : PySem.W.nsIn K mainGlobals "plain_word" = some (some (.ref f8)))
  (l8 : K.lookup f8 = some ⟨oc8, od8, .func (PySem.W.fnOf "plain_word" "plain_word" (C8.fnArgs s_plain_word) (C8.fnBody s_plain_word) (C8.fnScope s_plain_word) (.none) kV8 dc8 pm8 an8 (cd8) ct8), sl8⟩)
  (c8 : PySem.W.codeIn K (cd8) "plain_word" = true)
  (k8 : PySem.W.keepIn K (.ref f8) = true)
  (a9 : PySem.W.nsIn K mainGlobals "first_repeat" = some (some (.ref f9)))
  (l9 : K.lookup f9 = some ⟨oc9, od9, .func (PySem.W.fnOf "first_repeat" "first_repeat" (C8.fnArgs s_first_repeat) (C8.fnBody s_first_repeat) (C8.fnScope s_first_repeat) (.none) kV9 dc9 pm9 an9 (cd9) ct9), sl9⟩)
  (c9 : PySem.W.codeIn K (cd9) "first_repeat" = true)
  (k9 : PySem.W.keepIn K (.ref f9) = true)
  (a10 : PySem.W.nsIn K mainGlobals "_law_spool" = some (some (.ref f10)))
  (l10 : K.lookup f10 = some ⟨oc10, od10, .func (PySem.W.fnOf "_law_spool" "_law_spool" (C8.fnArgs s__law_spool) (C8.fnBody s__law_spool) (C8.fnScope s__law_spool) (.none) kV10 dc10 pm10 an10 (cd10) ct10), sl10⟩)
  (c10 : PySem.W.codeIn K (cd10) "_law_spool" = true)
  (k10 : PySem.W.keepIn K (.ref f10) = true)
  (a11 : PySem.W.nsIn K mainGlobals "_law_wind" = some (some (.ref f11)))
  (l11 : K.lookup f11 = some ⟨oc11, od11, .func (PySem.W.fnOf "_law_wind" "_law_wind" (C8.fnArgs s__law_wind) (C8.fnBody s__law_wind) (C8.fnScope s__law_wind) (.none) kV11 dc11 pm11 an11 (cd11) ct11), sl11⟩)
  (c11 : PySem.W.codeIn K (cd11) "_law_wind" = true)
  (k11 : PySem.W.keepIn K (.ref f11) = true)
  (a12 : PySem.W.nsIn K mainGlobals "_law_pick" = some (some (.ref f12)))
  (l12 : K.lookup f12 = some ⟨oc12, od12, .func (PySem.W.fnOf "_law_pick" "_law_pick" (C8.fnArgs s__law_pick) (C8.fnBody s__law_pick) (C8.fnScope s__law_pick) (.none) kV12 dc12 pm12 an12 (cd12) ct12), sl12⟩)
  (c12 : PySem.W.codeIn K (cd12) "_law_pick" = true)
  (k12 : PySem.W.keepIn K (.ref f12) = true)
  (a13 : PySem.W.nsIn K mainGlobals "_law_figures" = some (some (.ref f13)))
  (l13 : K.lookup f13 = some ⟨oc13, od13, .func (PySem.W.fnOf "_law_figures" "_law_figures" (C8.fnArgs s__law_figures) (C8.fnBody s__law_figures) (C8.fnScope s__law_figures) (.none) kV13 dc13 pm13 an13 (cd13) ct13), sl13⟩)
  (c13 : PySem.W.codeIn K (cd13) "_law_figures" = true)
  (k13 : PySem.W.keepIn K (.ref f13) = true)
  (a14 : PySem.W.nsIn K mainGlobals "_law_gaps" = some (some (.ref f14)))
  (l14 : K.lookup f14 = some ⟨oc14, od14, .func (PySem.W.fnOf "_law_gaps" "_law_gaps" (C8.fnArgs s__law_gaps) (C8.fnBody s__law_gaps) (C8.fnScope s__law_gaps) (.none) kV14 dc14 pm14 an14 (cd14) ct14), sl14⟩)
  (c14 : PySem.W.codeIn K (cd14) "_law_gaps" = true)
  (k14 : PySem.W.keepIn K (.ref f14) = true)
  (a15 : PySem.W.nsIn K mainGlobals "_law_led" = some (some (.ref f15)))
  (l15 : K.lookup f15 = some ⟨oc15, od15, .func (PySem.W.fnOf "_law_led" "_law_led" (C8.fnArgs s__law_led) (C8.fnBody s__law_led) (C8.fnScope s__law_led) (.none) kV15 dc15 pm15 an15 (cd15) ct15), sl15⟩)
  (c15 : PySem.W.codeIn K (cd15) "_law_led" = true)
  (k15 : PySem.W.keepIn K (.ref f15) = true)
  (a16 : PySem.W.nsIn K mainGlobals "_law_is_free" = some (some (.ref f16)))
  (l16 : K.lookup f16 = some ⟨oc16, od16, .func (PySem.W.fnOf "_law_is_free" "_law_is_free" (C8.fnArgs s__law_is_free) (C8.fnBody s__law_is_free) (C8.fnScope s__law_is_free) (.none) kV16 dc16 pm16 an16 (cd16) ct16), sl16⟩)
  (c16 : PySem.W.codeIn K (cd16) "_law_is_free" = true)
  (k16 : PySem.W.keepIn K (.ref f16) = true)
  (a17 : PySem.W.nsIn K mainGlobals "_law_heard" = some (some (.ref f17)))
  (l17 : K.lookup f17 = some ⟨oc17, od17, .func (PySem.W.fnOf "_law_heard" "_law_heard" (C8.fnArgs s__law_heard) (C8.fnBody s__law_heard) (C8.fnScope s__law_heard) (.none) kV17 dc17 pm17 an17 (cd17) ct17), sl17⟩)
  (c17 : PySem.W.codeIn K (cd17) "_law_heard" = true)
  (k17 : PySem.W.keepIn K (.ref f17) = true)
  (a18 : PySem.W.nsIn K mainGlobals "law" = some (some (.ref f18)))
  (l18 : K.lookup f18 = some ⟨oc18, od18, .func (PySem.W.fnOf "law" "law" (C8.fnArgs s_law) (C8.fnBody s_law) (C8.fnScope s_law) (.none) kV18 dc18 pm18 an18 (.ref cl18) ct18), sl18⟩)
  (c18 : PySem.W.codeIn K (.ref cl18) "law" = true)
  (k18 : PySem.W.keepIn K (.ref f18) = true)
  (m18 : (recsOf q).any (fun d => decide (d.name = "law")) = true)
  (mc18 : K.lookup cl18 = some ⟨ce18, cf18, .fields cg18, ch18⟩)
  (mt18 : cg18[11]? = some (.ref P18))
  (mp18 : K.lookup P18 = none)
  (gl_MOST_SIGNS : PySem.W.nsIn K mainGlobals "MOST_SIGNS" = some (some (.int 2000 tk_gl_MOST_SIGNS)))
  (ob_BadNumber : allF (fun n => PySem.W.kitOne K (.type n) (.ref C1) = some false) tyNames)
  (oe_BadNumber_BadNumber : PySem.W.kitOne K (.ref C1) (.ref C1) = some true)
  (oe_BadNumber_BadWord : PySem.W.kitOne K (.ref C2) (.ref C1) = some false)
  (hx_LaneError_BadNumber : PySem.W.exmOne K (.ref C1) (.ref C0) = some true)
  (hx_LaneError_BadWord : PySem.W.exmOne K (.ref C2) (.ref C0) = some true)
  (z0 : PySem.W.nsIn K mainGlobals "len" = some none)
  (z1 : PySem.W.nsIn K mainGlobals "int" = some none)
  (z2 : PySem.W.nsIn K mainGlobals "abs" = some none)
  (z3 : PySem.W.nsIn K mainGlobals "bool" = some none)
  (z4 : PySem.W.nsIn K mainGlobals "str" = some none)
  (z5 : PySem.W.nsIn K mainGlobals "repr" = some none)
  (z6 : PySem.W.nsIn K mainGlobals "list" = some none)
  (z7 : PySem.W.nsIn K mainGlobals "tuple" = some none)
  (z8 : PySem.W.nsIn K mainGlobals "sorted" = some none)
  (z9 : PySem.W.nsIn K mainGlobals "sum" = some none)
  (z10 : PySem.W.nsIn K mainGlobals "min" = some none)
  (z11 : PySem.W.nsIn K mainGlobals "max" = some none)
  (z12 : PySem.W.nsIn K mainGlobals "any" = some none)
  (z13 : PySem.W.nsIn K mainGlobals "all" = some none)
  (z14 : PySem.W.nsIn K mainGlobals "range" = some none)
  (z15 : PySem.W.nsIn K mainGlobals "isinstance" = some none)
  (z16 : PySem.W.nsIn K mainGlobals "set" = some none)
  (z17 : PySem.W.nsIn K mainGlobals "dict" = some none)
  (z18 : PySem.W.nsIn K mainGlobals "enumerate" = some none)
  (z19 : PySem.W.nsIn K mainGlobals "zip" = some none)
  (z20 : PySem.W.nsIn K mainGlobals "super" = some none) :
  ∃ (fd : FuncData) (cl : Nat → Addr) (ms : List (Str × Addr × Addr × Str)), (∀ t ∈ ms, Maker K mg q t.1 t.2.1 t.2.2.1) ∧ (∀ (s : Shared) (v : Value), BindsTo s fd ⟨[v], []⟩ [("_law_script", v)]) ∧ ∀ base : Heap, K.In base → base.Ns mainGlobals mg → (∀ t ∈ ms, LamX.TabB base mg t.2.1 t.2.2.1) → FnG P w K mg base 10 fa fd ["_law_script"] (spG ⟨K, cl, ms.map fun t => (t.2.2.1, t.2.2.2)⟩ g_law) := by
  have e := hfa.symm.trans (PySem.W.mg_of X N a18)
  cases e
  have hmg : ∀ x ∈ bnames, mg x = none := by
    intro x hx
    simp only [bnames, List.mem_cons, List.not_mem_nil, or_false] at hx
    rcases hx with rfl | rfl | rfl | rfl | rfl | rfl | rfl | rfl | rfl | rfl | rfl | rfl | rfl | rfl | rfl | rfl | rfl | rfl | rfl | rfl | rfl
    · exact PySem.W.mg_none_of X N z0
    · exact PySem.W.mg_none_of X N z1
    · exact PySem.W.mg_none_of X N z2
    · exact PySem.W.mg_none_of X N z3
    · exact PySem.W.mg_none_of X N z4
    · exact PySem.W.mg_none_of X N z5
    · exact PySem.W.mg_none_of X N z6
    · exact PySem.W.mg_none_of X N z7
    · exact PySem.W.mg_none_of X N z8
    · exact PySem.W.mg_none_of X N z9
    · exact PySem.W.mg_none_of X N z10
    · exact PySem.W.mg_none_of X N z11
    · exact PySem.W.mg_none_of X N z12
    · exact PySem.W.mg_none_of X N z13
    · exact PySem.W.mg_none_of X N z14
    · exact PySem.W.mg_none_of X N z15
    · exact PySem.W.mg_none_of X N z16
    · exact PySem.W.mg_none_of X N z17
    · exact PySem.W.mg_none_of X N z18
    · exact PySem.W.mg_none_of X N z19
    · exact PySem.W.mg_none_of X N z20
  refine ⟨PySem.W.fnOf "law" "law" (C8.fnArgs s_law) (C8.fnBody s_law) (C8.fnScope s_law) .none kV18 dc18 pm18 an18 (.ref cl18) ct18, (fun n => ([C0, C1, C2] : List Addr).getD n 0), [("law", cl18, P18, ("law" : Str) ++ ".<locals>." ++ "<lambda>")], ?_, fun s v => .of_eq rfl, fun base _ _ tabs => ?_⟩
  · intro t ht
    simp only [List.mem_cons, List.not_mem_nil, or_false] at ht
    rcases ht with rfl
    · exact maker_of m18 (PySem.W.mg_of X N a18) l18 rfl rfl mc18 mt18 mp18
  let G : Gs := ⟨K, (fun n => ([C0, C1, C2] : List Addr).getD n 0), ([("law", cl18, P18, ("law" : Str) ++ ".<locals>." ++ "<lambda>")] : List (Str × Addr × Addr × Str)).map fun t => (t.2.2.1, t.2.2.2)⟩
  have gl_MOST_SIGNS : ∃ u v, mg "MOST_SIGNS" = some u ∧ RelV v u ∧ ∀ Av H, Rep G Av H (.int 2000) v := ⟨_, .int 2000, PySem.W.mg_of X N gl_MOST_SIGNS, ⟨_, rfl⟩, fun _ _ => rfl⟩
  have ot_BadNumber : OtyOk K mg G otBadNumber := by
    refine ⟨PySem.W.mg_of X N x1.at_, fun n hn => ob_BadNumber.mem n hn, fun c hc => (by cases hc), fun c hc => (by cases hc), fun c hc => ?_, fun c hc => ?_⟩
    · simp only [otBadNumber, List.mem_cons, List.not_mem_nil, or_false] at hc
      rcases hc with rfl
      · exact ⟨oe_BadNumber_BadNumber, x1.kx⟩
    · simp only [otBadNumber, List.mem_cons, List.not_mem_nil, or_false] at hc
      rcases hc with rfl
      · exact ⟨oe_BadNumber_BadWord, x2.kx⟩
  have ex_BadNumber : ExcC P w K mg base G 1 "BadNumber" xs_BadNumber := ExcF.c (c := 1) x1 X N (hmg _ (by decide +kernel))
  have ex_BadWord : ExcC P w K mg base G 2 "BadWord" xs_BadWord := ExcF.c (c := 2) x2 X N (hmg _ (by decide +kernel))
  have xf_BadNumber_part : XfC K (G.c 1) ∧ PySem.W.findIn K (.ref (G.c 1)) "part" = some none := ⟨x1.kx.xf, x1.nf _ (by simp [xs_BadNumber])⟩
  have xf_BadWord_part : XfC K (G.c 2) ∧ PySem.W.findIn K (.ref (G.c 2)) "part" = some none := ⟨x2.kx.xf, x2.nf _ (by simp [xs_BadWord])⟩
  have G_is_integer := fnG_mk (P := P) (w := w) (base := base) (G := G) (k := 0) (mg := mg) (N := n_is_integer) (ps := p_is_integer) (ms := g_is_integer.md) (b := b_is_integer) rfl l0 c0 hmg z_is_integer rfl c_is_integer (d_is_integer)
  have h_is_integer : FnAt P w K mg base 1 G "is_integer" g_is_integer := FnAt.of G_is_integer (PySem.W.mg_of X N a0) k0 (.all fun us hl => match us, hl with | [_], _ => by rfl)
  have G_is_within := fnG_mk (P := P) (w := w) (base := base) (G := G) (k := 1) (mg := mg) (N := n_is_within) (ps := p_is_within) (ms := g_is_within.md) (b := b_is_within) rfl l1 c1 hmg z_is_within rfl c_is_within (d_is_within (h_is_integer.mono (by decide)))
  have h_is_within : FnAt P w K mg base 2 G "is_within" g_is_within := FnAt.of G_is_within (PySem.W.mg_of X N a1) k1 (.all fun us hl => match us, hl with | [_, _, _], _ => by rfl)
  have G_need_number := fnG_mk (P := P) (w := w) (base := base) (G := G) (k := 2) (mg := mg) (N := n_need_number) (ps := p_need_number) (ms := g_need_number.md) (b := b_need_number) rfl l2 c2 hmg z_need_number rfl c_need_number (d_need_number (h_is_within.mono (by decide)) ⟨ex_BadNumber, by decide⟩)
  have h_need_number : FnAt P w K mg base 3 G "need_number" g_need_number := FnAt.of G_need_number (PySem.W.mg_of X N a2) k2 (.all fun us hl => match us, hl with | [_, _, _, _], _ => by rfl)
  have G_is_word := fnG_mk (P := P) (w := w) (base := base) (G := G) (k := 2) (mg := mg) (N := n_is_word) (ps := p_is_word) (ms := g_is_word.md) (b := b_is_word) rfl l3 c3 hmg z_is_word rfl c_is_word (d_is_word (h_is_within.mono (by decide)))
  have h_is_word : FnAt P w K mg base 3 G "is_word" g_is_word := FnAt.of G_is_word (PySem.W.mg_of X N a3) k3 (.all fun us hl => match us, hl with | [_], _ => by rfl)
  have G_need_word := fnG_mk (P := P) (w := w) (base := base) (G := G) (k := 3) (mg := mg) (N := n_need_word) (ps := p_need_word) (ms := g_need_word.md) (b := b_need_word) rfl l4 c4 hmg z_need_word rfl c_need_word (d_need_word (h_is_word.mono (by decide)) ⟨ex_BadWord, by decide⟩)
  have h_need_word : FnAt P w K mg base 4 G "need_word" g_need_word := FnAt.of G_need_word (PySem.W.mg_of X N a4) k4 fun s us X hl => match us, (show us.length = 2 by have z := hl; simp only [p_need_word, List.length_append, List.length_cons, List.length_nil] at z; omega) with | [_, _], _ => BindsTo.of_defaults rfl (X _ _ t4) rfl rfl rfl
  have h_need_word_1 : FnAt P w K mg base 4 G "need_word" (g_need_word.dflt [.str "word"]) := FnAt.dflt (dvs := [.str "word"]) (ds := [.str "word" tk4_0]) G_need_word (PySem.W.mg_of X N a4) k4 (fun s us X hl => match us, (show us.length = 1 by have z := hl; simp only [p_need_word, List.length_append, List.length_cons, List.length_nil] at z; omega) with | [_], _ => BindsTo.of_defaults rfl (X _ _ t4) rfl rfl rfl) (.cons ⟨_, rfl⟩ .nil) (fun _ _ => ⟨_, _, rfl, rfl, rfl⟩) rfl
  have G_least_repeat := fnG_mk (P := P) (w := w) (base := base) (G := G) (k := 0) (mg := mg) (N := n_least_repeat) (ps := p_least_repeat) (ms := g_least_repeat.md) (b := b_least_repeat) rfl l5 c5 hmg z_least_repeat rfl c_least_repeat (d_least_repeat)
  have h_least_repeat : FnAt P w K mg base 1 G "least_repeat" g_least_repeat := FnAt.of G_least_repeat (PySem.W.mg_of X N a5) k5 (.all fun us hl => match us, hl with | [_], _ => by rfl)
  have G_is_odd := fnG_mk (P := P) (w := w) (base := base) (G := G) (k := 0) (mg := mg) (N := n_is_odd) (ps := p_is_odd) (ms := g_is_odd.md) (b := b_is_odd) rfl l6 c6 hmg z_is_odd rfl c_is_odd (d_is_odd)
  have h_is_odd : FnAt P w K mg base 1 G "is_odd" g_is_odd := FnAt.of G_is_odd (PySem.W.mg_of X N a6) k6 (.all fun us hl => match us, hl with | [_], _ => by rfl)
  have G_plain_signs := fnG_mk (P := P) (w := w) (base := base) (G := G) (k := 1) (mg := mg) (N := n_plain_signs) (ps := p_plain_signs) (ms := g_plain_signs.md) (b := b_plain_signs) rfl l7 c7 hmg z_plain_signs rfl c_plain_signs (d_plain_signs (h_is_odd.mono (by decide)))
  have h_plain_signs : FnAt P w K mg base 2 G "plain_signs" g_plain_signs := FnAt.of G_plain_signs (PySem.W.mg_of X N a7) k7 (.all fun us hl => match us, hl with | [_], _ => by rfl)
  have G_plain_word := fnG_mk (P := P) (w := w) (base := base) (G := G) (k := 3) (mg := mg) (N := n_plain_word) (ps := p_plain_word) (ms := g_plain_word.md) (b := b_plain_word) rfl l8 c8 hmg z_plain_word rfl c_plain_word (d_plain_word (h_plain_signs.mono (by decide)) (h_need_number.mono (by decide)) gl_MOST_SIGNS)
  have h_plain_word : FnAt P w K mg base 4 G "plain_word" g_plain_word := FnAt.of G_plain_word (PySem.W.mg_of X N a8) k8 (.all fun us hl => match us, hl with | [_], _ => by rfl)
  have G_first_repeat := fnG_mk (P := P) (w := w) (base := base) (G := G) (k := 4) (mg := mg) (N := n_first_repeat) (ps := p_first_repeat) (ms := g_first_repeat.md) (b := b_first_repeat) rfl l9 c9 hmg z_first_repeat rfl c_first_repeat (d_first_repeat (h_need_word.mono (by decide)) (h_least_repeat.mono (by decide)) (h_need_word_1.mono (by decide)))
  have h_first_repeat : FnAt P w K mg base 5 G "first_repeat" g_first_repeat := FnAt.of G_first_repeat (PySem.W.mg_of X N a9) k9 (.all fun us hl => match us, hl with | [_], _ => by rfl)
  have G__law_spool := fnG_mk (P := P) (w := w) (base := base) (G := G) (k := 0) (mg := mg) (N := n__law_spool) (ps := p__law_spool) (ms := g__law_spool.md) (b := b__law_spool) rfl l10 c10 hmg z__law_spool rfl c__law_spool (d__law_spool)
  have h__law_spool : FnAt P w K mg base 1 G "_law_spool" g__law_spool := FnAt.of G__law_spool (PySem.W.mg_of X N a10) k10 (.all fun us hl => match us, hl with | [_], _ => by rfl)
  have G__law_wind := fnG_mk (P := P) (w := w) (base := base) (G := G) (k := 0) (mg := mg) (N := n__law_wind) (ps := p__law_wind) (ms := g__law_wind.md) (b := b__law_wind) rfl l11 c11 hmg z__law_wind rfl c__law_wind (d__law_wind)
  have h__law_wind : FnAt P w K mg base 1 G "_law_wind" g__law_wind := FnAt.of G__law_wind (PySem.W.mg_of X N a11) k11 (.all fun us hl => match us, hl with | [_, _], _ => by rfl)
  have G__law_pick := fnG_mk (P := P) (w := w) (base := base) (G := G) (k := 1) (mg := mg) (N := n__law_pick) (ps := p__law_pick) (ms := g__law_pick.md) (b := b__law_pick) rfl l12 c12 hmg z__law_pick rfl c__law_pick (d__law_pick (h__law_wind.mono (by decide)))
  have h__law_pick : FnAt P w K mg base 2 G "_law_pick" g__law_pick := FnAt.of G__law_pick (PySem.W.mg_of X N a12) k12 (.all fun us hl => match us, hl with | [_, _], _ => by rfl)
  have G__law_figures := fnG_mk (P := P) (w := w) (base := base) (G := G) (k := 0) (mg := mg) (N := n__law_figures) (ps := p__law_figures) (ms := g__law_figures.md) (b := b__law_figures) rfl l13 c13 hmg z__law_figures rfl c__law_figures (d__law_figures)
  have h__law_figures : FnAt P w K mg base 1 G "_law_figures" g__law_figures := FnAt.of G__law_figures (PySem.W.mg_of X N a13) k13 (.all fun us hl => match us, hl with | [_], _ => by rfl)
  have G__law_gaps := fnG_mk (P := P) (w := w) (base := base) (G := G) (k := 1) (mg := mg) (N := n__law_gaps) (ps := p__law_gaps) (ms := g__law_gaps.md) (b := b__law_gaps) rfl l14 c14 hmg z__law_gaps rfl c__law_gaps (d__law_gaps (h__law_figures.mono (by decide)))
  have h__law_gaps : FnAt P w K mg base 2 G "_law_gaps" g__law_gaps := FnAt.of G__law_gaps (PySem.W.mg_of X N a14) k14 (.all fun us hl => match us, hl with | [_], _ => by rfl)
  have G__law_led := fnG_mk (P := P) (w := w) (base := base) (G := G) (k := 0) (mg := mg) (N := n__law_led) (ps := p__law_led) (ms := g__law_led.md) (b := b__law_led) rfl l15 c15 hmg z__law_led rfl c__law_led (d__law_led)
  have h__law_led : FnAt P w K mg base 1 G "_law_led" g__law_led := FnAt.of G__law_led (PySem.W.mg_of X N a15) k15 (.all fun us hl => match us, hl with | [_], _ => by rfl)
  have G__law_is_free := fnG_mk (P := P) (w := w) (base := base) (G := G) (k := 0) (mg := mg) (N := n__law_is_free) (ps := p__law_is_free) (ms := g__law_is_free.md) (b := b__law_is_free) rfl l16 c16 hmg z__law_is_free rfl c__law_is_free (d__law_is_free)
  have h__law_is_free : FnAt P w K mg base 1 G "_law_is_free" g__law_is_free := FnAt.of G__law_is_free (PySem.W.mg_of X N a16) k16 (.all fun us hl => match us, hl with | [_], _ => by rfl)
  have hh__law_heard : HeardC P w K mg base G "_law_heard" hs__law_heard := by
    refine heardC_mk (G := G) (CS := .ref C0) rfl hmg (PySem.W.mg_of X N a17) k17 l17 c17 (.all fun us hl => match us, hl with | [_], _ => by rfl) z__law_heard c__law_heard (PySem.W.mg_of X N x0) (fun c hc => ?_) (d__law_heard ot_BadNumber xf_BadNumber_part xf_BadWord_part)
    simp only [List.mem_cons, List.not_mem_nil, or_false] at hc
    rcases hc with rfl | rfl
    · exact hx_LaneError_BadNumber
    · exact hx_LaneError_BadWord
  have G_law := fnG_mkL (P := P) (w := w) (base := base) (G := G) (k := 5) (mg := mg) (N := n_law) (ps := p_law) (ms := g_law.md) (b := b_law) (P' := P18) rfl l18 c18 hmg z_law rfl c_law (d_law (h_plain_word.mono (by decide)) (h__law_led.mono (by decide)) (h__law_wind.mono (by decide)) (h__law_pick.mono (by decide)) (h_first_repeat.mono (by decide)) ⟨f8, _, G_plain_word.mono (by decide), PySem.W.mg_of X N a8, k8, fun us ws h1 h2 => match us, ws, h1, h2 with | [], [_], _, _ => by kernel_rfl⟩ (h__law_is_free.mono (by decide)) (h__law_gaps.mono (by decide)) (h__law_spool.mono (by decide)) hh__law_heard) (tabs ("law", cl18, P18, ("law" : Str) ++ ".<locals>." ++ "<lambda>") (by simp)) (by simp [G]) (by intro p hp hq; simp only [G, List.map_cons, List.map_nil, List.mem_cons, List.not_mem_nil, or_false] at hp; rcases hp with rfl <;> first | rfl | (exfalso; simp_all))
  exact G_law
end
end LK47

namespace LK47
open PySem PySem.Spec Eng

theorem draws : Draws g__law_wind := scoop_draws (k1 := 109121) (k2 := 8179) (M1 := 2147483563) (k3 := 85199) (k4 := 8179) (M2 := 2147483579) (c1 := 8179) (k5 := 109121) (k6 := 85199) (M3 := 2147483549) (q := 64) ⟨by decide, by decide⟩ ⟨by decide, by decide⟩ ⟨by decide, by decide⟩ ⟨by decide, by decide⟩ ⟨by decide, by decide⟩ ⟨by decide, by decide⟩ ⟨by decide, by decide⟩ ⟨by decide, by decide⟩ ⟨by decide, by decide⟩ ⟨by decide, by decide⟩ abs2 rest1
theorem picks : Picks g__law_pick := pick_of (nm := "_law_wind") draws
theorem makes : MakesTub g__law_spool := tub_of (k := 60)

/-! ### is_odd: whether the ones of a number are odd in number -/
def parF : Nat → Nat → Bool
  | 0, _ => false
  | k + 1, n => (n % 2 == 1) != parF k (n / 2)
theorem parF_zero : ∀ k, parF k 0 = false
  | 0 => rfl
  | k + 1 => by unfold parF; rw [Nat.zero_div, parF_zero k]; rfl
def oddB : CB := match b_is_odd with
  | .cons _ (.cons (.whl _ _ b) _) => b
  | _ => .nil
theorem eq_bb {a b : Bool} : eqD (.bl a) (.bl b) = some (a == b) := rfl
theorem odd_step {n : Nat} {o : Bool} : exb oddB [.sh (.int (n : Nat)), .sh (.bl o)] = .nx [.sh (.int ((n / 2 : Nat) : Int)), .sh (.bl (o != (n % 2 == 1)))] := by
  have c2 : (0 < (2 : Int)) = True := by simp
  have e1 : ((n : Int) % 2 == 1) = (n % 2 == 1) := by
    rw [Bool.eq_iff_iff]; simp <;> omega
  have e2 : ((n / 2 : Nat) : Int) = (n : Int) / 2 := by omega
  rw [e2]
  generalize (n % 2 == 1) = R at *
  generalize (n : Int) = N at *
  unfold oddB b_is_odd
  dsimp only
  simp only [Q.b_ok, Q.b_ex, Q.b_bd, Q.t_ok, Q.t_ex, Q.t_bd, Q.s_nx, Q.s_rt, Q.s_bk, Q.s_ct, Q.s_ex, Q.s_bd, Q.p_sm, Q.p_no, Q.r_sh, Q.r_l, Q.r_t, Q.r_d, Q.w_sh, Q.w_fr, Q.w_br, Q.d_sh, Q.d_fr, Q.d_br, Q.a_sh, Q.a_ow, Q.a_io, Q.a_lk, Q.m_ow, Q.m_io, Q.m_sh, Q.h_sh, Q.h_fr, Q.h_br, Q.c_sh, Q.c_fr, Q.c_br, Q.v_sh, Q.v_fr, Q.e_val, Q.e_tst, Q.e_io, Q.e_md, Q.kC', Q.kV', Q.kU', Q.kB', Q.kP0, Q.kP1, Q.kS', Q.kT', Q.kCh', Q.bl_s, Q.kVa, Q.kN', Q.kI', Q.kIT, Q.kAV, Q.kAT, Q.kSh, Q.kNl, Q.kCo, Q.kVw', Q.kSt, Q.kTu, Q.kLs, Q.kBi', Q.dr_n, Q.dr_c, Q.kMm', Q.kMt, Q.kMf, Q.kCa, Q.kCk, Q.cs, Q.av_n, Q.av_s, Q.av_i, Q.ai_n, Q.ai_s, Q.ai_i, Q.io_s, Q.io_i, Q.st_n, Q.st_c, Q.mu_l, Q.mu_d, Q.mu_o, Q.sa, Q.fa, Q.f_no, Q.f_sh, Q.f_ow, Q.bv, Q.ag_n, Q.ag_t, Q.an, Q.at_, Q.as_n, Q.as_c, Q.pv, Q.rt_s, Q.rt_f, Q.rt_b, Q.kIv, Q.kYs, Q.os_n, Q.os_t, Q.os_f, Q.is_t, Q.is_f, Q.is_n, Q.rs, Q.so, Q.l_int, Q.le_int, Q.g_int, Q.ge_int, Q.eq_d, Q.ne_d, Q.is_non, Q.bo', Q.tr_b, Q.tr_i, Q.tr_l, Q.ad_i, Q.sb_i, Q.ml_i, Q.fd_i, Q.md_i, Q.pw_i, Q.ad_l, Q.su_l, Q.su_t, Q.bi1', Q.i_i, Q.i_b, Q.ab_i, Q.le_l, Q.le_t, Q.li_l, Q.tu_l, Q.ng_i, Q.sx_l, Q.bm_s, exb, exs, evc, evl, evi, List.getElem?_cons_zero, List.getElem?_cons_succ, List.getElem?_nil, List.set_cons_zero, List.set_cons_succ, List.length_cons, List.length_nil, Option.bind_some, Option.bind_none, Option.map_some, Option.map_none, List.map_cons, List.map_nil, List.replicate_zero, List.replicate_succ, List.append_nil, List.cons_append, List.nil_append, Bool.not_true, Bool.not_false, Bool.false_eq_true, if_true, if_false, ite_true, ite_false, Option.isSome_some, Option.isSome_none, Bool.and_true, Bool.true_and, Bool.and_false, Bool.false_and, Bool.or_true, Bool.true_or, Bool.or_false, Bool.false_or, Nat.reduceAdd, Nat.reduceSub, Nat.sub_self, Nat.add_zero, Nat.zero_add, Nat.reduceLT, Nat.reduceLeDiff, reduceCtorEq, List.nodup_nil, List.nodup_cons, List.not_mem_nil, not_false_eq_true, and_self, and_true, true_and, decide_true, decide_false, List.tail_cons, List.headD_cons, CE.isNoe, CL.len, Bool.true_eq_false, Int.reduceLT, Int.reduceLE, Int.reduceToNat, reduceIte, c2, e1, eq_ii, eq_bb, fd2, -Q.fd_i]
  rfl
theorem odd_loop : ∀ (k f n : Nat) (o : Bool), n < 2 ^ k → k < f → whlF (evc (.cmp .Gt (.var 0) (.int 0))).tst (exb oddB) f [.sh (.int (n : Nat)), .sh (.bl o)] = .nx [.sh (.int 0), .sh (.bl (o != parF k n))]
  | k, 0, n, o, _, hf => by omega
  | k, f + 1, n, o, hn, hf => by
    have tst : (evc (.cmp .Gt (.var 0) (.int 0))).tst [.sh (.int (n : Nat)), .sh (.bl o)] = .ok (decide ((0 : Int) < (n : Int))) [.sh (.int (n : Nat)), .sh (.bl o)] := rfl
    by_cases z : n = 0
    · subst z
      rw [whl_end tst, parF_zero]
      cases o <;> rfl
    · rw [decide_eq_true (show (0 : Int) < (n : Int) by omega)] at tst
      cases k with
      | zero => simp at hn; omega
      | succ k =>
        rw [whl_go tst odd_step, odd_loop k f (n / 2) _ (by rw [Nat.pow_succ] at hn; omega) (by omega)]
        rw [show parF (k + 1) n = ((n % 2 == 1) != parF k (n / 2)) from rfl]
        cases o <;> cases (n % 2 == 1) <;> cases parF k (n / 2) <;> rfl
theorem odd_eq {n : Nat} (hn : n < 2 ^ 20) : g_is_odd.m [.int (n : Nat)] = .ok false (.bl (parF 20 n)) [] := by
  have w := odd_loop 20 4096 n false hn (by omega)
  have go : exb b_is_odd (slotsOf 2 [false] [.int (n : Nat)]) = .rt false (.bl (parF 20 n)) [.sh (.int 0), .sh (.bl (parF 20 n))] := by
    have e0 : slotsOf 2 [false] [.int (n : Nat)] = [.sh (.int (n : Nat)), .no] := rfl
    have e1 : exs (.asg (.nm 1) (.bl false)) [.sh (.int (n : Nat)), .no] = .nx [.sh (.int (n : Nat)), .sh (.bl false)] := rfl
    rw [e0]
    refine (exb_nx e1).trans ((exb_wh w).trans ?_)
    rw [show (false != parF 20 n) = parF 20 n by cases parF 20 n <;> rfl]
    exact exb_rt rfl
  generalize (n : Int) = N at *
  generalize parF 20 n = P at *
  show runS 2 [false] (exb b_is_odd) [.int N] = _
  exact runS_rt (n := 2) (ds := [.int N]) (ms := [false]) (o := []) (b := exb b_is_odd) (by rfl) go (by rfl)
end LK47

namespace LK47
open PySem PySem.Spec Eng
/-! ### plain_signs -/
/-- found, the last one first, and the ones since, behind t turns -/
def stF : Nat → List Nat × Nat
  | 0 => ([], 0)
  | t + 1 => if parF 20 (t + 1) then ((stF t).1, (stF t).2 + 1) else ((stF t).2 :: (stF t).1, 0)
/-- the same, told from a state on -/
def stG : Nat → Nat → List Nat → Nat → List Nat
  | 0, _, f, _ => f
  | k + 1, t, f, o => if parF 20 (t + 1) then stG k (t + 1) f (o + 1) else stG k (t + 1) (o :: f) 0
theorem stG_eq : ∀ (k t : Nat), stG k t (stF t).1 (stF t).2 = (stF (t + k)).1
  | 0, t => rfl
  | k + 1, t => by
    have := stG_eq k (t + 1)
    rw [show t + (k + 1) = t + 1 + k by omega, ← this]
    rw [show stG (k + 1) t (stF t).1 (stF t).2 = if parF 20 (t + 1) then stG k (t + 1) (stF t).1 ((stF t).2 + 1) else stG k (t + 1) ((stF t).2 :: (stF t).1) 0 from rfl]
    rw [show stF (t + 1) = if parF 20 (t + 1) then ((stF t).1, (stF t).2 + 1) else ((stF t).2 :: (stF t).1, 0) from rfl]
    cases parF 20 (t + 1) <;> rfl
def signs : List Nat := (stG 4001 0 [] 0).reverse
theorem signs_eq : signs = (stF 4001).1.reverse := by
  unfold signs
  rw [show stG 4001 0 [] 0 = stG 4001 0 (stF 0).1 (stF 0).2 from rfl, stG_eq]
theorem signs_len : signs.length = 2000 := by decide +kernel
theorem stF_mono (t k : Nat) : ∃ l, (stF (t + k)).1 = l ++ (stF t).1 := by
  induction k with
  | zero => exact ⟨[], rfl⟩
  | succ k ih =>
    obtain ⟨l, e⟩ := ih
    rw [show stF (t + (k + 1)) = if parF 20 (t + k + 1) then ((stF (t + k)).1, (stF (t + k)).2 + 1) else ((stF (t + k)).2 :: (stF (t + k)).1, 0) from rfl]
    cases parF 20 (t + k + 1)
    · exact ⟨(stF (t + k)).2 :: l, by simp [e]⟩
    · exact ⟨l, e⟩
theorem stF_take {t n : Nat} (ht : t ≤ 4001) (hn : (stF t).1.length = n) : (stF t).1.reverse = signs.take n := by
  obtain ⟨l, e⟩ := stF_mono t (4001 - t)
  rw [show t + (4001 - t) = 4001 by omega] at e
  rw [signs_eq, e, List.reverse_append, ← hn, ← List.length_reverse (as := (stF t).1), List.take_left']
  rfl
end LK47

namespace LK47
open PySem PySem.Spec Eng
theorem tst_call {x : Str} {sg : FSig} {l : CL} {S S1 : SS} {b : Bool} (h : (evc (.call x sg l)).val S = .ok (.sh (.bl b)) S1) : (evc (.call x sg l)).tst S = .ok b S1 := by
  show kTest (evc (.call x sg l)).val S = _
  unfold kTest
  rw [h]; rfl
/-- x.append(y), x an owned list -/
theorem append_of {i : Nat} {e : CE} {S S1 : SS} {xs : List D} {y : D} (hi : S[i]? = some (.ow (.lst xs))) (he : kShr (evc e).val S = .ok y S1) (hi1 : S1[i]? = some (.ow (.lst xs))) (hl : xs.length < 4000) : exs (.expr (.mm .append i (.cons e .nil))) S = .nx (S1.set i (.ow (.lst (xs ++ [y])))) := by
  have e1 : (evl (.cons e .nil)).sh S = .ok [y] S1 := by
    show ((kShr (evc e).val S).bind _) = _
    rw [he]; rfl
  have e2 : (evc (.mm .append i (.cons e .nil))).val S = .ok (.sh .non) (S1.set i (.ow (.lst (xs ++ [y])))) := by
    show kMm isSeqL (mmD .append) i (evl (.cons e .nil)).sh S = _
    unfold kMm
    rw [hi]
    show ((evl (.cons e .nil)).sh S).bind _ = _
    rw [e1]
    show (match (S1[i]?).bind SV.mu with | some d => _ | none => _) = _
    rw [hi1]
    show (match (if xs.length < sizeLine then some (D.non, D.lst (xs ++ [y])) else none) with | some (y, d') => (match setAt S1 i d' with | some S2 => R.ok (RV.sh y) S2 | none => .bad) | none => .bad) = _
    rw [if_pos (sizeLine_big (by omega))]
    show (match setAt S1 i (.lst (xs ++ [y])) with | some S2 => R.ok (RV.sh .non) S2 | none => .bad) = _
    have : setAt S1 i (.lst (xs ++ [y])) = some (S1.set i (.ow (.lst (xs ++ [y])))) := by unfold setAt; rw [hi1]
    rw [this]
  rw [exs, e2]; rfl
def natD (n : Nat) : D := .int (n : Nat)
def sgB : CB := match b_plain_signs with
  | .cons _ (.cons (.whl _ _ b) _) => b
  | _ => .nil
def stS (m t : Nat) : SS := [.sh (.int (m : Nat)), .ow (.lst ((stF t).1.reverse.map natD)), .sh (.int ((stF t).2 : Nat)), .sh (.int ((t + 1 : Nat) : Int))]
theorem stF_le : ∀ t, (stF t).1.length ≤ t
  | 0 => Nat.le_refl _
  | t + 1 => by
    have := stF_le t
    rw [show stF (t + 1) = if parF 20 (t + 1) then ((stF t).1, (stF t).2 + 1) else ((stF t).2 :: (stF t).1, 0) from rfl]
    cases parF 20 (t + 1)
    · show ((stF t).2 :: (stF t).1).length ≤ _
      simp <;> omega
    · show (stF t).1.length ≤ _
      omega
theorem sg_step {m t : Nat} (ht : t < 4001) (hl : (stF t).1.length < 4000) : exb sgB (stS m t) = .nx (stS m (t + 1)) := by
  have ho := odd_eq (n := t + 1) (by omega)
  have hmd : g_is_odd.md = [false] := rfl
  have hc : (evc (.call "is_odd" g_is_odd (.cons (.var 3) .nil))).val (stS m t) = .ok (.sh (.bl (parF 20 (t + 1)))) (stS m t) := call1 (fr := false) hmd rfl ho
  have hs : stF (t + 1) = if parF 20 (t + 1) then ((stF t).1, (stF t).2 + 1) else ((stF t).2 :: (stF t).1, 0) := rfl
  have c1 : ((t + 1 + 1 : Nat) : Int) = ((t + 1 : Nat) : Int) + 1 := by omega
  have eb : sgB = .cons (.ifs (.call "is_odd" g_is_odd (.cons (.var 3) .nil)) (.cons (.asg (.nm 2) (.bin .Add (.var 2) (.int 1))) .nil) (.cons (.expr (.mm .append 1 (.cons (.var 2) .nil))) (.cons (.asg (.nm 2) (.int 0)) .nil))) (.cons (.asg (.nm 3) (.bin .Add (.var 3) (.int 1))) .nil) := rfl
  rw [eb]
  cases hp : parF 20 (t + 1) with
  | true =>
    rw [hp] at hc hs
    have hs : stF (t + 1) = ((stF t).1, (stF t).2 + 1) := hs
    have c2 : (((stF t).2 + 1 : Nat) : Int) = ((stF t).2 : Int) + 1 := by omega
    have a1 : exs (.ifs (.call "is_odd" g_is_odd (.cons (.var 3) .nil)) (.cons (.asg (.nm 2) (.bin .Add (.var 2) (.int 1))) .nil) (.cons (.expr (.mm .append 1 (.cons (.var 2) .nil))) (.cons (.asg (.nm 2) (.int 0)) .nil))) (stS m t) = .nx [.sh (.int (m : Nat)), .ow (.lst ((stF t).1.reverse.map natD)), .sh (.int (((stF t).2 : Int) + 1)), .sh (.int ((t + 1 : Nat) : Int))] := by
      rw [ifs_t (tst_call hc)]
      rfl
    rw [exb_nx a1]
    unfold stS
    rw [hs, c1]
    show _ = F.nx [.sh (.int (m : Nat)), .ow (.lst ((stF t).1.reverse.map natD)), .sh (.int (((stF t).2 + 1 : Nat) : Int)), _]
    rw [c2]
    rfl
  | false =>
    rw [hp] at hc hs
    have hs : stF (t + 1) = ((stF t).2 :: (stF t).1, 0) := hs
    have ap := append_of (i := 1) (e := .var 2) (S := stS m t) (S1 := stS m t) (xs := (stF t).1.reverse.map natD) (y := natD (stF t).2) rfl rfl rfl (by rw [List.length_map, List.length_reverse]; exact hl)
    have a1 : exs (.ifs (.call "is_odd" g_is_odd (.cons (.var 3) .nil)) (.cons (.asg (.nm 2) (.bin .Add (.var 2) (.int 1))) .nil) (.cons (.expr (.mm .append 1 (.cons (.var 2) .nil))) (.cons (.asg (.nm 2) (.int 0)) .nil))) (stS m t) = .nx [.sh (.int (m : Nat)), .ow (.lst ((stF t).1.reverse.map natD ++ [natD (stF t).2])), .sh (.int 0), .sh (.int ((t + 1 : Nat) : Int))] := by
      rw [ifs_f (tst_call hc), exb_nx ap]
      rfl
    rw [exb_nx a1]
    unfold stS
    rw [hs, c1]
    show _ = F.nx [.sh (.int (m : Nat)), .ow (.lst (((stF t).2 :: (stF t).1).reverse.map natD)), .sh (.int ((0 : Nat) : Int)), _]
    rw [List.reverse_cons, List.map_append]
    rfl
end LK47

namespace LK47
open PySem PySem.Spec Eng
theorem stF_end : (stF 4001).1.length = 2000 := by rw [← List.length_reverse, ← signs_eq, signs_len]
theorem stF_more (t : Nat) : (stF (t + 1)).1.length ≤ (stF t).1.length + 1 := by
  rw [show stF (t + 1) = if parF 20 (t + 1) then ((stF t).1, (stF t).2 + 1) else ((stF t).2 :: (stF t).1, 0) from rfl]
  cases parF 20 (t + 1)
  · exact Nat.le_refl _
  · exact Nat.le_succ _
theorem sg_tst {m t : Nat} : (evc (.cmp .Lt (.bi .len (.cons (.var 1) .nil)) (.var 0))).tst (stS m t) = .ok (decide (((stF t).1.length : Int) < (m : Int))) (stS m t) := by
  have hl : (((stF t).1.reverse.map natD).length : Int) = ((stF t).1.length : Int) := by rw [List.length_map, List.length_reverse]
  rw [← hl]
  rfl
theorem sg_loop {m : Nat} (hm : m ≤ 2000) : ∀ (k t f : Nat), t + k = 4001 → k < f → (stF t).1.length ≤ m →
    ∃ t', whlF (evc (.cmp .Lt (.bi .len (.cons (.var 1) .nil)) (.var 0))).tst (exb sgB) f (stS m t) = .nx (stS m t') ∧ t' ≤ 4001 ∧ (stF t').1.length = m := by
  intro k
  induction k with
  | zero =>
    intro t f e hf hl
    obtain rfl : t = 4001 := by omega
    cases f with
    | zero => omega
    | succ f =>
      have h2 := stF_end
      refine ⟨4001, whl_end (sg_tst.trans ?_), Nat.le_refl _, by omega⟩
      rw [decide_eq_false (by omega)]
  | succ k ih =>
    intro t f e hf hl
    cases f with
    | zero => omega
    | succ f =>
      by_cases z : (stF t).1.length < m
      · have h1 := stF_more t
        have h2 := stF_le t
        obtain ⟨t', e1, e2, e3⟩ := ih (t + 1) f (by omega) (by omega) (by omega)
        refine ⟨t', ?_, e2, e3⟩
        rw [whl_go (sg_tst.trans (by rw [decide_eq_true (show ((stF t).1.length : Int) < (m : Int) by omega)])) (sg_step (by omega) (by omega))]
        exact e1
      · refine ⟨t, whl_end (sg_tst.trans ?_), by omega, by omega⟩
        rw [decide_eq_false (by omega)]
theorem signs_ok {m : Nat} (hm : m ≤ 2000) : g_plain_signs.m [.int (m : Nat)] = .ok false (.tup ((signs.take m).map natD)) [] := by
  obtain ⟨t, e, ht, hl⟩ := sg_loop hm 4001 0 4096 rfl (by omega) (by show 0 ≤ m; omega)
  have tk := stF_take ht hl
  have go : exb b_plain_signs (slotsOf 4 [false] [.int (m : Nat)]) = .rt false (.tup ((signs.take m).map natD)) (stS m t) := by
    have e0 : slotsOf 4 [false] [.int (m : Nat)] = [.sh (.int (m : Nat)), .no, .no, .no] := rfl
    have e1 : exs (.parl [1, 2, 3] (.cons (.lst .nil) (.cons (.int 0) (.cons (.int 1) .nil)))) [.sh (.int (m : Nat)), .no, .no, .no] = .nx (stS m 0) := rfl
    rw [e0]
    refine (exb_nx e1).trans ((exb_wh e).trans (exb_rt ?_))
    rw [← tk]
    rfl
  unfold stS at go
  generalize (m : Int) = M at *
  generalize (signs.take m).map natD = T at *
  show runS 4 [false] (exb b_plain_signs) [.int M] = _
  exact runS_rt (n := 4) (ds := [.int M]) (ms := [false]) (o := []) (b := exb b_plain_signs) (by rfl) go (by rfl)
end LK47

namespace LK47
open PySem PySem.Spec Eng
theorem integer_int (i : Int) : g_is_integer.m [.int i] = .ok false (.bl true) [] := rfl
theorem nonN : Eng.isNon .non = true := rfl
theorem nonI : ∀ a, Eng.isNon (.int a) = false := fun _ => rfl
theorem within2 {i a b : Int} (h : a ≤ i) (h2 : i ≤ b) : g_is_within.m [.int i, .int a, .int b] = .ok false (.bl true) [] := by
  have hi := integer_int i
  have hmd : g_is_integer.md = [false] := rfl
  have e1 : (a ≤ i) = True := eq_true h
  have e2 : (i ≤ b) = True := eq_true h2
  unfold g_is_within b_is_within
  simp only [Q.b_ok, Q.b_ex, Q.b_bd, Q.t_ok, Q.t_ex, Q.t_bd, Q.s_nx, Q.s_rt, Q.s_bk, Q.s_ct, Q.s_ex, Q.s_bd, Q.p_sm, Q.p_no, Q.r_sh, Q.r_l, Q.r_t, Q.r_d, Q.w_sh, Q.w_fr, Q.w_br, Q.d_sh, Q.d_fr, Q.d_br, Q.a_sh, Q.a_ow, Q.a_io, Q.a_lk, Q.m_ow, Q.m_io, Q.m_sh, Q.h_sh, Q.h_fr, Q.h_br, Q.c_sh, Q.c_fr, Q.c_br, Q.v_sh, Q.v_fr, Q.e_val, Q.e_tst, Q.e_io, Q.e_md, Q.kC', Q.kV', Q.kU', Q.kB', Q.kP0, Q.kP1, Q.kS', Q.kT', Q.kCh', Q.bl_s, Q.kVa, Q.kN', Q.kI', Q.kIT, Q.kAV, Q.kAT, Q.kSh, Q.kNl, Q.kCo, Q.kVw', Q.kSt, Q.kTu, Q.kLs, Q.kBi', Q.dr_n, Q.dr_c, Q.kMm', Q.kMt, Q.kMf, Q.kCa, Q.kCk, Q.cs, Q.av_n, Q.av_s, Q.av_i, Q.ai_n, Q.ai_s, Q.ai_i, Q.io_s, Q.io_i, Q.st_n, Q.st_c, Q.mu_l, Q.mu_d, Q.mu_o, Q.sa, Q.fa, Q.f_no, Q.f_sh, Q.f_ow, Q.bv, Q.ag_n, Q.ag_t, Q.an, Q.at_, Q.as_n, Q.as_c, Q.pv, Q.rt_s, Q.rt_f, Q.rt_b, Q.kIv, Q.kYs, Q.os_n, Q.os_t, Q.os_f, Q.is_t, Q.is_f, Q.is_n, Q.rs, Q.so, Q.l_int, Q.le_int, Q.g_int, Q.ge_int, Q.eq_d, Q.ne_d, Q.is_non, Q.bo', Q.tr_b, Q.tr_i, Q.tr_l, Q.ad_i, Q.sb_i, Q.ml_i, Q.fd_i, Q.md_i, Q.pw_i, Q.ad_l, Q.su_l, Q.su_t, Q.bi1', Q.i_i, Q.i_b, Q.ab_i, Q.le_l, Q.le_t, Q.li_l, Q.tu_l, Q.ng_i, Q.sx_l, Q.bm_s, exb, exs, evc, evl, evi, List.getElem?_cons_zero, List.getElem?_cons_succ, List.getElem?_nil, List.set_cons_zero, List.set_cons_succ, List.length_cons, List.length_nil, Option.bind_some, Option.bind_none, Option.map_some, Option.map_none, List.map_cons, List.map_nil, List.replicate_zero, List.replicate_succ, List.append_nil, List.cons_append, List.nil_append, Bool.not_true, Bool.not_false, Bool.false_eq_true, if_true, if_false, ite_true, ite_false, Option.isSome_some, Option.isSome_none, Bool.and_true, Bool.true_and, Bool.and_false, Bool.false_and, Bool.or_true, Bool.true_or, Bool.or_false, Bool.false_or, Nat.reduceAdd, Nat.reduceSub, Nat.sub_self, Nat.add_zero, Nat.zero_add, Nat.reduceLT, Nat.reduceLeDiff, reduceCtorEq, List.nodup_nil, List.nodup_cons, List.not_mem_nil, not_false_eq_true, and_self, and_true, true_and, decide_true, decide_false, List.tail_cons, List.headD_cons, CE.isNoe, CL.len, Bool.true_eq_false, Int.reduceLT, Int.reduceLE, Int.reduceToNat, reduceIte, hi, hmd, e1, e2, nonN, nonI]
theorem need_num {i : Int} (h : 0 ≤ i) (h2 : i ≤ 2000) : g_need_number.m [.int i, .str "many", .int 0, .int 2000] = .ok false .non [] := by
  have hw := within2 h h2
  have hmd : g_is_within.md = [false, false, false] := rfl
  have go : exb b_need_number (slotsOf 4 [false, false, false, false] [.int i, .str "many", .int 0, .int 2000]) = .nx [.sh (.int i), .sh (.str "many"), .sh (.int 0), .sh (.int 2000)] := by
    have e0 : slotsOf 4 [false, false, false, false] [.int i, .str "many", .int 0, .int 2000] = [.sh (.int i), .sh (.str "many"), .sh (.int 0), .sh (.int 2000)] := rfl
    rw [e0]
    unfold b_need_number
    generalize g_is_within = GW at *
    simp only [Q.b_ok, Q.b_ex, Q.b_bd, Q.t_ok, Q.t_ex, Q.t_bd, Q.s_nx, Q.s_rt, Q.s_bk, Q.s_ct, Q.s_ex, Q.s_bd, Q.p_sm, Q.p_no, Q.r_sh, Q.r_l, Q.r_t, Q.r_d, Q.w_sh, Q.w_fr, Q.w_br, Q.d_sh, Q.d_fr, Q.d_br, Q.a_sh, Q.a_ow, Q.a_io, Q.a_lk, Q.m_ow, Q.m_io, Q.m_sh, Q.h_sh, Q.h_fr, Q.h_br, Q.c_sh, Q.c_fr, Q.c_br, Q.v_sh, Q.v_fr, Q.e_val, Q.e_tst, Q.e_io, Q.e_md, Q.kC', Q.kV', Q.kU', Q.kB', Q.kP0, Q.kP1, Q.kS', Q.kT', Q.kCh', Q.bl_s, Q.kVa, Q.kN', Q.kI', Q.kIT, Q.kAV, Q.kAT, Q.kSh, Q.kNl, Q.kCo, Q.kVw', Q.kSt, Q.kTu, Q.kLs, Q.kBi', Q.dr_n, Q.dr_c, Q.kMm', Q.kMt, Q.kMf, Q.kCa, Q.kCk, Q.cs, Q.av_n, Q.av_s, Q.av_i, Q.ai_n, Q.ai_s, Q.ai_i, Q.io_s, Q.io_i, Q.st_n, Q.st_c, Q.mu_l, Q.mu_d, Q.mu_o, Q.sa, Q.fa, Q.f_no, Q.f_sh, Q.f_ow, Q.bv, Q.ag_n, Q.ag_t, Q.an, Q.at_, Q.as_n, Q.as_c, Q.pv, Q.rt_s, Q.rt_f, Q.rt_b, Q.kIv, Q.kYs, Q.os_n, Q.os_t, Q.os_f, Q.is_t, Q.is_f, Q.is_n, Q.rs, Q.so, Q.l_int, Q.le_int, Q.g_int, Q.ge_int, Q.eq_d, Q.ne_d, Q.is_non, Q.bo', Q.tr_b, Q.tr_i, Q.tr_l, Q.ad_i, Q.sb_i, Q.ml_i, Q.fd_i, Q.md_i, Q.pw_i, Q.ad_l, Q.su_l, Q.su_t, Q.bi1', Q.i_i, Q.i_b, Q.ab_i, Q.le_l, Q.le_t, Q.li_l, Q.tu_l, Q.ng_i, Q.sx_l, Q.bm_s, exb, exs, evc, evl, evi, List.getElem?_cons_zero, List.getElem?_cons_succ, List.getElem?_nil, List.set_cons_zero, List.set_cons_succ, List.length_cons, List.length_nil, Option.bind_some, Option.bind_none, Option.map_some, Option.map_none, List.map_cons, List.map_nil, List.replicate_zero, List.replicate_succ, List.append_nil, List.cons_append, List.nil_append, Bool.not_true, Bool.not_false, Bool.false_eq_true, if_true, if_false, ite_true, ite_false, Option.isSome_some, Option.isSome_none, Bool.and_true, Bool.true_and, Bool.and_false, Bool.false_and, Bool.or_true, Bool.true_or, Bool.or_false, Bool.false_or, Nat.reduceAdd, Nat.reduceSub, Nat.sub_self, Nat.add_zero, Nat.zero_add, Nat.reduceLT, Nat.reduceLeDiff, reduceCtorEq, List.nodup_nil, List.nodup_cons, List.not_mem_nil, not_false_eq_true, and_self, and_true, true_and, decide_true, decide_false, List.tail_cons, List.headD_cons, CE.isNoe, CL.len, Bool.true_eq_false, Int.reduceLT, Int.reduceLE, Int.reduceToNat, reduceIte, hw, hmd]
  show runS 4 [false, false, false, false] (exb b_need_number) [.int i, .str "many", .int 0, .int 2000] = _
  unfold runS
  rw [if_pos (by rfl), go]
  rfl
theorem word_of {m : Nat} (hm : m ≤ 2000) : g_plain_word.m [.int (m : Nat)] = .ok false (.tup ((signs.take m).map natD)) [] := by
  have hn := need_num (i := (m : Int)) (by omega) (by omega)
  have hs := signs_ok hm
  have hmd : g_need_number.md = [false, false, false, false] := rfl
  have hmd2 : g_plain_signs.md = [false] := rfl
  generalize (m : Int) = M at *
  generalize (signs.take m).map natD = T at *
  have e1 : (evc (.call "need_number" g_need_number (.cons (.var 0) (.cons (.str "many") (.cons (.int 0) (.cons (.glob "MOST_SIGNS" (.int 2000)) .nil)))))).val [.sh (.int M)] = .ok (.sh .non) [.sh (.int M)] := by
    generalize g_need_number = GN at *
    simp only [Q.b_ok, Q.b_ex, Q.b_bd, Q.t_ok, Q.t_ex, Q.t_bd, Q.s_nx, Q.s_rt, Q.s_bk, Q.s_ct, Q.s_ex, Q.s_bd, Q.p_sm, Q.p_no, Q.r_sh, Q.r_l, Q.r_t, Q.r_d, Q.w_sh, Q.w_fr, Q.w_br, Q.d_sh, Q.d_fr, Q.d_br, Q.a_sh, Q.a_ow, Q.a_io, Q.a_lk, Q.m_ow, Q.m_io, Q.m_sh, Q.h_sh, Q.h_fr, Q.h_br, Q.c_sh, Q.c_fr, Q.c_br, Q.v_sh, Q.v_fr, Q.e_val, Q.e_tst, Q.e_io, Q.e_md, Q.kC', Q.kV', Q.kU', Q.kB', Q.kP0, Q.kP1, Q.kS', Q.kT', Q.kCh', Q.bl_s, Q.kVa, Q.kN', Q.kI', Q.kIT, Q.kAV, Q.kAT, Q.kSh, Q.kNl, Q.kCo, Q.kVw', Q.kSt, Q.kTu, Q.kLs, Q.kBi', Q.dr_n, Q.dr_c, Q.kMm', Q.kMt, Q.kMf, Q.kCa, Q.kCk, Q.cs, Q.av_n, Q.av_s, Q.av_i, Q.ai_n, Q.ai_s, Q.ai_i, Q.io_s, Q.io_i, Q.st_n, Q.st_c, Q.mu_l, Q.mu_d, Q.mu_o, Q.sa, Q.fa, Q.f_no, Q.f_sh, Q.f_ow, Q.bv, Q.ag_n, Q.ag_t, Q.an, Q.at_, Q.as_n, Q.as_c, Q.pv, Q.rt_s, Q.rt_f, Q.rt_b, Q.kIv, Q.kYs, Q.os_n, Q.os_t, Q.os_f, Q.is_t, Q.is_f, Q.is_n, Q.rs, Q.so, Q.l_int, Q.le_int, Q.g_int, Q.ge_int, Q.eq_d, Q.ne_d, Q.is_non, Q.bo', Q.tr_b, Q.tr_i, Q.tr_l, Q.ad_i, Q.sb_i, Q.ml_i, Q.fd_i, Q.md_i, Q.pw_i, Q.ad_l, Q.su_l, Q.su_t, Q.bi1', Q.i_i, Q.i_b, Q.ab_i, Q.le_l, Q.le_t, Q.li_l, Q.tu_l, Q.ng_i, Q.sx_l, Q.bm_s, exb, exs, evc, evl, evi, List.getElem?_cons_zero, List.getElem?_cons_succ, List.getElem?_nil, List.set_cons_zero, List.set_cons_succ, List.length_cons, List.length_nil, Option.bind_some, Option.bind_none, Option.map_some, Option.map_none, List.map_cons, List.map_nil, List.replicate_zero, List.replicate_succ, List.append_nil, List.cons_append, List.nil_append, Bool.not_true, Bool.not_false, Bool.false_eq_true, if_true, if_false, ite_true, ite_false, Option.isSome_some, Option.isSome_none, Bool.and_true, Bool.true_and, Bool.and_false, Bool.false_and, Bool.or_true, Bool.true_or, Bool.or_false, Bool.false_or, Nat.reduceAdd, Nat.reduceSub, Nat.sub_self, Nat.add_zero, Nat.zero_add, Nat.reduceLT, Nat.reduceLeDiff, reduceCtorEq, List.nodup_nil, List.nodup_cons, List.not_mem_nil, not_false_eq_true, and_self, and_true, true_and, decide_true, decide_false, List.tail_cons, List.headD_cons, CE.isNoe, CL.len, Bool.true_eq_false, Int.reduceLT, Int.reduceLE, Int.reduceToNat, reduceIte, hn, hmd]
  have a1 : exs (.expr (.call "need_number" g_need_number (.cons (.var 0) (.cons (.str "many") (.cons (.int 0) (.cons (.glob "MOST_SIGNS" (.int 2000)) .nil)))))) [.sh (.int M)] = .nx [.sh (.int M)] := by
    rw [exs, e1]; rfl
  have e2 : (evc (.call "plain_signs" g_plain_signs (.cons (.var 0) .nil))).val [.sh (.int M)] = .ok (.sh (.tup T)) [.sh (.int M)] := call1 (fr := false) hmd2 rfl hs
  have go : exb b_plain_word (slotsOf 1 [false] [.int M]) = .rt false (.tup T) [.sh (.int M)] := by
    have e0 : slotsOf 1 [false] [.int M] = [.sh (.int M)] := rfl
    rw [e0]
    refine (exb_nx a1).trans (exb_rt ?_)
    rw [exs, e2]; rfl
  show runS 1 [false] (exb b_plain_word) [.int M] = _
  exact runS_rt (n := 1) (ds := [.int M]) (ms := [false]) (o := []) (b := exb b_plain_word) (by rfl) go (by rfl)
end LK47

namespace LK47
open PySem PySem.Spec Eng
/-! ### the law's figures -/
def fgB : CB := match b__law_figures with
  | .cons _ (.cons (.whl _ _ b) _) => b
  | _ => .nil
def oneM : D → D
  | .int i => .int (1 - i)
  | d => d
theorem fig_step {n : SV} {row : List Int} (hl : row.length ≤ 1900) : exb fgB [n, .ow (.lst (row.map D.int)), .no] = .nx [n, .ow (.lst ((row ++ row.map fun i => 1 - i).map D.int)), .no] := by
  have eb : fgB = .cons (.asg (.nm 1) (.bin .Add (.var 1) (.comp (.bin .Sub (.int 1) (.var 2)) (.nm 2) (.val (.var 1)) .nil [2]))) .nil := rfl
  have hc : (evc (.comp (.bin .Sub (.int 1) (.var 2)) (.nm 2) (.val (.var 1)) .nil [2])).val [n, .ow (.lst (row.map D.int)), .no] = .ok (.fr (.lst ((row.map D.int).map oneM))) [n, .ow (.lst (row.map D.int)), .no] := by
    refine kComp_map (S1 := [n, .lk (.lst (row.map D.int)), .no]) (u := some 1) (f := oneM) rfl (fun x hx => ?_) (by rw [List.length_map]; omega)
    obtain ⟨i, _, rfl⟩ := List.mem_map.mp hx
    rfl
  have ha := addL (a := .var 1) (S := [n, .ow (.lst (row.map D.int)), .no]) (xs := row.map D.int) (r := .br 1) rfl hc rfl rfl (by simp only [List.length_map]; omega)
  rw [eb, exb_nx (asg_l (i := 1) ha rfl)]
  rw [List.map_append, List.map_map, List.map_map]
  rfl
def dbl : Nat → Nat → List Int → List Int
  | 0, _, row => row
  | f + 1, n, row => if row.length < n then dbl f n (row ++ row.map fun i => 1 - i) else row
theorem fig_tst {n : Nat} {row : List Int} : (evc (.cmp .Lt (.bi .len (.cons (.var 1) .nil)) (.var 0))).tst [.sh (.int (n : Nat)), .ow (.lst (row.map D.int)), .no] = .ok (decide ((row.length : Int) < (n : Int))) [.sh (.int (n : Nat)), .ow (.lst (row.map D.int)), .no] := by
  have hl : ((row.map D.int).length : Int) = (row.length : Int) := by rw [List.length_map]
  rw [← hl]
  rfl
theorem fig_loop {n : Nat} (hn : n ≤ 1800) : ∀ (k f : Nat) (row : List Int), 1800 ≤ row.length * 2 ^ k → k < f →
    whlF (evc (.cmp .Lt (.bi .len (.cons (.var 1) .nil)) (.var 0))).tst (exb fgB) f [.sh (.int (n : Nat)), .ow (.lst (row.map D.int)), .no] = .nx [.sh (.int (n : Nat)), .ow (.lst ((dbl k n row).map D.int)), .no] := by
  intro k
  induction k with
  | zero =>
    intro f row hl hf
    cases f with
    | zero => omega
    | succ f =>
      rw [whl_end (fig_tst.trans (by rw [decide_eq_false (by omega)]))]
      rfl
  | succ k ih =>
    intro f row hl hf
    cases f with
    | zero => omega
    | succ f =>
      by_cases z : row.length < n
      · rw [whl_go (fig_tst.trans (by rw [decide_eq_true (show (row.length : Int) < (n : Int) by omega)])) (fig_step (by omega))]
        rw [ih f (row ++ row.map fun i => 1 - i) (by rw [List.length_append, List.length_map]; rw [Nat.pow_succ] at hl; rw [← Nat.two_mul, Nat.mul_comm 2, Nat.mul_assoc, Nat.mul_comm 2]; exact hl) (by omega)]
        rw [show dbl (k + 1) n row = if row.length < n then dbl k n (row ++ row.map fun i => 1 - i) else row from rfl, if_pos z]
      · rw [whl_end (fig_tst.trans (by rw [decide_eq_false (by omega)]))]
        rw [show dbl (k + 1) n row = if row.length < n then dbl k n (row ++ row.map fun i => 1 - i) else row from rfl, if_neg z]
theorem cut_take {ds : List D} {n : Nat} : cutD ds none (some (n : Int)) = ds.take n := by
  unfold cutD
  rw [HT.sIx_nat, HT.sIx_none, List.drop_zero, Nat.sub_zero]
  rcases Nat.le_total n ds.length with h | h
  · rw [Nat.min_eq_left h]
  · rw [Nat.min_eq_right h, List.take_of_length_le (Nat.le_refl _), List.take_of_length_le h]
theorem fig_eq {n : Nat} (hn : n ≤ 1800) : g__law_figures.m [.int (n : Nat)] = .ok true (.lst (((dbl 11 n [0]).take n).map D.int)) [] := by
  have w := fig_loop hn 11 4096 [0] (by decide) (by omega)
  have go : exb b__law_figures (slotsOf 3 [false] [.int (n : Nat)]) = .rt true (.lst (((dbl 11 n [0]).take n).map D.int)) [.sh (.int (n : Nat)), .ow (.lst ((dbl 11 n [0]).map D.int)), .no] := by
    have e0 : slotsOf 3 [false] [.int (n : Nat)] = [.sh (.int (n : Nat)), .no, .no] := rfl
    have e1 : exs (.asg (.nm 1) (.lst (.cons (.int 0) .nil))) [.sh (.int (n : Nat)), .no, .no] = .nx [.sh (.int (n : Nat)), .ow (.lst (([0] : List Int).map D.int)), .no] := rfl
    rw [e0]
    refine (exb_nx e1).trans ((exb_wh w).trans (exb_rt ?_))
    have e2 := slcL (a := .var 1) (lo := .noe) (hi := .var 0) (S := [.sh (.int (n : Nat)), .ow (.lst ((dbl 11 n [0]).map D.int)), .no]) (h := some (n : Int)) (ds := (dbl 11 n [0]).map D.int) rfl part_no rfl rfl
    rw [cut_take, ← List.map_take] at e2
    rw [exs, e2]
    rfl
  generalize (n : Int) = N at *
  generalize dbl 11 n [0] = T at *
  show runS 3 [false] (exb b__law_figures) [.int N] = _
  exact runS_rt (n := 3) (ds := [.int N]) (ms := [false]) (o := []) (b := exb b__law_figures) (by rfl) go (by rfl)
end LK47

namespace LK47
open PySem PySem.Spec Eng
/-! ### the law's gaps -/
def gpB : CB := match b__law_gaps with
  | .cons _ (.cons (.for_ _ _ b) _) => b
  | _ => .nil
def gpR : List Int → List Nat → Nat → List Nat
  | [], f, _ => f
  | x :: xs, f, o => if x = 0 then gpR xs (o :: f) 0 else gpR xs f (o + 1)
theorem gp_loop {m : SV} : ∀ (xs : List Int) (f : List Nat) (o : Nat) (s1 : SV), frO (some s1) = true → f.length + xs.length ≤ 3900 →
    ∃ s1' o', forF (.nm 1) (exb gpB) (xs.map D.int) [m, s1, .ow (.lst (f.reverse.map natD)), .sh (.int (o : Nat))] = .nx [m, s1', .ow (.lst ((gpR xs f o).reverse.map natD)), .sh (.int (o' : Nat))]
  | [], f, o, s1, _, _ => ⟨s1, o, rfl⟩
  | x :: xs, f, o, s1, f1, hl => by
    have hl : f.length + (xs.length + 1) ≤ 3900 := hl
    have eb : gpB = .cons (.ifs (.cmp .Eq (.var 1) (.int 0)) (.cons (.expr (.mm .append 2 (.cons (.var 3) .nil))) .nil) .nil) (.cons (.asg (.nm 3) (.ite (.cmp .Eq (.var 1) (.int 0)) (.int 0) (.bin .Add (.var 3) (.int 1)))) .nil) := rfl
    have a0 : assign (.nm 1) (.int x) [m, s1, .ow (.lst (f.reverse.map natD)), .sh (.int (o : Nat))] = some [m, .sh (.int x), .ow (.lst (f.reverse.map natD)), .sh (.int (o : Nat))] := by
      rw [Q.an, Q.fa]
      show (if frO (some s1) = true then _ else _) = _
      rw [if_pos f1]; rfl
    have t1 : ∀ (L : SV) (k : SV), (evc (.cmp .Eq (.var 1) (.int 0))).tst [m, .sh (.int x), L, k] = .ok (x == 0) [m, .sh (.int x), L, k] := fun L k => eq0 (a := .var 1) (i := x) rfl
    rw [List.map_cons]
    by_cases z : x = 0
    · subst z
      have t1 : ∀ (L : SV) (k : SV), (evc (.cmp .Eq (.var 1) (.int 0))).tst [m, .sh (.int 0), L, k] = .ok true [m, .sh (.int 0), L, k] := t1
      obtain ⟨s1', o', e⟩ := gp_loop (m := m) xs (o :: f) 0 (.sh (.int 0)) rfl (by simp <;> omega)
      refine ⟨s1', o', ?_⟩
      rw [show gpR (0 :: xs) f o = gpR xs (o :: f) 0 from if_pos rfl, ← e]
      refine for_nx a0 ?_
      have ap := append_of (i := 2) (e := .var 3) (S := [m, .sh (.int 0), .ow (.lst (f.reverse.map natD)), .sh (.int (o : Nat))]) (S1 := [m, .sh (.int 0), .ow (.lst (f.reverse.map natD)), .sh (.int (o : Nat))]) (xs := f.reverse.map natD) (y := natD o) rfl rfl rfl (by rw [List.length_map, List.length_reverse]; omega)
      have b1 : exs (.ifs (.cmp .Eq (.var 1) (.int 0)) (.cons (.expr (.mm .append 2 (.cons (.var 3) .nil))) .nil) .nil) [m, .sh (.int 0), .ow (.lst (f.reverse.map natD)), .sh (.int (o : Nat))] = .nx [m, .sh (.int 0), .ow (.lst (f.reverse.map natD ++ [natD o])), .sh (.int (o : Nat))] := by
        rw [ifs_t (t1 _ _), exb_nx ap]; rfl
      have b2 := asg_v (i := 3) (S := [m, .sh (.int 0), .ow (.lst (f.reverse.map natD ++ [natD o])), .sh (.int (o : Nat))]) (e := .ite (.cmp .Eq (.var 1) (.int 0)) (.int 0) (.bin .Add (.var 3) (.int 1))) (d := .int 0) ((ite_v (t1 _ _)).trans rfl) rfl
      rw [eb, exb_nx b1, exb_nx b2, List.reverse_cons, List.map_append]
      rfl
    · have t1 : ∀ (L : SV) (k : SV), (evc (.cmp .Eq (.var 1) (.int 0))).tst [m, .sh (.int x), L, k] = .ok false [m, .sh (.int x), L, k] := fun L k => (t1 L k).trans (by rw [show (x == 0) = false by simpa using z])
      obtain ⟨s1', o', e⟩ := gp_loop (m := m) xs f (o + 1) (.sh (.int x)) rfl (by omega)
      refine ⟨s1', o', ?_⟩
      rw [show gpR (x :: xs) f o = gpR xs f (o + 1) from if_neg z, ← e]
      refine for_nx a0 ?_
      have b1 : exs (.ifs (.cmp .Eq (.var 1) (.int 0)) (.cons (.expr (.mm .append 2 (.cons (.var 3) .nil))) .nil) .nil) [m, .sh (.int x), .ow (.lst (f.reverse.map natD)), .sh (.int (o : Nat))] = .nx [m, .sh (.int x), .ow (.lst (f.reverse.map natD)), .sh (.int (o : Nat))] := by
        rw [ifs_f (t1 _ _)]; rfl
      have b2 := asg_v (i := 3) (S := [m, .sh (.int x), .ow (.lst (f.reverse.map natD)), .sh (.int (o : Nat))]) (e := .ite (.cmp .Eq (.var 1) (.int 0)) (.int 0) (.bin .Add (.var 3) (.int 1))) (d := .int ((o : Int) + 1)) ((ite_v (t1 _ _)).trans rfl) rfl
      have c : (((o + 1 : Nat) : Int)) = (o : Int) + 1 := by omega
      rw [eb, exb_nx b1, exb_nx b2, c]
      rfl
def gapsP (m : Nat) : List Nat := (gpR (((dbl 11 (4 * m + 8) [0]).take (4 * m + 8)).drop 1) [] 0).reverse.take m
theorem gaps_eq {m : Nat} (hm : m ≤ 440) : g__law_gaps.m [.int (m : Nat)] = .ok true (.lst ((gapsP m).map natD)) [] := by
  have hf := fig_eq (n := 4 * m + 8) (by omega)
  have hmd : g__law_figures.md = [false] := rfl
  have c : ((4 * m + 8 : Nat) : Int) = 4 * (m : Int) + 8 := by omega
  rw [c] at hf
  let S0 : SS := [.sh (.int (m : Nat)), .no, .ow (.lst (([] : List Nat).reverse.map natD)), .sh (.int ((0 : Nat) : Int))]
  have hl : (((dbl 11 (4 * m + 8) [0]).take (4 * m + 8)).drop 1).length ≤ 3900 := by rw [List.length_drop, List.length_take]; omega
  obtain ⟨s1, o, e⟩ := gp_loop (m := .sh (.int (m : Nat))) (((dbl 11 (4 * m + 8) [0]).take (4 * m + 8)).drop 1) [] 0 .no rfl (by simp only [List.length_nil]; omega)
  have sm4 : smallB 4 = true := by decide
  have ea : (evc (.bin .Add (.bin .Mult (.int 4) (.var 0)) (.int 8))).val S0 = .ok (.sh (.int (4 * (m : Int) + 8))) S0 := by
    have em : (evc (.bin .Mult (.int 4) (.var 0))).val S0 = .ok (.sh (.int (4 * (m : Int)))) S0 := by
      show prim (if smallB 4 || smallB (m : Int) then some (RO.sh (.int (4 * (m : Int)))) else none) S0 = _
      rw [sm4]; rfl
    exact add_i em (j := 8) rfl
  have ec := call1 (x := "_law_figures") (fr := true) hmd (shr_of ea) hf
  have es := slcL (a := .call "_law_figures" g__law_figures (.cons (.bin .Add (.bin .Mult (.int 4) (.var 0)) (.int 8)) .nil)) (lo := .int 1) (hi := .noe) (l := some 1) ec rfl part_no (ds := ((dbl 11 (4 * m + 8) [0]).take (4 * m + 8)).map D.int) rfl
  have cd : cutD (((dbl 11 (4 * m + 8) [0]).take (4 * m + 8)).map D.int) (some 1) none = ((((dbl 11 (4 * m + 8) [0]).take (4 * m + 8)).drop 1)).map D.int := by
    unfold cutD
    rw [show (some (1 : Int)) = some ((1 : Nat) : Int) from rfl, HT.sIx_nat, HT.sIx_none, List.map_drop]
    generalize ((dbl 11 (4 * m + 8) [0]).take (4 * m + 8)).map D.int = L
    rcases Nat.eq_zero_or_pos L.length with z | z
    · rw [List.length_eq_zero_iff.mp z]; rfl
    · rw [Nat.min_eq_left z, List.take_of_length_le (by rw [List.length_drop]; exact Nat.le_refl _)]
  rw [cd] at es
  have hr : evi (.val (.slc (.call "_law_figures" g__law_figures (.cons (.bin .Add (.bin .Mult (.int 4) (.var 0)) (.int 8)) .nil)) (.int 1) .noe)) S0 = .ok (((((dbl 11 (4 * m + 8) [0]).take (4 * m + 8)).drop 1)).map D.int, none) S0 := by
    show ((evc _).val S0).bind itemsOf = _
    rw [es]; rfl
  have go : exb b__law_gaps (slotsOf 4 [false] [.int (m : Nat)]) = .rt true (.lst ((gapsP m).map natD)) [.sh (.int (m : Nat)), s1, .ow (.lst ((gpR (((dbl 11 (4 * m + 8) [0]).take (4 * m + 8)).drop 1) [] 0).reverse.map natD)), .sh (.int (o : Nat))] := by
    have e0 : slotsOf 4 [false] [.int (m : Nat)] = [.sh (.int (m : Nat)), .no, .no, .no] := rfl
    have e1 : exs (.par 2 3 (.lst .nil) (.int 0)) [.sh (.int (m : Nat)), .no, .no, .no] = .nx S0 := rfl
    rw [e0]
    refine (exb_nx e1).trans ((exb_nx (exs_for hr e)).trans (exb_rt ?_))
    have e2 := slcL (a := .var 2) (lo := .noe) (hi := .var 0) (S := [.sh (.int (m : Nat)), s1, .ow (.lst ((gpR (((dbl 11 (4 * m + 8) [0]).take (4 * m + 8)).drop 1) [] 0).reverse.map natD)), .sh (.int (o : Nat))]) (h := some (m : Int)) (ds := (gpR (((dbl 11 (4 * m + 8) [0]).take (4 * m + 8)).drop 1) [] 0).reverse.map natD) rfl part_no rfl rfl
    rw [cut_take, ← List.map_take] at e2
    rw [exs]
    show ((evc _).val [.sh (.int (m : Nat)), s1, .ow (.lst ((gpR (((dbl 11 (4 * m + 8) [0]).take (4 * m + 8)).drop 1) [] 0).reverse.map natD)), .sh (.int (o : Nat))]).toF _ = _
    rw [e2]
    rfl
  generalize (m : Int) = N at *
  generalize (gapsP m).map natD = T at *
  show runS 4 [false] (exb b__law_gaps) [.int N] = _
  exact runS_rt (n := 4) (ds := [.int N]) (ms := [false]) (o := []) (b := exb b__law_gaps) (by rfl) go (by rfl)
end LK47

namespace LK47
open PySem PySem.Spec Eng
def rowP (s : Nat) : List Nat := match s with
  | 0 => [1]
  | 1 => [2, 0]
  | _ => [2, 1, 0]
def led : Nat → Nat → List Nat → List Nat
  | 0, _, w => w
  | f + 1, n, w => if w.length < n then led f n (w.flatMap rowP) else w
theorem led_signs : ∀ m, m < 401 → (led 12 m [2]).take m = signs.take m := by decide +kernel
theorem led_2000 : (led 12 2000 [2]).take 2000 = signs := by decide +kernel
/-- a repeat in a list, by looking at each begin and length: none -/
def runF : List Nat → List Nat → Nat → Nat → Bool
  | x :: xs, y :: ys, h, r => if x = y then (if r + 1 = h then false else runF xs ys h (r + 1)) else runF xs ys h 0
  | _, _, _, _ => true
theorem free400 : ((List.range 201).all fun h => h == 0 || runF (signs.take 400) ((signs.take 400).drop h) h 0) = true := by decide +kernel
end LK47

namespace LK47
open PySem PySem.Spec Eng
/-! ### the law's gaps are the signs -/
def it : Nat → List Int → List Int
  | 0, row => row
  | k + 1, row => it k (row ++ row.map fun i => 1 - i)
theorem it_pre : ∀ (k : Nat) (row : List Int), ∃ l, it k row = row ++ l
  | 0, row => ⟨[], (List.append_nil _).symm⟩
  | k + 1, row => by
    obtain ⟨l, e⟩ := it_pre k (row ++ row.map fun i => 1 - i)
    exact ⟨_, e.trans (List.append_assoc _ _ _)⟩
theorem dbl_take {n : Nat} : ∀ (k : Nat) (row : List Int), n ≤ row.length * 2 ^ k → (dbl k n row).take n = (it k row).take n
  | 0, row, h => rfl
  | k + 1, row, h => by
    rw [show dbl (k + 1) n row = if row.length < n then dbl k n (row ++ row.map fun i => 1 - i) else row from rfl]
    by_cases z : row.length < n
    · rw [if_pos z]
      exact dbl_take k _ (by rw [List.length_append, List.length_map]; rw [Nat.pow_succ] at h; rw [← Nat.two_mul, Nat.mul_comm 2, Nat.mul_assoc, Nat.mul_comm 2]; exact h)
    · rw [if_neg z]
      obtain ⟨l, e⟩ := it_pre (k + 1) row
      rw [e, List.take_append_of_le_length (by omega)]
theorem gpR_app : ∀ (xs ys : List Int) (f : List Nat) (o : Nat), ∃ l, gpR (xs ++ ys) f o = l ++ gpR xs f o
  | [], ys, f, o => by
    show ∃ l, gpR ys f o = l ++ f
    induction ys generalizing f o with
    | nil => exact ⟨[], rfl⟩
    | cons y ys ih =>
      by_cases z : y = 0
      · obtain ⟨l, e⟩ := ih (o :: f) 0
        exact ⟨l ++ [o], by rw [show gpR (y :: ys) f o = gpR ys (o :: f) 0 from if_pos z, e, List.append_assoc]; rfl⟩
      · obtain ⟨l, e⟩ := ih f (o + 1)
        exact ⟨l, by rw [show gpR (y :: ys) f o = gpR ys f (o + 1) from if_neg z, e]⟩
  | x :: xs, ys, f, o => by
    by_cases z : x = 0
    · obtain ⟨l, e⟩ := gpR_app xs ys (o :: f) 0
      exact ⟨l, by rw [List.cons_append, show gpR (x :: (xs ++ ys)) f o = gpR (xs ++ ys) (o :: f) 0 from if_pos z, show gpR (x :: xs) f o = gpR xs (o :: f) 0 from if_pos z, e]⟩
    · obtain ⟨l, e⟩ := gpR_app xs ys f (o + 1)
      exact ⟨l, by rw [List.cons_append, show gpR (x :: (xs ++ ys)) f o = gpR (xs ++ ys) f (o + 1) from if_neg z, show gpR (x :: xs) f o = gpR xs f (o + 1) from if_neg z, e]⟩
/-- at each place enough noughts were seen -/
def cz : List Int → Nat → Nat → Bool
  | [], _, _ => true
  | x :: xs, z, p => if x = 0 then decide (p + 1 ≤ 4 * (z + 1) + 7) && cz xs (z + 1) (p + 1) else decide (p + 1 ≤ 4 * z + 7) && cz xs z (p + 1)
theorem cz_len : ∀ (xs : List Int) (f : List Nat) (o p k : Nat), cz xs f.length p = true → k ≤ xs.length → p ≤ 4 * f.length + 7 → p + k ≤ 4 * (gpR (xs.take k) f o).length + 7
  | xs, f, o, p, 0, _, _, h => by rw [List.take_zero]; exact h
  | [], f, o, p, k + 1, _, hk, _ => by simp at hk
  | x :: xs, f, o, p, k + 1, hc, hk, h => by
    have hk : k ≤ xs.length := by simpa using hk
    rw [List.take_succ_cons]
    unfold cz at hc
    by_cases z : x = 0
    · rw [if_pos z, Bool.and_eq_true, decide_eq_true_eq] at hc
      rw [show gpR (x :: xs.take k) f o = gpR (xs.take k) (o :: f) 0 from if_pos z]
      have := cz_len xs (o :: f) 0 (p + 1) k hc.2 hk hc.1
      omega
    · rw [if_neg z, Bool.and_eq_true, decide_eq_true_eq] at hc
      rw [show gpR (x :: xs.take k) f o = gpR (xs.take k) f (o + 1) from if_neg z]
      have := cz_len xs f (o + 1) (p + 1) k hc.2 hk hc.1
      omega
theorem it_len : (it 11 [0]).length = 2048 := by decide +kernel
theorem cz_it : cz ((it 11 [0]).drop 1) 0 0 = true := by decide +kernel
theorem gp_it : (gpR ((it 11 [0]).drop 1) [] 0).reverse.take 440 = signs.take 440 := by decide +kernel
theorem gaps_signs {m : Nat} (hm : m ≤ 440) : gapsP m = signs.take m := by
  have e1 : ((dbl 11 (4 * m + 8) [0]).take (4 * m + 8)) = (it 11 [0]).take (4 * m + 8) := dbl_take 11 [0] (by simp <;> omega)
  have e2 : ((it 11 [0]).take (4 * m + 8)).drop 1 = ((it 11 [0]).drop 1).take (4 * m + 7) := by
    rw [List.drop_take]; rfl
  have hl : ((it 11 [0]).drop 1).length = 2047 := by rw [List.length_drop, it_len]
  have hn := cz_len ((it 11 [0]).drop 1) [] 0 0 (4 * m + 7) cz_it (by omega) (by omega)
  obtain ⟨l, e3⟩ := gpR_app (((it 11 [0]).drop 1).take (4 * m + 7)) (((it 11 [0]).drop 1).drop (4 * m + 7)) [] 0
  rw [List.take_append_drop] at e3
  have e4 := gp_it
  rw [e3, List.reverse_append] at e4
  unfold gapsP
  rw [e1, e2]
  generalize gpR (((it 11 [0]).drop 1).take (4 * m + 7)) [] 0 = R at *
  have hn : m ≤ R.reverse.length := by rw [List.length_reverse]; omega
  have e5 := congrArg (List.take m) e4
  rw [List.take_take, List.take_take, Nat.min_eq_left hm] at e5
  rw [← e5, List.take_append_of_le_length hn]
end LK47

namespace LK47
open PySem PySem.Spec Eng
/-! ### the law's led word -/
def rowsD : D := .lst [.lst [.int 1], .lst [.int 2, .int 0], .lst [.int 2, .int 1, .int 0]]
def ldB : CB := match b__law_led with
  | .cons _ (.cons (.whl _ _ b) _) => b
  | _ => .nil
def ldI : CB := match ldB with
  | .cons _ (.cons (.for_ _ _ b) _) => b
  | _ => .nil
theorem row_at {s : Nat} (hs : s < 3) {m s2 : SV} {L : D} : (evc (.sub (.var 1) (.var 4))).val [m, .ow rowsD, s2, .ow L, .sh (natD s)] = .ok (.sh (.lst ((rowP s).map natD))) [m, .ow rowsD, s2, .ow L, .sh (natD s)] := by
  match s, hs with
  | 0, _ => rfl
  | 1, _ => rfl
  | 2, _ => rfl
theorem ld_inner {m s2 : SV} : ∀ (xs acc : List Nat) (s4 : SV), frO (some s4) = true → (∀ x ∈ xs, x < 3) → acc.length + (xs.flatMap rowP).length ≤ 4000 →
    ∃ s4', forF (.nm 4) (exb ldI) (xs.map natD) [m, .ow rowsD, s2, .ow (.lst (acc.map natD)), s4] = .nx [m, .ow rowsD, s2, .ow (.lst ((acc ++ xs.flatMap rowP).map natD)), s4'] ∧ frO (some s4') = true
  | [], acc, s4, f4, _, _ => ⟨s4, by rw [List.flatMap_nil, List.append_nil]; rfl, f4⟩
  | x :: xs, acc, s4, f4, hx, hl => by
    rw [List.flatMap_cons] at hl ⊢
    rw [List.length_append] at hl
    obtain ⟨s4', e, f⟩ := ld_inner (m := m) (s2 := s2) xs (acc ++ rowP x) (.sh (natD x)) rfl (fun y hy => hx y (.tail _ hy)) (by rw [List.length_append]; omega)
    refine ⟨s4', ?_, f⟩
    rw [← List.append_assoc, ← e, List.map_cons]
    have a0 : assign (.nm 4) (natD x) [m, .ow rowsD, s2, .ow (.lst (acc.map natD)), s4] = some [m, .ow rowsD, s2, .ow (.lst (acc.map natD)), .sh (natD x)] := by
      rw [Q.an, Q.fa]
      show (if frO (some s4) = true then _ else _) = _
      rw [if_pos f4]; rfl
    refine for_nx a0 ?_
    have eb : ldI = .cons (.asg (.nm 3) (.bin .Add (.var 3) (.sub (.var 1) (.var 4)))) .nil := rfl
    have ha := addL (a := .var 3) (S := [m, .ow rowsD, s2, .ow (.lst (acc.map natD)), .sh (natD x)]) (xs := acc.map natD) (r := .br 3) rfl (row_at (hx x (.head _))) rfl rfl (by simp only [List.length_map]; omega)
    rw [eb, exb_nx (asg_l (i := 3) ha rfl), List.map_append]
    rfl
theorem ld_turn {n : SV} {w : List Nat} {s2 s3 s4 : SV} (h2 : s2 = .ow (.lst (w.map natD)) ∨ s2 = .sh (.lst (w.map natD))) (f3 : frO (some s3) = true) (f4 : frO (some s4) = true) (hw : ∀ x ∈ w, x < 3) (hl : (w.flatMap rowP).length ≤ 4000) :
    ∃ s3' s4', exb ldB [n, .ow rowsD, s2, s3, s4] = .nx [n, .ow rowsD, .sh (.lst ((w.flatMap rowP).map natD)), s3', s4'] ∧ frO (some s3') = true ∧ frO (some s4') = true := by
  have eb : ldB = .cons (.asg (.nm 3) (.lst .nil)) (.cons (.for_ (.nm 4) (.val (.var 2)) ldI) (.cons (.asg (.nm 2) (.var 3)) .nil)) := rfl
  have a1 : exs (.asg (.nm 3) (.lst .nil)) [n, .ow rowsD, s2, s3, s4] = .nx [n, .ow rowsD, s2, .ow (.lst (([] : List Nat).map natD)), s4] := asg_l (i := 3) (d := .lst []) (S1 := [n, .ow rowsD, s2, s3, s4]) rfl (show frO (some s3) = true from f3)
  rw [eb, exb_nx a1]
  rcases h2 with rfl | rfl
  · obtain ⟨s4', e, f⟩ := ld_inner (m := n) (s2 := .lk (.lst (w.map natD))) w [] s4 f4 hw (by simpa using hl)
    have hr : evi (.val (.var 2)) [n, .ow rowsD, .ow (.lst (w.map natD)), .ow (.lst (([] : List Nat).map natD)), s4] = .ok (w.map natD, some 2) [n, .ow rowsD, .lk (.lst (w.map natD)), .ow (.lst (([] : List Nat).map natD)), s4] := rfl
    rw [exb_nx (exs_for hr e), List.nil_append]
    exact ⟨.sh (.lst ((w.flatMap rowP).map natD)), s4', rfl, rfl, f⟩
  · obtain ⟨s4', e, f⟩ := ld_inner (m := n) (s2 := .sh (.lst (w.map natD))) w [] s4 f4 hw (by simpa using hl)
    have hr : evi (.val (.var 2)) [n, .ow rowsD, .sh (.lst (w.map natD)), .ow (.lst (([] : List Nat).map natD)), s4] = .ok (w.map natD, none) [n, .ow rowsD, .sh (.lst (w.map natD)), .ow (.lst (([] : List Nat).map natD)), s4] := rfl
    rw [exb_nx (exs_for hr e), List.nil_append]
    exact ⟨.sh (.lst ((w.flatMap rowP).map natD)), s4', rfl, rfl, f⟩
def wk : Nat → List Nat
  | 0 => [2]
  | k + 1 => (wk k).flatMap rowP
theorem wk_ok : ∀ k, k < 12 → ((wk k).all fun x => decide (x < 3)) = true ∧ (wk k).length ≤ 3072 := by decide +kernel
theorem wk_end : (wk 11).length = 3072 := by decide +kernel
theorem ld_tst {n : Nat} {w : List Nat} {s2 s3 s4 : SV} (h2 : s2 = .ow (.lst (w.map natD)) ∨ s2 = .sh (.lst (w.map natD))) : (evc (.cmp .Lt (.bi .len (.cons (.var 2) .nil)) (.var 0))).tst [.sh (.int (n : Nat)), .ow rowsD, s2, s3, s4] = .ok (decide ((w.length : Int) < (n : Int))) [.sh (.int (n : Nat)), .ow rowsD, s2, s3, s4] := by
  have hl : ((w.map natD).length : Int) = (w.length : Int) := by rw [List.length_map]
  rw [← hl]
  rcases h2 with rfl | rfl <;> rfl
theorem ld_loop {n : Nat} (hn : n ≤ 2000) : ∀ (j k f : Nat) (s2 s3 s4 : SV), k + j = 11 → j < f → (s2 = .ow (.lst ((wk k).map natD)) ∨ s2 = .sh (.lst ((wk k).map natD))) → frO (some s3) = true → frO (some s4) = true →
    ∃ s2' s3' s4', whlF (evc (.cmp .Lt (.bi .len (.cons (.var 2) .nil)) (.var 0))).tst (exb ldB) f [.sh (.int (n : Nat)), .ow rowsD, s2, s3, s4] = .nx [.sh (.int (n : Nat)), .ow rowsD, s2', s3', s4'] ∧ (s2' = .ow (.lst ((led (j + 1) n (wk k)).map natD)) ∨ s2' = .sh (.lst ((led (j + 1) n (wk k)).map natD))) := by
  intro j
  induction j with
  | zero =>
    intro k f s2 s3 s4 e hf h2 f3 f4
    obtain rfl : k = 11 := by omega
    cases f with
    | zero => omega
    | succ f =>
      have le := wk_end
      refine ⟨s2, s3, s4, whl_end ((ld_tst h2).trans (by rw [decide_eq_false (by omega)])), ?_⟩
      rw [show led (0 + 1) n (wk 11) = if (wk 11).length < n then led 0 n ((wk 11).flatMap rowP) else wk 11 from rfl, if_neg (by omega)]
      exact h2
  | succ j ih =>
    intro k f s2 s3 s4 e hf h2 f3 f4
    cases f with
    | zero => omega
    | succ f =>
      rw [show led (j + 1 + 1) n (wk k) = if (wk k).length < n then led (j + 1) n (wk (k + 1)) else wk k from rfl]
      by_cases z : (wk k).length < n
      · rw [if_pos z]
        have o := wk_ok k (by omega)
        have o2 := (wk_ok (k + 1) (by omega)).2
        obtain ⟨s3', s4', e1, g3, g4⟩ := ld_turn (n := .sh (.int (n : Nat))) h2 f3 f4 (fun x hx => of_decide_eq_true (List.all_eq_true.mp o.1 x hx)) (show (wk (k + 1)).length ≤ 4000 by omega)
        obtain ⟨t2, t3, t4, e2, g⟩ := ih (k + 1) f _ s3' s4' (by omega) (by omega) (.inr rfl) g3 g4
        refine ⟨t2, t3, t4, ?_, g⟩
        rw [whl_go ((ld_tst h2).trans (by rw [decide_eq_true (show ((wk k).length : Int) < (n : Int) by omega)])) e1]
        exact e2
      · rw [if_neg z]
        exact ⟨s2, s3, s4, whl_end ((ld_tst h2).trans (by rw [decide_eq_false (by omega)])), h2⟩
theorem led_eq {n : Nat} (hn : n ≤ 2000) : g__law_led.m [.int (n : Nat)] = .ok true (.lst (((led 12 n [2]).take n).map natD)) [] := by
  obtain ⟨s2, s3, s4, w, h2⟩ := ld_loop hn 11 0 4096 (.ow (.lst ((wk 0).map natD))) .no .no rfl (by omega) (.inl rfl) rfl rfl
  have go : exb b__law_led (slotsOf 5 [false] [.int (n : Nat)]) = .rt true (.lst (((led 12 n [2]).take n).map natD)) [.sh (.int (n : Nat)), .ow rowsD, s2, s3, s4] := by
    have e0 : slotsOf 5 [false] [.int (n : Nat)] = [.sh (.int (n : Nat)), .no, .no, .no, .no] := rfl
    have e1 : exs (.par 1 2 (.lst (.cons (.lst (.cons (.int 1) .nil)) (.cons (.lst (.cons (.int 2) (.cons (.int 0) .nil))) (.cons (.lst (.cons (.int 2) (.cons (.int 1) (.cons (.int 0) .nil)))) .nil)))) (.lst (.cons (.int 2) .nil))) [.sh (.int (n : Nat)), .no, .no, .no, .no] = .nx [.sh (.int (n : Nat)), .ow rowsD, .ow (.lst ((wk 0).map natD)), .no, .no] := rfl
    rw [e0]
    refine (exb_nx e1).trans ((exb_wh w).trans (exb_rt ?_))
    have e2 : (evc (.slc (.var 2) .noe (.var 0))).val [.sh (.int (n : Nat)), .ow rowsD, s2, s3, s4] = .ok (.fr (.lst (((led 12 n [2]).take n).map natD))) [.sh (.int (n : Nat)), .ow rowsD, s2, s3, s4] := by
      rw [List.map_take, ← cut_take]
      rcases h2 with rfl | rfl
      · exact slcL (a := .var 2) (lo := .noe) (hi := .var 0) (h := some (n : Int)) (r := .br 2) rfl part_no rfl rfl
      · exact slcL (a := .var 2) (lo := .noe) (hi := .var 0) (h := some (n : Int)) (r := .sh _) rfl part_no rfl rfl
    rw [exs, e2]
    rfl
  generalize (n : Int) = N at *
  generalize ((led 12 n [2]).take n).map natD = T at *
  show runS 5 [false] (exb b__law_led) [.int N] = _
  exact runS_rt (n := 5) (ds := [.int N]) (ms := [false]) (o := []) (b := exb b__law_led) (by rfl) go (by rfl)
end LK47

namespace LK47
open PySem PySem.Spec Eng
/-! ### no repeat: the law's look, and the program's -/
theorem runF_pre : ∀ (xs ys : List Nat) (h r a b : Nat), runF xs ys h r = true → runF (xs.take a) (ys.take b) h r = true
  | [], _, _, _, _, _, _ => by rw [List.take_nil]; rfl
  | _ :: _, [], _, _, a, _, _ => by rw [List.take_nil]; cases a <;> rfl
  | x :: xs, y :: ys, h, r, 0, b, _ => rfl
  | x :: xs, y :: ys, h, r, a + 1, 0, _ => rfl
  | x :: xs, y :: ys, h, r, a + 1, b + 1, e => by
    rw [List.take_succ_cons, List.take_succ_cons]
    unfold runF at e ⊢
    by_cases z : x = y
    · rw [if_pos z] at e ⊢
      by_cases z2 : r + 1 = h
      · rw [if_pos z2] at e; cases e
      · rw [if_neg z2] at e ⊢
        exact runF_pre xs ys h (r + 1) a b e
    · rw [if_neg z] at e ⊢
      exact runF_pre xs ys h 0 a b e
theorem free_all {m h : Nat} (hm : m ≤ 400) (h1 : 1 ≤ h) (h2 : h ≤ 200) : runF (signs.take m) ((signs.take m).drop h) h 0 = true := by
  have := List.all_eq_true.mp free400 h (List.mem_range.mpr (by omega))
  simp only [Bool.or_eq_true, beq_iff_eq] at this
  rcases this with z | z
  · omega
  · have e : (signs.take m) = (signs.take 400).take m := by rw [List.take_take, Nat.min_eq_left hm]
    rw [e, List.drop_take]
    exact runF_pre _ _ _ _ _ _ z
def Fr (w : List Nat) : Prop := ∀ h, 1 ≤ h → h ≤ w.length / 2 → runF w (w.drop h) h 0 = true
theorem at_w {w : List Nat} {i : Nat} (h : i < w.length) : L2.atI (w.map natD) (i : Int) = some (.int (w[i] : Nat)) := by
  refine atI_nat (by omega) ?_
  rw [Int.toNat_natCast, List.getElem?_map, List.getElem?_eq_getElem h]; rfl
/-- the run behind a place -/
theorem run_next {w : List Nat} {h a r : Nat} (h1 : 1 ≤ h) (ha : a + h < w.length) (hr : runF (w.drop a) (w.drop (a + h)) h r = true) :
    (w[a]'(by omega) = w[a + h] ∧ r + 1 ≠ h ∧ runF (w.drop (a + 1)) (w.drop (a + 1 + h)) h (r + 1) = true) ∨ (w[a]'(by omega) ≠ w[a + h] ∧ runF (w.drop (a + 1)) (w.drop (a + 1 + h)) h 0 = true) := by
  rw [List.drop_eq_getElem_cons (show a < w.length by omega), List.drop_eq_getElem_cons ha] at hr
  unfold runF at hr
  rw [show a + 1 + h = a + h + 1 by omega]
  by_cases z : w[a]'(by omega) = w[a + h]
  · rw [if_pos z] at hr
    by_cases z2 : r + 1 = h
    · rw [if_pos z2] at hr; cases hr
    · rw [if_neg z2] at hr
      exact .inl ⟨z, z2, hr⟩
  · rw [if_neg z] at hr
    exact .inr ⟨z, hr⟩
theorem nonN' : Eng.isNon .non = true := rfl
def ifO : CB := match b__law_is_free with
  | .cons (.for_ _ _ b) _ => b
  | _ => .nil
def ifI : CB := match ifO with
  | .cons _ (.cons (.for_ _ _ b) _) => b
  | _ => .nil
theorem if_step {w : List Nat} {h a r : Nat} (h1 : 1 ≤ h) (ha : a + h < w.length) (hr : runF (w.drop a) (w.drop (a + h)) h r = true) :
    ∃ r' : Nat, exb ifI [.sh (.tup (w.map natD)), .sh (.int (h : Nat)), .sh (.int (r : Nat)), .sh (.int (a : Nat))] = .nx [.sh (.tup (w.map natD)), .sh (.int (h : Nat)), .sh (.int (r' : Nat)), .sh (.int (a : Nat))] ∧ runF (w.drop (a + 1)) (w.drop (a + 1 + h)) h r' = true := by
  have hA := at_w (w := w) (i := a) (by omega)
  have hB := at_w (w := w) (i := a + h) ha
  have cB : ((a + h : Nat) : Int) = (a : Int) + (h : Int) := by push_cast; rfl
  rw [cB] at hB
  have nx := run_next h1 ha hr
  generalize hx : w[a]'(by omega) = x at *
  generalize hy : w[a + h] = y at *
  generalize hW : w.map natD = W at *
  unfold ifI ifO b__law_is_free
  dsimp only
  rcases nx with ⟨e, f, g⟩ | ⟨e, g⟩
  · refine ⟨r + 1, ?_, g⟩
    have hE : ((x : Int) == (y : Int)) = true := by simp <;> omega
    have hF : ((r : Int) + 1 == (h : Int)) = false := by simp <;> omega
    have cR : ((r + 1 : Nat) : Int) = (r : Int) + 1 := by push_cast; rfl
    rw [cR]
    generalize (x : Int) = X at *
    generalize (y : Int) = Y at *
    generalize (r : Int) = R at *
    generalize (h : Int) = H at *
    generalize (a : Int) = A at *
    simp only [Q.b_ok, Q.b_ex, Q.b_bd, Q.t_ok, Q.t_ex, Q.t_bd, Q.s_nx, Q.s_rt, Q.s_bk, Q.s_ct, Q.s_ex, Q.s_bd, Q.p_sm, Q.p_no, Q.r_sh, Q.r_l, Q.r_t, Q.r_d, Q.w_sh, Q.w_fr, Q.w_br, Q.d_sh, Q.d_fr, Q.d_br, Q.a_sh, Q.a_ow, Q.a_io, Q.a_lk, Q.m_ow, Q.m_io, Q.m_sh, Q.h_sh, Q.h_fr, Q.h_br, Q.c_sh, Q.c_fr, Q.c_br, Q.v_sh, Q.v_fr, Q.e_val, Q.e_tst, Q.e_io, Q.e_md, Q.kC', Q.kV', Q.kU', Q.kB', Q.kP0, Q.kP1, Q.kS', Q.kT', Q.kCh', Q.bl_s, Q.kVa, Q.kN', Q.kI', Q.kIT, Q.kAV, Q.kAT, Q.kSh, Q.kNl, Q.kCo, Q.kVw', Q.kSt, Q.kTu, Q.kLs, Q.kBi', Q.dr_n, Q.dr_c, Q.kMm', Q.kMt, Q.kMf, Q.kCa, Q.kCk, Q.cs, Q.av_n, Q.av_s, Q.av_i, Q.ai_n, Q.ai_s, Q.ai_i, Q.io_s, Q.io_i, Q.st_n, Q.st_c, Q.mu_l, Q.mu_d, Q.mu_o, Q.sa, Q.fa, Q.f_no, Q.f_sh, Q.f_ow, Q.bv, Q.ag_n, Q.ag_t, Q.an, Q.at_, Q.as_n, Q.as_c, Q.pv, Q.rt_s, Q.rt_f, Q.rt_b, Q.kIv, Q.kYs, Q.os_n, Q.os_t, Q.os_f, Q.is_t, Q.is_f, Q.is_n, Q.rs, Q.so, Q.l_int, Q.le_int, Q.g_int, Q.ge_int, Q.eq_d, Q.ne_d, Q.is_non, Q.bo', Q.tr_b, Q.tr_i, Q.tr_l, Q.ad_i, Q.sb_i, Q.ml_i, Q.fd_i, Q.md_i, Q.pw_i, Q.ad_l, Q.su_l, Q.su_t, Q.bi1', Q.i_i, Q.i_b, Q.ab_i, Q.le_l, Q.le_t, Q.li_l, Q.tu_l, Q.ng_i, Q.sx_l, Q.bm_s, exb, exs, evc, evl, evi, List.getElem?_cons_zero, List.getElem?_cons_succ, List.getElem?_nil, List.set_cons_zero, List.set_cons_succ, List.length_cons, List.length_nil, Option.bind_some, Option.bind_none, Option.map_some, Option.map_none, List.map_cons, List.map_nil, List.replicate_zero, List.replicate_succ, List.append_nil, List.cons_append, List.nil_append, Bool.not_true, Bool.not_false, Bool.false_eq_true, if_true, if_false, ite_true, ite_false, Option.isSome_some, Option.isSome_none, Bool.and_true, Bool.true_and, Bool.and_false, Bool.false_and, Bool.or_true, Bool.true_or, Bool.or_false, Bool.false_or, Nat.reduceAdd, Nat.reduceSub, Nat.sub_self, Nat.add_zero, Nat.zero_add, Nat.reduceLT, Nat.reduceLeDiff, reduceCtorEq, List.nodup_nil, List.nodup_cons, List.not_mem_nil, not_false_eq_true, and_self, and_true, true_and, decide_true, decide_false, List.tail_cons, List.headD_cons, CE.isNoe, CL.len, Bool.true_eq_false, Int.reduceLT, Int.reduceLE, Int.reduceToNat, reduceIte, hA, hB, hE, hF, eq_ii]
  · refine ⟨0, ?_, g⟩
    have hE : ((x : Int) == (y : Int)) = false := by simp <;> omega
    have hF : ((0 : Int) == (h : Int)) = false := by simp <;> omega
    generalize (x : Int) = X at *
    generalize (y : Int) = Y at *
    generalize (r : Int) = R at *
    generalize (h : Int) = H at *
    generalize (a : Int) = A at *
    simp only [Q.b_ok, Q.b_ex, Q.b_bd, Q.t_ok, Q.t_ex, Q.t_bd, Q.s_nx, Q.s_rt, Q.s_bk, Q.s_ct, Q.s_ex, Q.s_bd, Q.p_sm, Q.p_no, Q.r_sh, Q.r_l, Q.r_t, Q.r_d, Q.w_sh, Q.w_fr, Q.w_br, Q.d_sh, Q.d_fr, Q.d_br, Q.a_sh, Q.a_ow, Q.a_io, Q.a_lk, Q.m_ow, Q.m_io, Q.m_sh, Q.h_sh, Q.h_fr, Q.h_br, Q.c_sh, Q.c_fr, Q.c_br, Q.v_sh, Q.v_fr, Q.e_val, Q.e_tst, Q.e_io, Q.e_md, Q.kC', Q.kV', Q.kU', Q.kB', Q.kP0, Q.kP1, Q.kS', Q.kT', Q.kCh', Q.bl_s, Q.kVa, Q.kN', Q.kI', Q.kIT, Q.kAV, Q.kAT, Q.kSh, Q.kNl, Q.kCo, Q.kVw', Q.kSt, Q.kTu, Q.kLs, Q.kBi', Q.dr_n, Q.dr_c, Q.kMm', Q.kMt, Q.kMf, Q.kCa, Q.kCk, Q.cs, Q.av_n, Q.av_s, Q.av_i, Q.ai_n, Q.ai_s, Q.ai_i, Q.io_s, Q.io_i, Q.st_n, Q.st_c, Q.mu_l, Q.mu_d, Q.mu_o, Q.sa, Q.fa, Q.f_no, Q.f_sh, Q.f_ow, Q.bv, Q.ag_n, Q.ag_t, Q.an, Q.at_, Q.as_n, Q.as_c, Q.pv, Q.rt_s, Q.rt_f, Q.rt_b, Q.kIv, Q.kYs, Q.os_n, Q.os_t, Q.os_f, Q.is_t, Q.is_f, Q.is_n, Q.rs, Q.so, Q.l_int, Q.le_int, Q.g_int, Q.ge_int, Q.eq_d, Q.ne_d, Q.is_non, Q.bo', Q.tr_b, Q.tr_i, Q.tr_l, Q.ad_i, Q.sb_i, Q.ml_i, Q.fd_i, Q.md_i, Q.pw_i, Q.ad_l, Q.su_l, Q.su_t, Q.bi1', Q.i_i, Q.i_b, Q.ab_i, Q.le_l, Q.le_t, Q.li_l, Q.tu_l, Q.ng_i, Q.sx_l, Q.bm_s, exb, exs, evc, evl, evi, List.getElem?_cons_zero, List.getElem?_cons_succ, List.getElem?_nil, List.set_cons_zero, List.set_cons_succ, List.length_cons, List.length_nil, Option.bind_some, Option.bind_none, Option.map_some, Option.map_none, List.map_cons, List.map_nil, List.replicate_zero, List.replicate_succ, List.append_nil, List.cons_append, List.nil_append, Bool.not_true, Bool.not_false, Bool.false_eq_true, if_true, if_false, ite_true, ite_false, Option.isSome_some, Option.isSome_none, Bool.and_true, Bool.true_and, Bool.and_false, Bool.false_and, Bool.or_true, Bool.true_or, Bool.or_false, Bool.false_or, Nat.reduceAdd, Nat.reduceSub, Nat.sub_self, Nat.add_zero, Nat.zero_add, Nat.reduceLT, Nat.reduceLeDiff, reduceCtorEq, List.nodup_nil, List.nodup_cons, List.not_mem_nil, not_false_eq_true, and_self, and_true, true_and, decide_true, decide_false, List.tail_cons, List.headD_cons, CE.isNoe, CL.len, Bool.true_eq_false, Int.reduceLT, Int.reduceLE, Int.reduceToNat, reduceIte, hA, hB, hE, hF, eq_ii]
    rfl
theorem if_inner {w : List Nat} (fw : Fr w) {h : Nat} (h1 : 1 ≤ h) (hn : h ≤ w.length / 2) {s3 : SV} (f3 : frO (some s3) = true) :
    ∃ r s3', forF (.nm 3) (exb ifI) (rangeD 0 (w.length - h)) [.sh (.tup (w.map natD)), .sh (.int (h : Nat)), .sh (.int 0), s3] = .nx [.sh (.tup (w.map natD)), .sh (.int (h : Nat)), .sh (.int r), s3'] ∧ frO (some s3') = true := by
  have := for_range (tg := .nm 3) (b := exb ifI) (I := fun j S => ∃ (r : Nat) (s3 : SV), S = [.sh (.tup (w.map natD)), .sh (.int (h : Nat)), .sh (.int (r : Nat)), s3] ∧ frO (some s3) = true ∧ runF (w.drop j) (w.drop (j + h)) h r = true) (R := fun _ => False) (lo := 0) (w.length - h) 0
    (S := [.sh (.tup (w.map natD)), .sh (.int (h : Nat)), .sh (.int 0), s3]) ⟨0, s3, rfl, f3, by rw [List.drop_zero, Nat.zero_add]; exact fw h h1 hn⟩ fun j S _ hj ⟨r, s3, e, f3, g⟩ => by
      subst e
      obtain ⟨r', e', g'⟩ := if_step h1 (show j + h < w.length by omega) g
      refine ⟨[.sh (.tup (w.map natD)), .sh (.int (h : Nat)), .sh (.int (r : Nat)), .sh (.int (j : Nat))], ?_, .inl ⟨_, e', r', _, rfl, rfl, g'⟩⟩
      rw [show (0 : Int) + (j : Int) = (j : Int) by omega, Q.an, Q.fa]
      show (if frO (some s3) = true then _ else _) = _
      rw [if_pos f3]; rfl
  rcases this with ⟨S', e, r, s3', rfl, f, _⟩ | ⟨_, _, _, _, z⟩
  · rw [show (0 : Int) + ((0 : Nat) : Int) = 0 from rfl] at e
    exact ⟨_, s3', e, f⟩
  · exact z.elim
theorem len_t (w : List Nat) : bi1 .len (.tup (w.map natD)) = some (.sh (.int (w.length : Nat))) := by rw [Q.le_t, List.length_map]
theorem if_outer {w : List Nat} (fw : Fr w) (hl : w.length ≤ 4000) {h : Nat} (h1 : 1 ≤ h) (hn : h ≤ w.length / 2) {s2 s3 : SV} (f2 : frO (some s2) = true) (f3 : frO (some s3) = true) :
    ∃ r s3', exb ifO [.sh (.tup (w.map natD)), .sh (.int (h : Nat)), s2, s3] = .nx [.sh (.tup (w.map natD)), .sh (.int (h : Nat)), .sh (.int r), s3'] ∧ frO (some s3') = true := by
  obtain ⟨r, s3', e, f⟩ := if_inner fw h1 hn f3
  refine ⟨r, s3', ?_, f⟩
  have hln := len_t w
  have hlv : (evc (.bi .len (.cons (.var 0) .nil))).val [.sh (.tup (w.map natD)), .sh (.int (h : Nat)), .sh (.int 0), s3] = .ok (.sh (.int (w.length : Nat))) [.sh (.tup (w.map natD)), .sh (.int (h : Nat)), .sh (.int 0), s3] := by
    generalize D.tup (w.map natD) = W at *
    simp only [Q.b_ok, Q.b_ex, Q.b_bd, Q.t_ok, Q.t_ex, Q.t_bd, Q.s_nx, Q.s_rt, Q.s_bk, Q.s_ct, Q.s_ex, Q.s_bd, Q.p_sm, Q.p_no, Q.r_sh, Q.r_l, Q.r_t, Q.r_d, Q.w_sh, Q.w_fr, Q.w_br, Q.d_sh, Q.d_fr, Q.d_br, Q.a_sh, Q.a_ow, Q.a_io, Q.a_lk, Q.m_ow, Q.m_io, Q.m_sh, Q.h_sh, Q.h_fr, Q.h_br, Q.c_sh, Q.c_fr, Q.c_br, Q.v_sh, Q.v_fr, Q.e_val, Q.e_tst, Q.e_io, Q.e_md, Q.kC', Q.kV', Q.kU', Q.kB', Q.kP0, Q.kP1, Q.kS', Q.kT', Q.kCh', Q.bl_s, Q.kVa, Q.kN', Q.kI', Q.kIT, Q.kAV, Q.kAT, Q.kSh, Q.kNl, Q.kCo, Q.kVw', Q.kSt, Q.kTu, Q.kLs, Q.kBi', Q.dr_n, Q.dr_c, Q.kMm', Q.kMt, Q.kMf, Q.kCa, Q.kCk, Q.cs, Q.av_n, Q.av_s, Q.av_i, Q.ai_n, Q.ai_s, Q.ai_i, Q.io_s, Q.io_i, Q.st_n, Q.st_c, Q.mu_l, Q.mu_d, Q.mu_o, Q.sa, Q.fa, Q.f_no, Q.f_sh, Q.f_ow, Q.bv, Q.ag_n, Q.ag_t, Q.an, Q.at_, Q.as_n, Q.as_c, Q.pv, Q.rt_s, Q.rt_f, Q.rt_b, Q.kIv, Q.kYs, Q.os_n, Q.os_t, Q.os_f, Q.is_t, Q.is_f, Q.is_n, Q.rs, Q.so, Q.l_int, Q.le_int, Q.g_int, Q.ge_int, Q.eq_d, Q.ne_d, Q.is_non, Q.bo', Q.tr_b, Q.tr_i, Q.tr_l, Q.ad_i, Q.sb_i, Q.ml_i, Q.fd_i, Q.md_i, Q.pw_i, Q.ad_l, Q.su_l, Q.su_t, Q.bi1', Q.i_i, Q.i_b, Q.ab_i, Q.le_l, Q.le_t, Q.li_l, Q.tu_l, Q.ng_i, Q.sx_l, Q.bm_s, exb, exs, evc, evl, evi, List.getElem?_cons_zero, List.getElem?_cons_succ, List.getElem?_nil, List.set_cons_zero, List.set_cons_succ, List.length_cons, List.length_nil, Option.bind_some, Option.bind_none, Option.map_some, Option.map_none, List.map_cons, List.map_nil, List.replicate_zero, List.replicate_succ, List.append_nil, List.cons_append, List.nil_append, Bool.not_true, Bool.not_false, Bool.false_eq_true, if_true, if_false, ite_true, ite_false, Option.isSome_some, Option.isSome_none, Bool.and_true, Bool.true_and, Bool.and_false, Bool.false_and, Bool.or_true, Bool.true_or, Bool.or_false, Bool.false_or, Nat.reduceAdd, Nat.reduceSub, Nat.sub_self, Nat.add_zero, Nat.zero_add, Nat.reduceLT, Nat.reduceLeDiff, reduceCtorEq, List.nodup_nil, List.nodup_cons, List.not_mem_nil, not_false_eq_true, and_self, and_true, true_and, decide_true, decide_false, List.tail_cons, List.headD_cons, CE.isNoe, CL.len, Bool.true_eq_false, Int.reduceLT, Int.reduceLE, Int.reduceToNat, reduceIte, hln]
  have hr : evi (.rng1 (.bin .Sub (.bi .len (.cons (.var 0) .nil)) (.var 1))) [.sh (.tup (w.map natD)), .sh (.int (h : Nat)), .sh (.int 0), s3] = .ok (rangeD 0 (w.length - h), none) [.sh (.tup (w.map natD)), .sh (.int (h : Nat)), .sh (.int 0), s3] :=
    rng1_of (sub_i hlv (j := (h : Nat)) rfl) (by omega) (by omega) (by omega)
  have eb : ifO = .cons (.asg (.nm 2) (.int 0)) (.cons (.for_ (.nm 3) (.rng1 (.bin .Sub (.bi .len (.cons (.var 0) .nil)) (.var 1))) ifI) .nil) := rfl
  have a1 : exs (.asg (.nm 2) (.int 0)) [.sh (.tup (w.map natD)), .sh (.int (h : Nat)), s2, s3] = .nx [.sh (.tup (w.map natD)), .sh (.int (h : Nat)), .sh (.int 0), s3] := asg_v (i := 2) (d := .int 0) (S1 := [.sh (.tup (w.map natD)), .sh (.int (h : Nat)), s2, s3]) rfl (show frO (some s2) = true from f2)
  rw [eb, exb_nx a1, exb_nx (exs_for hr e)]
  rfl
theorem free_eq {w : List Nat} (fw : Fr w) (hl : w.length ≤ 4000) : g__law_is_free.m [.tup (w.map natD)] = .ok false (.bl true) [] := by
  have := for_range (tg := .nm 1) (b := exb ifO) (I := fun j S => ∃ s1 s2 s3 : SV, S = [.sh (.tup (w.map natD)), s1, s2, s3] ∧ frO (some s1) = true ∧ frO (some s2) = true ∧ frO (some s3) = true) (R := fun _ => False) (lo := 1) (w.length / 2) 0
    (S := [.sh (.tup (w.map natD)), .no, .no, .no]) ⟨.no, .no, .no, rfl, rfl, rfl, rfl⟩ fun j S _ hj ⟨s1, s2, s3, e, f1, f2, f3⟩ => by
      subst e
      obtain ⟨r, s3', e', f3'⟩ := if_outer fw hl (h := j + 1) (by omega) (by omega) f2 f3
      refine ⟨[.sh (.tup (w.map natD)), .sh (.int ((j + 1 : Nat) : Int)), s2, s3], ?_, .inl ⟨_, e', _, _, _, rfl, rfl, rfl, f3'⟩⟩
      rw [show (1 : Int) + (j : Int) = ((j + 1 : Nat) : Int) by omega, Q.an, Q.fa]
      show (if frO (some s1) = true then _ else _) = _
      rw [if_pos f1]; rfl
  rw [show (1 : Int) + ((0 : Nat) : Int) = 1 from rfl] at this
  rcases this with ⟨S', e, s1, s2, s3, rfl, _, _, _⟩ | ⟨_, _, _, _, z⟩
  case inr => exact z.elim
  have hln := len_t w
  have hr : evi (.rng2 (.int 1) (.bin .Add (.bin .FloorDiv (.bi .len (.cons (.var 0) .nil)) (.int 2)) (.int 1))) [.sh (.tup (w.map natD)), .no, .no, .no] = .ok (rangeD 1 (w.length / 2), none) [.sh (.tup (w.map natD)), .no, .no, .no] := by
    have hb : (evc (.bin .Add (.bin .FloorDiv (.bi .len (.cons (.var 0) .nil)) (.int 2)) (.int 1))).val [.sh (.tup (w.map natD)), .no, .no, .no] = .ok (.sh (.int ((w.length : Int) / 2 + 1))) [.sh (.tup (w.map natD)), .no, .no, .no] := by
      generalize D.tup (w.map natD) = W at *
      simp only [Q.b_ok, Q.b_ex, Q.b_bd, Q.t_ok, Q.t_ex, Q.t_bd, Q.s_nx, Q.s_rt, Q.s_bk, Q.s_ct, Q.s_ex, Q.s_bd, Q.p_sm, Q.p_no, Q.r_sh, Q.r_l, Q.r_t, Q.r_d, Q.w_sh, Q.w_fr, Q.w_br, Q.d_sh, Q.d_fr, Q.d_br, Q.a_sh, Q.a_ow, Q.a_io, Q.a_lk, Q.m_ow, Q.m_io, Q.m_sh, Q.h_sh, Q.h_fr, Q.h_br, Q.c_sh, Q.c_fr, Q.c_br, Q.v_sh, Q.v_fr, Q.e_val, Q.e_tst, Q.e_io, Q.e_md, Q.kC', Q.kV', Q.kU', Q.kB', Q.kP0, Q.kP1, Q.kS', Q.kT', Q.kCh', Q.bl_s, Q.kVa, Q.kN', Q.kI', Q.kIT, Q.kAV, Q.kAT, Q.kSh, Q.kNl, Q.kCo, Q.kVw', Q.kSt, Q.kTu, Q.kLs, Q.kBi', Q.dr_n, Q.dr_c, Q.kMm', Q.kMt, Q.kMf, Q.kCa, Q.kCk, Q.cs, Q.av_n, Q.av_s, Q.av_i, Q.ai_n, Q.ai_s, Q.ai_i, Q.io_s, Q.io_i, Q.st_n, Q.st_c, Q.mu_l, Q.mu_d, Q.mu_o, Q.sa, Q.fa, Q.f_no, Q.f_sh, Q.f_ow, Q.bv, Q.ag_n, Q.ag_t, Q.an, Q.at_, Q.as_n, Q.as_c, Q.pv, Q.rt_s, Q.rt_f, Q.rt_b, Q.kIv, Q.kYs, Q.os_n, Q.os_t, Q.os_f, Q.is_t, Q.is_f, Q.is_n, Q.rs, Q.so, Q.l_int, Q.le_int, Q.g_int, Q.ge_int, Q.eq_d, Q.ne_d, Q.is_non, Q.bo', Q.tr_b, Q.tr_i, Q.tr_l, Q.ad_i, Q.sb_i, Q.ml_i, Q.fd_i, Q.md_i, Q.pw_i, Q.ad_l, Q.su_l, Q.su_t, Q.bi1', Q.i_i, Q.i_b, Q.ab_i, Q.le_l, Q.le_t, Q.li_l, Q.tu_l, Q.ng_i, Q.sx_l, Q.bm_s, exb, exs, evc, evl, evi, List.getElem?_cons_zero, List.getElem?_cons_succ, List.getElem?_nil, List.set_cons_zero, List.set_cons_succ, List.length_cons, List.length_nil, Option.bind_some, Option.bind_none, Option.map_some, Option.map_none, List.map_cons, List.map_nil, List.replicate_zero, List.replicate_succ, List.append_nil, List.cons_append, List.nil_append, Bool.not_true, Bool.not_false, Bool.false_eq_true, if_true, if_false, ite_true, ite_false, Option.isSome_some, Option.isSome_none, Bool.and_true, Bool.true_and, Bool.and_false, Bool.false_and, Bool.or_true, Bool.true_or, Bool.or_false, Bool.false_or, Nat.reduceAdd, Nat.reduceSub, Nat.sub_self, Nat.add_zero, Nat.zero_add, Nat.reduceLT, Nat.reduceLeDiff, reduceCtorEq, List.nodup_nil, List.nodup_cons, List.not_mem_nil, not_false_eq_true, and_self, and_true, true_and, decide_true, decide_false, List.tail_cons, List.headD_cons, CE.isNoe, CL.len, Bool.true_eq_false, Int.reduceLT, Int.reduceLE, Int.reduceToNat, reduceIte, hln, fd2, -Q.fd_i]
    exact rng2_of (i := 1) rfl hb (by omega) (by omega) (by omega) (by omega) (by omega)
  have eb : b__law_is_free = .cons (.for_ (.nm 1) (.rng2 (.int 1) (.bin .Add (.bin .FloorDiv (.bi .len (.cons (.var 0) .nil)) (.int 2)) (.int 1))) ifO) (.cons (.ret (.bl true)) .nil) := rfl
  have go : exb b__law_is_free (slotsOf 4 [false] [.tup (w.map natD)]) = .rt false (.bl true) [.sh (.tup (w.map natD)), s1, s2, s3] := by
    have e0 : slotsOf 4 [false] [.tup (w.map natD)] = [.sh (.tup (w.map natD)), .no, .no, .no] := rfl
    rw [e0, eb, exb_nx (exs_for hr e)]
    exact exb_rt rfl
  generalize D.tup (w.map natD) = T at go ⊢
  show runS 4 [false] (exb b__law_is_free) [T] = _
  exact runS_rt (n := 4) (ds := [T]) (ms := [false]) (o := []) (b := exb b__law_is_free) (by rfl) go (by rfl)
end LK47

namespace LK47
open PySem PySem.Spec Eng
/-! ### the program finds no repeat -/
def lrO : CB := match b_least_repeat with
  | .cons _ (.cons (.for_ _ _ b) _) => b
  | _ => .nil
def lrI : CB := match lrO with
  | .cons _ (.cons (.for_ _ _ b) _) => b
  | _ => .nil
theorem lr_step {w : List Nat} {h a r : Nat} (h1 : 1 ≤ h) (ha : a + h < w.length) (hr : runF (w.drop a) (w.drop (a + h)) h r = true) :
    ∃ r' : Nat, exb lrI [.sh (.tup (w.map natD)), .sh .non, .sh (.int (h : Nat)), .sh (.int (r : Nat)), .sh (.int (a : Nat))] = .nx [.sh (.tup (w.map natD)), .sh .non, .sh (.int (h : Nat)), .sh (.int (r' : Nat)), .sh (.int (a : Nat))] ∧ runF (w.drop (a + 1)) (w.drop (a + 1 + h)) h r' = true := by
  have hA := at_w (w := w) (i := a) (by omega)
  have hB := at_w (w := w) (i := a + h) ha
  have cB : ((a + h : Nat) : Int) = (a : Int) + (h : Int) := by push_cast; rfl
  rw [cB] at hB
  have nx := run_next h1 ha hr
  generalize hx : w[a]'(by omega) = x at *
  generalize hy : w[a + h] = y at *
  generalize hW : w.map natD = W at *
  unfold lrI lrO b_least_repeat
  dsimp only
  rcases nx with ⟨e, f, g⟩ | ⟨e, g⟩
  · refine ⟨r + 1, ?_, g⟩
    have hE : ((x : Int) == (y : Int)) = true := by simp <;> omega
    have hF : ((r : Int) + 1 == (h : Int)) = false := by simp <;> omega
    have cR : ((r + 1 : Nat) : Int) = (r : Int) + 1 := by push_cast; rfl
    rw [cR]
    generalize (x : Int) = X at *
    generalize (y : Int) = Y at *
    generalize (r : Int) = R at *
    generalize (h : Int) = H at *
    generalize (a : Int) = A at *
    simp only [Q.b_ok, Q.b_ex, Q.b_bd, Q.t_ok, Q.t_ex, Q.t_bd, Q.s_nx, Q.s_rt, Q.s_bk, Q.s_ct, Q.s_ex, Q.s_bd, Q.p_sm, Q.p_no, Q.r_sh, Q.r_l, Q.r_t, Q.r_d, Q.w_sh, Q.w_fr, Q.w_br, Q.d_sh, Q.d_fr, Q.d_br, Q.a_sh, Q.a_ow, Q.a_io, Q.a_lk, Q.m_ow, Q.m_io, Q.m_sh, Q.h_sh, Q.h_fr, Q.h_br, Q.c_sh, Q.c_fr, Q.c_br, Q.v_sh, Q.v_fr, Q.e_val, Q.e_tst, Q.e_io, Q.e_md, Q.kC', Q.kV', Q.kU', Q.kB', Q.kP0, Q.kP1, Q.kS', Q.kT', Q.kCh', Q.bl_s, Q.kVa, Q.kN', Q.kI', Q.kIT, Q.kAV, Q.kAT, Q.kSh, Q.kNl, Q.kCo, Q.kVw', Q.kSt, Q.kTu, Q.kLs, Q.kBi', Q.dr_n, Q.dr_c, Q.kMm', Q.kMt, Q.kMf, Q.kCa, Q.kCk, Q.cs, Q.av_n, Q.av_s, Q.av_i, Q.ai_n, Q.ai_s, Q.ai_i, Q.io_s, Q.io_i, Q.st_n, Q.st_c, Q.mu_l, Q.mu_d, Q.mu_o, Q.sa, Q.fa, Q.f_no, Q.f_sh, Q.f_ow, Q.bv, Q.ag_n, Q.ag_t, Q.an, Q.at_, Q.as_n, Q.as_c, Q.pv, Q.rt_s, Q.rt_f, Q.rt_b, Q.kIv, Q.kYs, Q.os_n, Q.os_t, Q.os_f, Q.is_t, Q.is_f, Q.is_n, Q.rs, Q.so, Q.l_int, Q.le_int, Q.g_int, Q.ge_int, Q.eq_d, Q.ne_d, Q.is_non, Q.bo', Q.tr_b, Q.tr_i, Q.tr_l, Q.ad_i, Q.sb_i, Q.ml_i, Q.fd_i, Q.md_i, Q.pw_i, Q.ad_l, Q.su_l, Q.su_t, Q.bi1', Q.i_i, Q.i_b, Q.ab_i, Q.le_l, Q.le_t, Q.li_l, Q.tu_l, Q.ng_i, Q.sx_l, Q.bm_s, exb, exs, evc, evl, evi, List.getElem?_cons_zero, List.getElem?_cons_succ, List.getElem?_nil, List.set_cons_zero, List.set_cons_succ, List.length_cons, List.length_nil, Option.bind_some, Option.bind_none, Option.map_some, Option.map_none, List.map_cons, List.map_nil, List.replicate_zero, List.replicate_succ, List.append_nil, List.cons_append, List.nil_append, Bool.not_true, Bool.not_false, Bool.false_eq_true, if_true, if_false, ite_true, ite_false, Option.isSome_some, Option.isSome_none, Bool.and_true, Bool.true_and, Bool.and_false, Bool.false_and, Bool.or_true, Bool.true_or, Bool.or_false, Bool.false_or, Nat.reduceAdd, Nat.reduceSub, Nat.sub_self, Nat.add_zero, Nat.zero_add, Nat.reduceLT, Nat.reduceLeDiff, reduceCtorEq, List.nodup_nil, List.nodup_cons, List.not_mem_nil, not_false_eq_true, and_self, and_true, true_and, decide_true, decide_false, List.tail_cons, List.headD_cons, CE.isNoe, CL.len, Bool.true_eq_false, Int.reduceLT, Int.reduceLE, Int.reduceToNat, reduceIte, hA, hB, hE, hF, eq_ii]
  · refine ⟨0, ?_, g⟩
    have hE : ((x : Int) == (y : Int)) = false := by simp <;> omega
    have hF : ((0 : Int) == (h : Int)) = false := by simp <;> omega
    generalize (x : Int) = X at *
    generalize (y : Int) = Y at *
    generalize (r : Int) = R at *
    generalize (h : Int) = H at *
    generalize (a : Int) = A at *
    simp only [Q.b_ok, Q.b_ex, Q.b_bd, Q.t_ok, Q.t_ex, Q.t_bd, Q.s_nx, Q.s_rt, Q.s_bk, Q.s_ct, Q.s_ex, Q.s_bd, Q.p_sm, Q.p_no, Q.r_sh, Q.r_l, Q.r_t, Q.r_d, Q.w_sh, Q.w_fr, Q.w_br, Q.d_sh, Q.d_fr, Q.d_br, Q.a_sh, Q.a_ow, Q.a_io, Q.a_lk, Q.m_ow, Q.m_io, Q.m_sh, Q.h_sh, Q.h_fr, Q.h_br, Q.c_sh, Q.c_fr, Q.c_br, Q.v_sh, Q.v_fr, Q.e_val, Q.e_tst, Q.e_io, Q.e_md, Q.kC', Q.kV', Q.kU', Q.kB', Q.kP0, Q.kP1, Q.kS', Q.kT', Q.kCh', Q.bl_s, Q.kVa, Q.kN', Q.kI', Q.kIT, Q.kAV, Q.kAT, Q.kSh, Q.kNl, Q.kCo, Q.kVw', Q.kSt, Q.kTu, Q.kLs, Q.kBi', Q.dr_n, Q.dr_c, Q.kMm', Q.kMt, Q.kMf, Q.kCa, Q.kCk, Q.cs, Q.av_n, Q.av_s, Q.av_i, Q.ai_n, Q.ai_s, Q.ai_i, Q.io_s, Q.io_i, Q.st_n, Q.st_c, Q.mu_l, Q.mu_d, Q.mu_o, Q.sa, Q.fa, Q.f_no, Q.f_sh, Q.f_ow, Q.bv, Q.ag_n, Q.ag_t, Q.an, Q.at_, Q.as_n, Q.as_c, Q.pv, Q.rt_s, Q.rt_f, Q.rt_b, Q.kIv, Q.kYs, Q.os_n, Q.os_t, Q.os_f, Q.is_t, Q.is_f, Q.is_n, Q.rs, Q.so, Q.l_int, Q.le_int, Q.g_int, Q.ge_int, Q.eq_d, Q.ne_d, Q.is_non, Q.bo', Q.tr_b, Q.tr_i, Q.tr_l, Q.ad_i, Q.sb_i, Q.ml_i, Q.fd_i, Q.md_i, Q.pw_i, Q.ad_l, Q.su_l, Q.su_t, Q.bi1', Q.i_i, Q.i_b, Q.ab_i, Q.le_l, Q.le_t, Q.li_l, Q.tu_l, Q.ng_i, Q.sx_l, Q.bm_s, exb, exs, evc, evl, evi, List.getElem?_cons_zero, List.getElem?_cons_succ, List.getElem?_nil, List.set_cons_zero, List.set_cons_succ, List.length_cons, List.length_nil, Option.bind_some, Option.bind_none, Option.map_some, Option.map_none, List.map_cons, List.map_nil, List.replicate_zero, List.replicate_succ, List.append_nil, List.cons_append, List.nil_append, Bool.not_true, Bool.not_false, Bool.false_eq_true, if_true, if_false, ite_true, ite_false, Option.isSome_some, Option.isSome_none, Bool.and_true, Bool.true_and, Bool.and_false, Bool.false_and, Bool.or_true, Bool.true_or, Bool.or_false, Bool.false_or, Nat.reduceAdd, Nat.reduceSub, Nat.sub_self, Nat.add_zero, Nat.zero_add, Nat.reduceLT, Nat.reduceLeDiff, reduceCtorEq, List.nodup_nil, List.nodup_cons, List.not_mem_nil, not_false_eq_true, and_self, and_true, true_and, decide_true, decide_false, List.tail_cons, List.headD_cons, CE.isNoe, CL.len, Bool.true_eq_false, Int.reduceLT, Int.reduceLE, Int.reduceToNat, reduceIte, hA, hB, hE, hF, eq_ii]
    rfl
theorem lr_inner {w : List Nat} (fw : Fr w) {h : Nat} (h1 : 1 ≤ h) (hn : h ≤ w.length / 2) {s4 : SV} (f4 : frO (some s4) = true) :
    ∃ r s4', forF (.nm 4) (exb lrI) (rangeD 0 (w.length - h)) [.sh (.tup (w.map natD)), .sh .non, .sh (.int (h : Nat)), .sh (.int 0), s4] = .nx [.sh (.tup (w.map natD)), .sh .non, .sh (.int (h : Nat)), .sh (.int r), s4'] ∧ frO (some s4') = true := by
  have := for_range (tg := .nm 4) (b := exb lrI) (I := fun j S => ∃ (r : Nat) (s4 : SV), S = [.sh (.tup (w.map natD)), .sh .non, .sh (.int (h : Nat)), .sh (.int (r : Nat)), s4] ∧ frO (some s4) = true ∧ runF (w.drop j) (w.drop (j + h)) h r = true) (R := fun _ => False) (lo := 0) (w.length - h) 0
    (S := [.sh (.tup (w.map natD)), .sh .non, .sh (.int (h : Nat)), .sh (.int 0), s4]) ⟨0, s4, rfl, f4, by rw [List.drop_zero, Nat.zero_add]; exact fw h h1 hn⟩ fun j S _ hj ⟨r, s4, e, f4, g⟩ => by
      subst e
      obtain ⟨r', e', g'⟩ := lr_step h1 (show j + h < w.length by omega) g
      refine ⟨[.sh (.tup (w.map natD)), .sh .non, .sh (.int (h : Nat)), .sh (.int (r : Nat)), .sh (.int (j : Nat))], ?_, .inl ⟨_, e', r', _, rfl, rfl, g'⟩⟩
      rw [show (0 : Int) + (j : Int) = (j : Int) by omega, Q.an, Q.fa]
      show (if frO (some s4) = true then _ else _) = _
      rw [if_pos f4]; rfl
  rcases this with ⟨S', e, r, s4', rfl, f, _⟩ | ⟨_, _, _, _, z⟩
  · rw [show (0 : Int) + ((0 : Nat) : Int) = 0 from rfl] at e
    exact ⟨_, s4', e, f⟩
  · exact z.elim
theorem lr_outer {w : List Nat} (fw : Fr w) (hl : w.length ≤ 4000) {h : Nat} (h1 : 1 ≤ h) (hn : h ≤ w.length / 2) {s3 s4 : SV} (f3 : frO (some s3) = true) (f4 : frO (some s4) = true) :
    ∃ r s4', exb lrO [.sh (.tup (w.map natD)), .sh .non, .sh (.int (h : Nat)), s3, s4] = .nx [.sh (.tup (w.map natD)), .sh .non, .sh (.int (h : Nat)), .sh (.int r), s4'] ∧ frO (some s4') = true := by
  obtain ⟨r, s4', e, f⟩ := lr_inner fw h1 hn f4
  refine ⟨r, s4', ?_, f⟩
  have hln := len_t w
  have hlv : (evc (.bi .len (.cons (.var 0) .nil))).val [.sh (.tup (w.map natD)), .sh .non, .sh (.int (h : Nat)), .sh (.int 0), s4] = .ok (.sh (.int (w.length : Nat))) [.sh (.tup (w.map natD)), .sh .non, .sh (.int (h : Nat)), .sh (.int 0), s4] := by
    generalize D.tup (w.map natD) = W at *
    simp only [Q.b_ok, Q.b_ex, Q.b_bd, Q.t_ok, Q.t_ex, Q.t_bd, Q.s_nx, Q.s_rt, Q.s_bk, Q.s_ct, Q.s_ex, Q.s_bd, Q.p_sm, Q.p_no, Q.r_sh, Q.r_l, Q.r_t, Q.r_d, Q.w_sh, Q.w_fr, Q.w_br, Q.d_sh, Q.d_fr, Q.d_br, Q.a_sh, Q.a_ow, Q.a_io, Q.a_lk, Q.m_ow, Q.m_io, Q.m_sh, Q.h_sh, Q.h_fr, Q.h_br, Q.c_sh, Q.c_fr, Q.c_br, Q.v_sh, Q.v_fr, Q.e_val, Q.e_tst, Q.e_io, Q.e_md, Q.kC', Q.kV', Q.kU', Q.kB', Q.kP0, Q.kP1, Q.kS', Q.kT', Q.kCh', Q.bl_s, Q.kVa, Q.kN', Q.kI', Q.kIT, Q.kAV, Q.kAT, Q.kSh, Q.kNl, Q.kCo, Q.kVw', Q.kSt, Q.kTu, Q.kLs, Q.kBi', Q.dr_n, Q.dr_c, Q.kMm', Q.kMt, Q.kMf, Q.kCa, Q.kCk, Q.cs, Q.av_n, Q.av_s, Q.av_i, Q.ai_n, Q.ai_s, Q.ai_i, Q.io_s, Q.io_i, Q.st_n, Q.st_c, Q.mu_l, Q.mu_d, Q.mu_o, Q.sa, Q.fa, Q.f_no, Q.f_sh, Q.f_ow, Q.bv, Q.ag_n, Q.ag_t, Q.an, Q.at_, Q.as_n, Q.as_c, Q.pv, Q.rt_s, Q.rt_f, Q.rt_b, Q.kIv, Q.kYs, Q.os_n, Q.os_t, Q.os_f, Q.is_t, Q.is_f, Q.is_n, Q.rs, Q.so, Q.l_int, Q.le_int, Q.g_int, Q.ge_int, Q.eq_d, Q.ne_d, Q.is_non, Q.bo', Q.tr_b, Q.tr_i, Q.tr_l, Q.ad_i, Q.sb_i, Q.ml_i, Q.fd_i, Q.md_i, Q.pw_i, Q.ad_l, Q.su_l, Q.su_t, Q.bi1', Q.i_i, Q.i_b, Q.ab_i, Q.le_l, Q.le_t, Q.li_l, Q.tu_l, Q.ng_i, Q.sx_l, Q.bm_s, exb, exs, evc, evl, evi, List.getElem?_cons_zero, List.getElem?_cons_succ, List.getElem?_nil, List.set_cons_zero, List.set_cons_succ, List.length_cons, List.length_nil, Option.bind_some, Option.bind_none, Option.map_some, Option.map_none, List.map_cons, List.map_nil, List.replicate_zero, List.replicate_succ, List.append_nil, List.cons_append, List.nil_append, Bool.not_true, Bool.not_false, Bool.false_eq_true, if_true, if_false, ite_true, ite_false, Option.isSome_some, Option.isSome_none, Bool.and_true, Bool.true_and, Bool.and_false, Bool.false_and, Bool.or_true, Bool.true_or, Bool.or_false, Bool.false_or, Nat.reduceAdd, Nat.reduceSub, Nat.sub_self, Nat.add_zero, Nat.zero_add, Nat.reduceLT, Nat.reduceLeDiff, reduceCtorEq, List.nodup_nil, List.nodup_cons, List.not_mem_nil, not_false_eq_true, and_self, and_true, true_and, decide_true, decide_false, List.tail_cons, List.headD_cons, CE.isNoe, CL.len, Bool.true_eq_false, Int.reduceLT, Int.reduceLE, Int.reduceToNat, reduceIte, hln]
  have hr : evi (.rng1 (.bin .Sub (.bi .len (.cons (.var 0) .nil)) (.var 2))) [.sh (.tup (w.map natD)), .sh .non, .sh (.int (h : Nat)), .sh (.int 0), s4] = .ok (rangeD 0 (w.length - h), none) [.sh (.tup (w.map natD)), .sh .non, .sh (.int (h : Nat)), .sh (.int 0), s4] :=
    rng1_of (sub_i hlv (j := (h : Nat)) rfl) (by omega) (by omega) (by omega)
  have eb : lrO = .cons (.asg (.nm 3) (.int 0)) (.cons (.for_ (.nm 4) (.rng1 (.bin .Sub (.bi .len (.cons (.var 0) .nil)) (.var 2))) lrI) .nil) := rfl
  have a1 : exs (.asg (.nm 3) (.int 0)) [.sh (.tup (w.map natD)), .sh .non, .sh (.int (h : Nat)), s3, s4] = .nx [.sh (.tup (w.map natD)), .sh .non, .sh (.int (h : Nat)), .sh (.int 0), s4] := asg_v (i := 3) (d := .int 0) (S1 := [.sh (.tup (w.map natD)), .sh .non, .sh (.int (h : Nat)), s3, s4]) rfl (show frO (some s3) = true from f3)
  rw [eb, exb_nx a1, exb_nx (exs_for hr e)]
  rfl
theorem least_none {w : List Nat} (fw : Fr w) (hl : w.length ≤ 4000) : g_least_repeat.m [.tup (w.map natD)] = .ok false .non [] := by
  have := for_range (tg := .nm 2) (b := exb lrO) (I := fun j S => ∃ s2 s3 s4 : SV, S = [.sh (.tup (w.map natD)), .sh .non, s2, s3, s4] ∧ frO (some s2) = true ∧ frO (some s3) = true ∧ frO (some s4) = true) (R := fun _ => False) (lo := 1) (w.length / 2) 0
    (S := [.sh (.tup (w.map natD)), .sh .non, .no, .no, .no]) ⟨.no, .no, .no, rfl, rfl, rfl, rfl⟩ fun j S _ hj ⟨s2, s3, s4, e, f2, f3, f4⟩ => by
      subst e
      obtain ⟨r, s4', e', f4'⟩ := lr_outer fw hl (h := j + 1) (by omega) (by omega) f3 f4
      refine ⟨[.sh (.tup (w.map natD)), .sh .non, .sh (.int ((j + 1 : Nat) : Int)), s3, s4], ?_, .inl ⟨_, e', _, _, _, rfl, rfl, rfl, f4'⟩⟩
      rw [show (1 : Int) + (j : Int) = ((j + 1 : Nat) : Int) by omega, Q.an, Q.fa]
      show (if frO (some s2) = true then _ else _) = _
      rw [if_pos f2]; rfl
  rw [show (1 : Int) + ((0 : Nat) : Int) = 1 from rfl] at this
  rcases this with ⟨S', e, s2, s3, s4, rfl, _, _, _⟩ | ⟨_, _, _, _, z⟩
  case inr => exact z.elim
  have hln := len_t w
  have hr : evi (.rng2 (.int 1) (.bin .Add (.bin .FloorDiv (.bi .len (.cons (.var 0) .nil)) (.int 2)) (.int 1))) [.sh (.tup (w.map natD)), .sh .non, .no, .no, .no] = .ok (rangeD 1 (w.length / 2), none) [.sh (.tup (w.map natD)), .sh .non, .no, .no, .no] := by
    have hb : (evc (.bin .Add (.bin .FloorDiv (.bi .len (.cons (.var 0) .nil)) (.int 2)) (.int 1))).val [.sh (.tup (w.map natD)), .sh .non, .no, .no, .no] = .ok (.sh (.int ((w.length : Int) / 2 + 1))) [.sh (.tup (w.map natD)), .sh .non, .no, .no, .no] := by
      generalize D.tup (w.map natD) = W at *
      simp only [Q.b_ok, Q.b_ex, Q.b_bd, Q.t_ok, Q.t_ex, Q.t_bd, Q.s_nx, Q.s_rt, Q.s_bk, Q.s_ct, Q.s_ex, Q.s_bd, Q.p_sm, Q.p_no, Q.r_sh, Q.r_l, Q.r_t, Q.r_d, Q.w_sh, Q.w_fr, Q.w_br, Q.d_sh, Q.d_fr, Q.d_br, Q.a_sh, Q.a_ow, Q.a_io, Q.a_lk, Q.m_ow, Q.m_io, Q.m_sh, Q.h_sh, Q.h_fr, Q.h_br, Q.c_sh, Q.c_fr, Q.c_br, Q.v_sh, Q.v_fr, Q.e_val, Q.e_tst, Q.e_io, Q.e_md, Q.kC', Q.kV', Q.kU', Q.kB', Q.kP0, Q.kP1, Q.kS', Q.kT', Q.kCh', Q.bl_s, Q.kVa, Q.kN', Q.kI', Q.kIT, Q.kAV, Q.kAT, Q.kSh, Q.kNl, Q.kCo, Q.kVw', Q.kSt, Q.kTu, Q.kLs, Q.kBi', Q.dr_n, Q.dr_c, Q.kMm', Q.kMt, Q.kMf, Q.kCa, Q.kCk, Q.cs, Q.av_n, Q.av_s, Q.av_i, Q.ai_n, Q.ai_s, Q.ai_i, Q.io_s, Q.io_i, Q.st_n, Q.st_c, Q.mu_l, Q.mu_d, Q.mu_o, Q.sa, Q.fa, Q.f_no, Q.f_sh, Q.f_ow, Q.bv, Q.ag_n, Q.ag_t, Q.an, Q.at_, Q.as_n, Q.as_c, Q.pv, Q.rt_s, Q.rt_f, Q.rt_b, Q.kIv, Q.kYs, Q.os_n, Q.os_t, Q.os_f, Q.is_t, Q.is_f, Q.is_n, Q.rs, Q.so, Q.l_int, Q.le_int, Q.g_int, Q.ge_int, Q.eq_d, Q.ne_d, Q.is_non, Q.bo', Q.tr_b, Q.tr_i, Q.tr_l, Q.ad_i, Q.sb_i, Q.ml_i, Q.fd_i, Q.md_i, Q.pw_i, Q.ad_l, Q.su_l, Q.su_t, Q.bi1', Q.i_i, Q.i_b, Q.ab_i, Q.le_l, Q.le_t, Q.li_l, Q.tu_l, Q.ng_i, Q.sx_l, Q.bm_s, exb, exs, evc, evl, evi, List.getElem?_cons_zero, List.getElem?_cons_succ, List.getElem?_nil, List.set_cons_zero, List.set_cons_succ, List.length_cons, List.length_nil, Option.bind_some, Option.bind_none, Option.map_some, Option.map_none, List.map_cons, List.map_nil, List.replicate_zero, List.replicate_succ, List.append_nil, List.cons_append, List.nil_append, Bool.not_true, Bool.not_false, Bool.false_eq_true, if_true, if_false, ite_true, ite_false, Option.isSome_some, Option.isSome_none, Bool.and_true, Bool.true_and, Bool.and_false, Bool.false_and, Bool.or_true, Bool.true_or, Bool.or_false, Bool.false_or, Nat.reduceAdd, Nat.reduceSub, Nat.sub_self, Nat.add_zero, Nat.zero_add, Nat.reduceLT, Nat.reduceLeDiff, reduceCtorEq, List.nodup_nil, List.nodup_cons, List.not_mem_nil, not_false_eq_true, and_self, and_true, true_and, decide_true, decide_false, List.tail_cons, List.headD_cons, CE.isNoe, CL.len, Bool.true_eq_false, Int.reduceLT, Int.reduceLE, Int.reduceToNat, reduceIte, hln, fd2, -Q.fd_i]
    exact rng2_of (i := 1) rfl hb (by omega) (by omega) (by omega) (by omega) (by omega)
  have eb : b_least_repeat = .cons (.asg (.nm 1) .non) (.cons (.for_ (.nm 2) (.rng2 (.int 1) (.bin .Add (.bin .FloorDiv (.bi .len (.cons (.var 0) .nil)) (.int 2)) (.int 1))) lrO) (.cons (.ret (.var 1)) .nil)) := rfl
  have e1 : exs (.asg (.nm 1) .non) [.sh (.tup (w.map natD)), .no, .no, .no, .no] = .nx [.sh (.tup (w.map natD)), .sh .non, .no, .no, .no] := rfl
  have go : exb b_least_repeat (slotsOf 5 [false] [.tup (w.map natD)]) = .rt false .non [.sh (.tup (w.map natD)), .sh .non, s2, s3, s4] := by
    have e0 : slotsOf 5 [false] [.tup (w.map natD)] = [.sh (.tup (w.map natD)), .no, .no, .no, .no] := rfl
    rw [e0, eb, exb_nx e1, exb_nx (exs_for hr e)]
    exact exb_rt rfl
  generalize D.tup (w.map natD) = T at go ⊢
  show runS 5 [false] (exb b_least_repeat) [T] = _
  exact runS_rt (n := 5) (ds := [T]) (ms := [false]) (o := []) (b := exb b_least_repeat) (by rfl) go (by rfl)
theorem within0 (n : Nat) : g_is_within.m [natD n, .int 0, .non] = .ok false (.bl true) [] := by
  have hi := integer_int (n : Int)
  have hmd : g_is_integer.md = [false] := rfl
  have e' : ((0 : Int) ≤ (n : Int)) = True := eq_true (by omega)
  show g_is_within.m [.int (n : Nat), .int 0, .non] = _
  generalize (n : Int) = N at *
  unfold g_is_within b_is_within
  simp only [Q.b_ok, Q.b_ex, Q.b_bd, Q.t_ok, Q.t_ex, Q.t_bd, Q.s_nx, Q.s_rt, Q.s_bk, Q.s_ct, Q.s_ex, Q.s_bd, Q.p_sm, Q.p_no, Q.r_sh, Q.r_l, Q.r_t, Q.r_d, Q.w_sh, Q.w_fr, Q.w_br, Q.d_sh, Q.d_fr, Q.d_br, Q.a_sh, Q.a_ow, Q.a_io, Q.a_lk, Q.m_ow, Q.m_io, Q.m_sh, Q.h_sh, Q.h_fr, Q.h_br, Q.c_sh, Q.c_fr, Q.c_br, Q.v_sh, Q.v_fr, Q.e_val, Q.e_tst, Q.e_io, Q.e_md, Q.kC', Q.kV', Q.kU', Q.kB', Q.kP0, Q.kP1, Q.kS', Q.kT', Q.kCh', Q.bl_s, Q.kVa, Q.kN', Q.kI', Q.kIT, Q.kAV, Q.kAT, Q.kSh, Q.kNl, Q.kCo, Q.kVw', Q.kSt, Q.kTu, Q.kLs, Q.kBi', Q.dr_n, Q.dr_c, Q.kMm', Q.kMt, Q.kMf, Q.kCa, Q.kCk, Q.cs, Q.av_n, Q.av_s, Q.av_i, Q.ai_n, Q.ai_s, Q.ai_i, Q.io_s, Q.io_i, Q.st_n, Q.st_c, Q.mu_l, Q.mu_d, Q.mu_o, Q.sa, Q.fa, Q.f_no, Q.f_sh, Q.f_ow, Q.bv, Q.ag_n, Q.ag_t, Q.an, Q.at_, Q.as_n, Q.as_c, Q.pv, Q.rt_s, Q.rt_f, Q.rt_b, Q.kIv, Q.kYs, Q.os_n, Q.os_t, Q.os_f, Q.is_t, Q.is_f, Q.is_n, Q.rs, Q.so, Q.l_int, Q.le_int, Q.g_int, Q.ge_int, Q.eq_d, Q.ne_d, Q.is_non, Q.bo', Q.tr_b, Q.tr_i, Q.tr_l, Q.ad_i, Q.sb_i, Q.ml_i, Q.fd_i, Q.md_i, Q.pw_i, Q.ad_l, Q.su_l, Q.su_t, Q.bi1', Q.i_i, Q.i_b, Q.ab_i, Q.le_l, Q.le_t, Q.li_l, Q.tu_l, Q.ng_i, Q.sx_l, Q.bm_s, exb, exs, evc, evl, evi, List.getElem?_cons_zero, List.getElem?_cons_succ, List.getElem?_nil, List.set_cons_zero, List.set_cons_succ, List.length_cons, List.length_nil, Option.bind_some, Option.bind_none, Option.map_some, Option.map_none, List.map_cons, List.map_nil, List.replicate_zero, List.replicate_succ, List.append_nil, List.cons_append, List.nil_append, Bool.not_true, Bool.not_false, Bool.false_eq_true, if_true, if_false, ite_true, ite_false, Option.isSome_some, Option.isSome_none, Bool.and_true, Bool.true_and, Bool.and_false, Bool.false_and, Bool.or_true, Bool.true_or, Bool.or_false, Bool.false_or, Nat.reduceAdd, Nat.reduceSub, Nat.sub_self, Nat.add_zero, Nat.zero_add, Nat.reduceLT, Nat.reduceLeDiff, reduceCtorEq, List.nodup_nil, List.nodup_cons, List.not_mem_nil, not_false_eq_true, and_self, and_true, true_and, decide_true, decide_false, List.tail_cons, List.headD_cons, CE.isNoe, CL.len, Bool.true_eq_false, Int.reduceLT, Int.reduceLE, Int.reduceToNat, reduceIte, hi, hmd, e', nonN, nonI]
theorem is_word_ok {w : List Nat} (hl : w.length ≤ 4000) : g_is_word.m [.tup (w.map natD)] = .ok false (.bl true) [] := by
  have hc : (evc (.comp (.call "is_within" g_is_within (.cons (.var 1) (.cons (.int 0) (.cons .non .nil)))) (.nm 1) (.val (.var 0)) .nil [1])).val [.sh (.tup (w.map natD)), .no] = .ok (.fr (.lst ((w.map natD).map fun _ => .bl true))) [.sh (.tup (w.map natD)), .no] := by
    refine kComp_map (S1 := [.sh (.tup (w.map natD)), .no]) (u := none) (f := fun _ => .bl true) rfl (fun x hx => ?_) (by rw [List.length_map]; exact hl)
    obtain ⟨i, hi, rfl⟩ := List.mem_map.mp hx
    have hw := within0 i
    have hmd : g_is_within.md = [false, false, false] := rfl
    generalize natD i = I at *
    generalize g_is_within = GW at *
    unfold turnC
    simp only [Q.b_ok, Q.b_ex, Q.b_bd, Q.t_ok, Q.t_ex, Q.t_bd, Q.s_nx, Q.s_rt, Q.s_bk, Q.s_ct, Q.s_ex, Q.s_bd, Q.p_sm, Q.p_no, Q.r_sh, Q.r_l, Q.r_t, Q.r_d, Q.w_sh, Q.w_fr, Q.w_br, Q.d_sh, Q.d_fr, Q.d_br, Q.a_sh, Q.a_ow, Q.a_io, Q.a_lk, Q.m_ow, Q.m_io, Q.m_sh, Q.h_sh, Q.h_fr, Q.h_br, Q.c_sh, Q.c_fr, Q.c_br, Q.v_sh, Q.v_fr, Q.e_val, Q.e_tst, Q.e_io, Q.e_md, Q.kC', Q.kV', Q.kU', Q.kB', Q.kP0, Q.kP1, Q.kS', Q.kT', Q.kCh', Q.bl_s, Q.kVa, Q.kN', Q.kI', Q.kIT, Q.kAV, Q.kAT, Q.kSh, Q.kNl, Q.kCo, Q.kVw', Q.kSt, Q.kTu, Q.kLs, Q.kBi', Q.dr_n, Q.dr_c, Q.kMm', Q.kMt, Q.kMf, Q.kCa, Q.kCk, Q.cs, Q.av_n, Q.av_s, Q.av_i, Q.ai_n, Q.ai_s, Q.ai_i, Q.io_s, Q.io_i, Q.st_n, Q.st_c, Q.mu_l, Q.mu_d, Q.mu_o, Q.sa, Q.fa, Q.f_no, Q.f_sh, Q.f_ow, Q.bv, Q.ag_n, Q.ag_t, Q.an, Q.at_, Q.as_n, Q.as_c, Q.pv, Q.rt_s, Q.rt_f, Q.rt_b, Q.kIv, Q.kYs, Q.os_n, Q.os_t, Q.os_f, Q.is_t, Q.is_f, Q.is_n, Q.rs, Q.so, Q.l_int, Q.le_int, Q.g_int, Q.ge_int, Q.eq_d, Q.ne_d, Q.is_non, Q.bo', Q.tr_b, Q.tr_i, Q.tr_l, Q.ad_i, Q.sb_i, Q.ml_i, Q.fd_i, Q.md_i, Q.pw_i, Q.ad_l, Q.su_l, Q.su_t, Q.bi1', Q.i_i, Q.i_b, Q.ab_i, Q.le_l, Q.le_t, Q.li_l, Q.tu_l, Q.ng_i, Q.sx_l, Q.bm_s, exb, exs, evc, evl, evi, List.getElem?_cons_zero, List.getElem?_cons_succ, List.getElem?_nil, List.set_cons_zero, List.set_cons_succ, List.length_cons, List.length_nil, Option.bind_some, Option.bind_none, Option.map_some, Option.map_none, List.map_cons, List.map_nil, List.replicate_zero, List.replicate_succ, List.append_nil, List.cons_append, List.nil_append, Bool.not_true, Bool.not_false, Bool.false_eq_true, if_true, if_false, ite_true, ite_false, Option.isSome_some, Option.isSome_none, Bool.and_true, Bool.true_and, Bool.and_false, Bool.false_and, Bool.or_true, Bool.true_or, Bool.or_false, Bool.false_or, Nat.reduceAdd, Nat.reduceSub, Nat.sub_self, Nat.add_zero, Nat.zero_add, Nat.reduceLT, Nat.reduceLeDiff, reduceCtorEq, List.nodup_nil, List.nodup_cons, List.not_mem_nil, not_false_eq_true, and_self, and_true, true_and, decide_true, decide_false, List.tail_cons, List.headD_cons, CE.isNoe, CL.len, Bool.true_eq_false, Int.reduceLT, Int.reduceLE, Int.reduceToNat, reduceIte, wipeS, backS, Option.getD_some, hw, hmd]
  have ha : bi1 .all (.lst ((w.map natD).map fun _ => .bl true)) = some (bo true) := by
    show (allB _).map _ = _
    rw [allB_true]
    have : ((w.map natD).map fun _ => true).all id = true := by
      rw [List.all_eq_true]
      intro b hb
      obtain ⟨_, _, rfl⟩ := List.mem_map.mp hb
      rfl
    show some (bo (((w.map natD).map fun _ => true).all id)) = _
    rw [this]
  have hs : isTs [.list, .tuple] (.tup (w.map natD)) = some (bo true) := rfl
  have go : exb b_is_word (slotsOf 2 [false] [.tup (w.map natD)]) = .rt false (.bl true) [.sh (.tup (w.map natD)), .no] := by
    have e0 : slotsOf 2 [false] [.tup (w.map natD)] = [.sh (.tup (w.map natD)), .no] := rfl
    rw [e0]
    unfold b_is_word
    refine exb_rt ?_
    generalize hC : CE.comp (.call "is_within" g_is_within (.cons (.var 1) (.cons (.int 0) (.cons .non .nil)))) (.nm 1) (.val (.var 0)) .nil [1] = C at *
    generalize D.tup (w.map natD) = V at *
    simp only [Q.b_ok, Q.b_ex, Q.b_bd, Q.t_ok, Q.t_ex, Q.t_bd, Q.s_nx, Q.s_rt, Q.s_bk, Q.s_ct, Q.s_ex, Q.s_bd, Q.p_sm, Q.p_no, Q.r_sh, Q.r_l, Q.r_t, Q.r_d, Q.w_sh, Q.w_fr, Q.w_br, Q.d_sh, Q.d_fr, Q.d_br, Q.a_sh, Q.a_ow, Q.a_io, Q.a_lk, Q.m_ow, Q.m_io, Q.m_sh, Q.h_sh, Q.h_fr, Q.h_br, Q.c_sh, Q.c_fr, Q.c_br, Q.v_sh, Q.v_fr, Q.e_val, Q.e_tst, Q.e_io, Q.e_md, Q.kC', Q.kV', Q.kU', Q.kB', Q.kP0, Q.kP1, Q.kS', Q.kT', Q.kCh', Q.bl_s, Q.kVa, Q.kN', Q.kI', Q.kIT, Q.kAV, Q.kAT, Q.kSh, Q.kNl, Q.kCo, Q.kVw', Q.kSt, Q.kTu, Q.kLs, Q.kBi', Q.dr_n, Q.dr_c, Q.kMm', Q.kMt, Q.kMf, Q.kCa, Q.kCk, Q.cs, Q.av_n, Q.av_s, Q.av_i, Q.ai_n, Q.ai_s, Q.ai_i, Q.io_s, Q.io_i, Q.st_n, Q.st_c, Q.mu_l, Q.mu_d, Q.mu_o, Q.sa, Q.fa, Q.f_no, Q.f_sh, Q.f_ow, Q.bv, Q.ag_n, Q.ag_t, Q.an, Q.at_, Q.as_n, Q.as_c, Q.pv, Q.rt_s, Q.rt_f, Q.rt_b, Q.kIv, Q.kYs, Q.os_n, Q.os_t, Q.os_f, Q.is_t, Q.is_f, Q.is_n, Q.rs, Q.so, Q.l_int, Q.le_int, Q.g_int, Q.ge_int, Q.eq_d, Q.ne_d, Q.is_non, Q.bo', Q.tr_b, Q.tr_i, Q.tr_l, Q.ad_i, Q.sb_i, Q.ml_i, Q.fd_i, Q.md_i, Q.pw_i, Q.ad_l, Q.su_l, Q.su_t, Q.bi1', Q.i_i, Q.i_b, Q.ab_i, Q.le_l, Q.le_t, Q.li_l, Q.tu_l, Q.ng_i, Q.sx_l, Q.bm_s, exb, exs, evc, evl, evi, List.getElem?_cons_zero, List.getElem?_cons_succ, List.getElem?_nil, List.set_cons_zero, List.set_cons_succ, List.length_cons, List.length_nil, Option.bind_some, Option.bind_none, Option.map_some, Option.map_none, List.map_cons, List.map_nil, List.replicate_zero, List.replicate_succ, List.append_nil, List.cons_append, List.nil_append, Bool.not_true, Bool.not_false, Bool.false_eq_true, if_true, if_false, ite_true, ite_false, Option.isSome_some, Option.isSome_none, Bool.and_true, Bool.true_and, Bool.and_false, Bool.false_and, Bool.or_true, Bool.true_or, Bool.or_false, Bool.false_or, Nat.reduceAdd, Nat.reduceSub, Nat.sub_self, Nat.add_zero, Nat.zero_add, Nat.reduceLT, Nat.reduceLeDiff, reduceCtorEq, List.nodup_nil, List.nodup_cons, List.not_mem_nil, not_false_eq_true, and_self, and_true, true_and, decide_true, decide_false, List.tail_cons, List.headD_cons, CE.isNoe, CL.len, Bool.true_eq_false, Int.reduceLT, Int.reduceLE, Int.reduceToNat, reduceIte, hs, hc, ha]
  generalize D.tup (w.map natD) = V at *
  show runS 2 [false] (exb b_is_word) [V] = _
  exact runS_rt (n := 2) (ds := [V]) (ms := [false]) (o := []) (b := exb b_is_word) (by rfl) go (by rfl)
theorem need_word_ok {w : List Nat} (hl : w.length ≤ 4000) : (g_need_word.dflt [.str "word"]).m [.tup (w.map natD)] = .ok false (.tup (w.map natD)) [] := by
  have hw := is_word_ok hl
  have hmd : g_is_word.md = [false] := rfl
  obtain ⟨ro, h1, h2⟩ := tup_sq true (w.map natD)
  have h1 : bi1 .tuple (.tup (w.map natD)) = some ro := h1
  have go : exb b_need_word (slotsOf 2 [false, false] [.tup (w.map natD), .str "word"]) = .rt false (.tup (w.map natD)) [.sh (.tup (w.map natD)), .sh (.str "word")] := by
    have e0 : slotsOf 2 [false, false] [.tup (w.map natD), .str "word"] = [.sh (.tup (w.map natD)), .sh (.str "word")] := rfl
    rw [e0]
    unfold b_need_word
    generalize D.tup (w.map natD) = V at *
    generalize g_is_word = GW at *
    simp only [Q.b_ok, Q.b_ex, Q.b_bd, Q.t_ok, Q.t_ex, Q.t_bd, Q.s_nx, Q.s_rt, Q.s_bk, Q.s_ct, Q.s_ex, Q.s_bd, Q.p_sm, Q.p_no, Q.r_sh, Q.r_l, Q.r_t, Q.r_d, Q.w_sh, Q.w_fr, Q.w_br, Q.d_sh, Q.d_fr, Q.d_br, Q.a_sh, Q.a_ow, Q.a_io, Q.a_lk, Q.m_ow, Q.m_io, Q.m_sh, Q.h_sh, Q.h_fr, Q.h_br, Q.c_sh, Q.c_fr, Q.c_br, Q.v_sh, Q.v_fr, Q.e_val, Q.e_tst, Q.e_io, Q.e_md, Q.kC', Q.kV', Q.kU', Q.kB', Q.kP0, Q.kP1, Q.kS', Q.kT', Q.kCh', Q.bl_s, Q.kVa, Q.kN', Q.kI', Q.kIT, Q.kAV, Q.kAT, Q.kSh, Q.kNl, Q.kCo, Q.kVw', Q.kSt, Q.kTu, Q.kLs, Q.kBi', Q.dr_n, Q.dr_c, Q.kMm', Q.kMt, Q.kMf, Q.kCa, Q.kCk, Q.cs, Q.av_n, Q.av_s, Q.av_i, Q.ai_n, Q.ai_s, Q.ai_i, Q.io_s, Q.io_i, Q.st_n, Q.st_c, Q.mu_l, Q.mu_d, Q.mu_o, Q.sa, Q.fa, Q.f_no, Q.f_sh, Q.f_ow, Q.bv, Q.ag_n, Q.ag_t, Q.an, Q.at_, Q.as_n, Q.as_c, Q.pv, Q.rt_s, Q.rt_f, Q.rt_b, Q.kIv, Q.kYs, Q.os_n, Q.os_t, Q.os_f, Q.is_t, Q.is_f, Q.is_n, Q.rs, Q.so, Q.l_int, Q.le_int, Q.g_int, Q.ge_int, Q.eq_d, Q.ne_d, Q.is_non, Q.bo', Q.tr_b, Q.tr_i, Q.tr_l, Q.ad_i, Q.sb_i, Q.ml_i, Q.fd_i, Q.md_i, Q.pw_i, Q.ad_l, Q.su_l, Q.su_t, Q.bi1', Q.i_i, Q.i_b, Q.ab_i, Q.le_l, Q.le_t, Q.li_l, Q.tu_l, Q.ng_i, Q.sx_l, Q.bm_s, exb, exs, evc, evl, evi, List.getElem?_cons_zero, List.getElem?_cons_succ, List.getElem?_nil, List.set_cons_zero, List.set_cons_succ, List.length_cons, List.length_nil, Option.bind_some, Option.bind_none, Option.map_some, Option.map_none, List.map_cons, List.map_nil, List.replicate_zero, List.replicate_succ, List.append_nil, List.cons_append, List.nil_append, Bool.not_true, Bool.not_false, Bool.false_eq_true, if_true, if_false, ite_true, ite_false, Option.isSome_some, Option.isSome_none, Bool.and_true, Bool.true_and, Bool.and_false, Bool.false_and, Bool.or_true, Bool.true_or, Bool.or_false, Bool.false_or, Nat.reduceAdd, Nat.reduceSub, Nat.sub_self, Nat.add_zero, Nat.zero_add, Nat.reduceLT, Nat.reduceLeDiff, reduceCtorEq, List.nodup_nil, List.nodup_cons, List.not_mem_nil, not_false_eq_true, and_self, and_true, true_and, decide_true, decide_false, List.tail_cons, List.headD_cons, CE.isNoe, CL.len, Bool.true_eq_false, Int.reduceLT, Int.reduceLE, Int.reduceToNat, reduceIte, hw, hmd, h1, h2]
  generalize D.tup (w.map natD) = V at *
  have z : runS 2 [false, false] (exb b_need_word) [V, .str "word"] = .ok false V [] := by
    unfold runS
    rw [if_pos (by rfl), go]
    rfl
  show (if [V].length + [D.str "word"].length = g_need_word.md.length then g_need_word.m ([V] ++ [.str "word"]) else .bad) = _
  rw [if_pos (by rfl)]
  exact z
theorem first_none {w : List Nat} (fw : Fr w) (hl : w.length ≤ 4000) : g_first_repeat.m [.tup (w.map natD)] = .ok false .non [] := by
  have hn := need_word_ok hl
  have hx := least_none fw hl
  have m1 : (g_need_word.dflt [.str "word"]).md = [false] := rfl
  have m2 : g_least_repeat.md = [false] := rfl
  have go : exb b_first_repeat (slotsOf 1 [false] [.tup (w.map natD)]) = .rt false .non [.sh (.tup (w.map natD))] := by
    have e0 : slotsOf 1 [false] [.tup (w.map natD)] = [.sh (.tup (w.map natD))] := rfl
    rw [e0]
    have e1 : (evc (.call "need_word" (g_need_word.dflt [.str "word"]) (.cons (.var 0) .nil))).val [.sh (.tup (w.map natD))] = .ok (.sh (.tup (w.map natD))) [.sh (.tup (w.map natD))] := call1 (fr := false) m1 rfl hn
    have e2 : (evc (.call "least_repeat" g_least_repeat (.cons (.call "need_word" (g_need_word.dflt [.str "word"]) (.cons (.var 0) .nil)) .nil))).val [.sh (.tup (w.map natD))] = .ok (.sh .non) [.sh (.tup (w.map natD))] := call1 (fr := false) m2 (shr_of e1) hx
    unfold b_first_repeat
    refine exb_rt ?_
    rw [exs, e2]
    rfl
  generalize D.tup (w.map natD) = V at *
  show runS 1 [false] (exb b_first_repeat) [V] = _
  exact runS_rt (n := 1) (ds := [V]) (ms := [false]) (o := []) (b := exb b_first_repeat) (by rfl) go (by rfl)
end LK47

namespace LK47
open PySem PySem.Spec Eng
/-! ### texts of words -/
theorem PD_tup {n : Nat} {ds : List D} (h : ∀ d ∈ ds, PD n d) : PD (n + 1) (.tup ds) := by
  obtain ⟨ps, h1, h2, h3⟩ := PDs h
  exact ⟨.tuple ps, by show (toPs ds).map _ = _; rw [h1]; rfl, by simp [PyData.canLay0, h2], by simp [PyData.depth]; omega⟩
def okS (x : Str) : Bool := PyData.strOk x && decide (x.length ≤ 5)
theorem ints_ok : ∀ i, i < 3 → okS (PyData.shown (.int (i : Nat))) = true := by decide +kernel
theorem toPs_nat : ∀ w : List Nat, toPs (w.map natD) = some (w.map fun (n : Nat) => PyData.int (n : Int))
  | [] => rfl
  | n :: ns => by
    show (toP (natD n)).bind _ = _
    show (toPs (ns.map natD)).map _ = _
    rw [toPs_nat ns]; rfl
theorem shownAll_eq : ∀ w : List Nat, PyData.shownAll (w.map fun (n : Nat) => PyData.int (n : Int)) = w.map fun (n : Nat) => PyData.shown (.int (n : Int))
  | [] => rfl
  | n :: ns => by
    show _ :: PyData.shownAll _ = _
    rw [shownAll_eq ns]; rfl
theorem showableAll_eq : ∀ w : List Nat, (∀ x ∈ w, x < 3) → PyData.showableAll (w.map fun (n : Nat) => PyData.int (n : Int)) = true
  | [], _ => rfl
  | n :: ns, h => by
    show (PyData.showable (.int (n : Int)) && PyData.showableAll _) = _
    rw [showableAll_eq ns fun x hx => h x (.tail _ hx), Bool.and_true]
    have := h n (.head _)
    match n, this with
    | 0, _ => decide
    | 1, _ => decide
    | 2, _ => decide
theorem depthAll_eq : ∀ w : List Nat, PyData.depthAll (w.map fun (n : Nat) => PyData.int (n : Int)) = 0
  | [] => rfl
  | n :: ns => by
    rw [List.map_cons]
    simp only [PyData.depthAll, PyData.depth, depthAll_eq ns]
    rfl
theorem textFrom_ok : ∀ (ts : List Str) (k : Nat) (acc : Str), PyData.strOk acc = true → (∀ t ∈ ts, PyData.strOk t = true) → PyData.strOk (textFrom k acc ts) = true
  | [], _, acc, h, _ => h
  | t :: ts, k, acc, h, ht => by
    show PyData.strOk (textFrom (k + 1) (acc ++ (if k > 0 then ", " else "" : String) ++ t) ts) = true
    refine textFrom_ok ts (k + 1) _ (strOk_app (strOk_app h ?_) (ht t (.head _))) fun u hu => ht u (.tail _ hu)
    split <;> decide +kernel
theorem sum_le : ∀ (ts : List Str), (∀ t ∈ ts, t.length ≤ 5) → (ts.map (·.length)).sum ≤ 5 * ts.length
  | [], _ => by simp
  | t :: ts, h => by
    have := sum_le ts fun u hu => h u (.tail _ hu)
    have := h t (.head _)
    simp only [List.map_cons, List.sum_cons, List.length_cons]
    omega
theorem rep_list {w : List Nat} (hw : ∀ x ∈ w, x < 3) (hl : w.length ≤ 500) : ∃ p, bi1 .repr (.lst (w.map natD)) = some (.sh (.str p)) ∧ eqD (.str p) (.str p) = some true := by
  have tp : toP (.lst (w.map natD)) = some (.list (w.map fun (n : Nat) => PyData.int (n : Int))) := by
    show (toPs _).map _ = _
    rw [toPs_nat]; rfl
  have sh : PyData.shown (.list (w.map fun (n : Nat) => PyData.int (n : Int))) = listText (w.map fun (n : Nat) => PyData.shown (.int (n : Int))) := by
    show listText (PyData.shownAll _) = _
    rw [shownAll_eq]
  have ok : ∀ t ∈ (w.map fun (n : Nat) => PyData.shown (.int (n : Int))), PyData.strOk t = true ∧ t.length ≤ 5 := fun t ht => by
    obtain ⟨n, hn, rfl⟩ := List.mem_map.mp ht
    have := ints_ok n (hw n hn)
    unfold okS at this
    simpa only [Bool.and_eq_true, decide_eq_true_eq] using this
  have so : PyData.strOk (PyData.shown (.list (w.map fun (n : Nat) => PyData.int (n : Int)))) = true := by
    rw [sh]
    exact strOk_app (textFrom_ok _ _ _ (by decide +kernel) fun t ht => (ok t ht).1) (by decide +kernel)
  have le : (PyData.shown (.list (w.map fun (n : Nat) => PyData.int (n : Int)))).length ≤ 3600 := by
    rw [sh]
    have h1 := listText_len_le (w.map fun (n : Nat) => PyData.shown (.int (n : Int)))
    have h2 := sum_le _ fun t ht => (ok t ht).2
    rw [List.length_map] at h1 h2
    omega
  refine ⟨_, ?_, eq_str so⟩
  show reprD _ = _
  unfold reprD
  rw [tp]
  show (if PyData.showableAll (w.map fun (n : Nat) => PyData.int (n : Int)) && decide ((PyData.shown (.list (w.map fun (n : Nat) => PyData.int (n : Int)))).length ≤ sizeLine) && decide ((PyData.list (w.map fun (n : Nat) => PyData.int (n : Int))).depth ≤ 60) then some (RO.sh (.str (PyData.shown (.list (w.map fun (n : Nat) => PyData.int (n : Int)))))) else none) = _
  rw [if_pos]
  rw [showableAll_eq w hw, decide_eq_true (Nat.le_of_lt (sizeLine_big (by omega)))]
  simp only [PyData.depth, depthAll_eq]
  rfl
theorem eqv_nats : ∀ xs : List Nat, PyData.eqvAll (xs.map fun (n : Nat) => PyData.int (n : Int)) (xs.map fun (n : Nat) => PyData.int (n : Int)) = true
  | [] => rfl
  | x :: xs => by
    simp only [List.map_cons, PyData.eqvAll, PyData.eqv, eqv_nats xs, Bool.and_true]
    simp
theorem nats_PD (w : List Nat) : ∀ d ∈ w.map natD, PD 40 d := by
  have e : w.map natD = (w.map fun (n : Nat) => (n : Int)).map D.int := by rw [List.map_map]; rfl
  rw [e]
  exact ints_PD _
theorem eq_lst (w : List Nat) : eqD (.lst (w.map natD)) (.lst (w.map natD)) = some true := by
  have e : w.map natD = (w.map fun (n : Nat) => (n : Int)).map D.int := by rw [List.map_map]; rfl
  rw [e, eqD_ints]
  simp
theorem eq_tup (w : List Nat) : eqD (.tup (w.map natD)) (.tup (w.map natD)) = some true := by
  obtain ⟨p, q, h1, h2, h3⟩ := eqD_of (n := 41) (by decide) (PD_tup (nats_PD w)) (PD_tup (nats_PD w))
  rw [h3]
  have e1 : toP (.tup (w.map natD)) = some (.tuple (w.map fun (n : Nat) => PyData.int (n : Int))) := by show (toPs _).map _ = _; rw [toPs_nat]; rfl
  rw [e1] at h1 h2
  cases h1; cases h2
  rw [PyData.eqv, eqv_nats]
end LK47

namespace LK47
open PySem PySem.Spec Eng
/-! ### what is no number of signs -/
def odds : List D := [.int (-1), .int 2001, .bl true, .non, .str "7", .tup [.int 1], .int (10 ^ 30)]
def exMany : D := .exo 1 ["part"] [.str "many"]
theorem odd_need : ∀ v ∈ odds, g_need_number.m [v, .str "many", .int 0, .int 2000] = .exc exMany [] := by
  intro v hv
  simp only [odds, List.mem_cons, List.not_mem_nil, or_false] at hv
  rcases hv with rfl | rfl | rfl | rfl | rfl | rfl | rfl <;> rfl
theorem odd_word {v : D} (hv : v ∈ odds) : g_plain_word.m [v] = .exc exMany [] := by
  have hn := odd_need v hv
  have hmd : g_need_number.md = [false, false, false, false] := rfl
  have go : exb b_plain_word (slotsOf 1 [false] [v]) = .exc exMany [.sh v] := by
    have e0 : slotsOf 1 [false] [v] = [.sh v] := rfl
    rw [e0]
    have e1 : (evc (.call "need_number" g_need_number (.cons (.var 0) (.cons (.str "many") (.cons (.int 0) (.cons (.glob "MOST_SIGNS" (.int 2000)) .nil)))))).val [.sh v] = .exc exMany [.sh v] := by
      generalize g_need_number = GN at *
      generalize exMany = XM at *
      simp only [Q.b_ok, Q.b_ex, Q.b_bd, Q.t_ok, Q.t_ex, Q.t_bd, Q.s_nx, Q.s_rt, Q.s_bk, Q.s_ct, Q.s_ex, Q.s_bd, Q.p_sm, Q.p_no, Q.r_sh, Q.r_l, Q.r_t, Q.r_d, Q.w_sh, Q.w_fr, Q.w_br, Q.d_sh, Q.d_fr, Q.d_br, Q.a_sh, Q.a_ow, Q.a_io, Q.a_lk, Q.m_ow, Q.m_io, Q.m_sh, Q.h_sh, Q.h_fr, Q.h_br, Q.c_sh, Q.c_fr, Q.c_br, Q.v_sh, Q.v_fr, Q.e_val, Q.e_tst, Q.e_io, Q.e_md, Q.kC', Q.kV', Q.kU', Q.kB', Q.kP0, Q.kP1, Q.kS', Q.kT', Q.kCh', Q.bl_s, Q.kVa, Q.kN', Q.kI', Q.kIT, Q.kAV, Q.kAT, Q.kSh, Q.kNl, Q.kCo, Q.kVw', Q.kSt, Q.kTu, Q.kLs, Q.kBi', Q.dr_n, Q.dr_c, Q.kMm', Q.kMt, Q.kMf, Q.kCa, Q.kCk, Q.cs, Q.av_n, Q.av_s, Q.av_i, Q.ai_n, Q.ai_s, Q.ai_i, Q.io_s, Q.io_i, Q.st_n, Q.st_c, Q.mu_l, Q.mu_d, Q.mu_o, Q.sa, Q.fa, Q.f_no, Q.f_sh, Q.f_ow, Q.bv, Q.ag_n, Q.ag_t, Q.an, Q.at_, Q.as_n, Q.as_c, Q.pv, Q.rt_s, Q.rt_f, Q.rt_b, Q.kIv, Q.kYs, Q.os_n, Q.os_t, Q.os_f, Q.is_t, Q.is_f, Q.is_n, Q.rs, Q.so, Q.l_int, Q.le_int, Q.g_int, Q.ge_int, Q.eq_d, Q.ne_d, Q.is_non, Q.bo', Q.tr_b, Q.tr_i, Q.tr_l, Q.ad_i, Q.sb_i, Q.ml_i, Q.fd_i, Q.md_i, Q.pw_i, Q.ad_l, Q.su_l, Q.su_t, Q.bi1', Q.i_i, Q.i_b, Q.ab_i, Q.le_l, Q.le_t, Q.li_l, Q.tu_l, Q.ng_i, Q.sx_l, Q.bm_s, exb, exs, evc, evl, evi, List.getElem?_cons_zero, List.getElem?_cons_succ, List.getElem?_nil, List.set_cons_zero, List.set_cons_succ, List.length_cons, List.length_nil, Option.bind_some, Option.bind_none, Option.map_some, Option.map_none, List.map_cons, List.map_nil, List.replicate_zero, List.replicate_succ, List.append_nil, List.cons_append, List.nil_append, Bool.not_true, Bool.not_false, Bool.false_eq_true, if_true, if_false, ite_true, ite_false, Option.isSome_some, Option.isSome_none, Bool.and_true, Bool.true_and, Bool.and_false, Bool.false_and, Bool.or_true, Bool.true_or, Bool.or_false, Bool.false_or, Nat.reduceAdd, Nat.reduceSub, Nat.sub_self, Nat.add_zero, Nat.zero_add, Nat.reduceLT, Nat.reduceLeDiff, reduceCtorEq, List.nodup_nil, List.nodup_cons, List.not_mem_nil, not_false_eq_true, and_self, and_true, true_and, decide_true, decide_false, List.tail_cons, List.headD_cons, CE.isNoe, CL.len, Bool.true_eq_false, Int.reduceLT, Int.reduceLE, Int.reduceToNat, reduceIte, hn, hmd]
    unfold b_plain_word
    rw [exb, exs, e1]
    rfl
  show runS 1 [false] (exb b_plain_word) [v] = _
  unfold runS
  rw [if_pos (by rfl), go]
  rfl
theorem odd_heard {S : SS} {v : D} (hv : v ∈ odds) (h5 : S[5]? = some (.sh v)) : (evc (.heard "_law_heard" hs__law_heard (.call "plain_word" g_plain_word (.cons (.var 5) .nil)))).val S = .ok (.sh (.str "many")) S := by
  have hf := odd_word hv
  have hmd : g_plain_word.md = [false] := rfl
  have hc : (evc (.call "plain_word" g_plain_word (.cons (.var 5) .nil))).val S = .exc exMany S := by
    refine call1_exc hmd ?_ hf
    show ((kVar 5 S).bind shr) = _
    unfold kVar
    rw [h5]; rfl
  show kHeard hs__law_heard (evc (.call "plain_word" g_plain_word (.cons (.var 5) .nil))).val S = _
  unfold kHeard
  rw [hc]
  rfl
/-! ### more rules -/
theorem ne_d {a b : CE} {S S1 S2 : SS} {r t : RV} {d e : D} (ha : (evc a).val S = .ok r S1) (hb : (evc b).val S1 = .ok t S2) (hd : deref S2 r.vw = some d) (he : deref S2 t.vw = some e) (h : eqD d e = some true) : (evc (.cmp .NotEq a b)).tst S = .ok false S2 := by
  show kTest (kBin (cmpD .NotEq) (evc a).val (evc b).val) S = _
  unfold kTest kBin
  rw [ha]
  show ((((evc b).val S1).bind _).bind _) = _
  rw [hb]
  show ((prim ((deref S2 r.vw).bind fun d => (deref S2 t.vw).bind fun e => (eqD d e).map fun b => bo (!b)) S2).bind _) = _
  rw [hd, he]
  show ((prim ((eqD d e).map fun b => bo (!b)) S2).bind _) = _
  rw [h]; rfl
theorem isnot_non {a : CE} {S S1 : SS} (ha : (evc a).val S = .ok (.sh .non) S1) : (evc (.cmp .IsNot a .non)).tst S = .ok false S1 := by
  show kTest (kBin (cmpD .IsNot) (evc a).val (kC .non)) S = _
  unfold kTest kBin
  rw [ha]; rfl
theorem or_c {a b : CE} {l : CL} {S S1 S2 : SS} (ha : (evc a).tst S = .ok false S1) (hb : (evl (.cons b l)).tn false S1 = .ok false S2) : (evl (.cons a (.cons b l))).tn false S = .ok false S2 := by
  show kAndT false (evc a).tst ((evl (.cons b l)).tn false) S = _
  unfold kAndT
  rw [ha]
  exact hb
theorem eq_i {a : CE} {S S1 : SS} {i k : Int} (ha : (evc a).val S = .ok (.sh (.int i)) S1) : (evc (.cmp .Eq a (.int k))).val S = .ok (.sh (.bl (i == k))) S1 := by
  show kBin (cmpD .Eq) (evc a).val (kC (.int k)) S = _
  unfold kBin
  rw [ha]; rfl
theorem or_of {l : CL} {S S2 : SS} {b : Bool} (h : (evl l).tn false S = .ok b S2) : (evc (.or_ l)).tst S = .ok b S2 := h
theorem or_1 {a : CE} {S S1 : SS} {k : Bool} (ha : (evc a).tst S = .ok k S1) : (evl (.cons a .nil)).tn false S = .ok k S1 := ha
theorem and_f {a b : CE} {S S1 : SS} (ha : (evc a).tst S = .ok false S1) : (evc (.and_ (.cons a (.cons b .nil)))).tst S = .ok false S1 := by
  show kAndT true (evc a).tst (evc b).tst S = _
  unfold kAndT
  rw [ha]; rfl
theorem and_t {a b : CE} {S S1 S2 : SS} {k : Bool} (ha : (evc a).tst S = .ok true S1) (hb : (evc b).tst S1 = .ok k S2) : (evc (.and_ (.cons a (.cons b .nil)))).tst S = .ok k S2 := by
  show kAndT true (evc a).tst (evc b).tst S = _
  unfold kAndT
  rw [ha]
  exact hb
theorem not_t {a : CE} {S S1 : SS} {k : Bool} (ha : (evc a).tst S = .ok k S1) : (evc (.not a)).tst S = .ok (!k) S1 := by
  show kNot (evc a).tst S = _
  unfold kNot
  rw [ha]; rfl
theorem bi_of {bb : BI} {e : CE} {S S1 : SS} {d : D} {ro : RO} {r : RV} (h : (evc e).val S = .ok r S1) (hd : deref S1 r.vw = some d) (hp : bi1 bb d = some ro) : (evc (.bi bb (.cons e .nil))).val S = .ok ro.rv S1 := by
  show ((kCons (kVw (evc e).val) kNil S).bind _) = _
  have e1 : kCons (kVw (evc e).val) kNil S = .ok [r.vw] S1 := by
    show ((((evc e).val S).bind fun r S1 => R.ok r.vw S1).bind _) = _
    rw [h]; rfl
  rw [e1]
  show prim ((derefs S1 [r.vw]).bind (biD bb)) S1 = _
  have e2 : derefs S1 [r.vw] = some [d] := by
    show (deref S1 r.vw).bind _ = _
    rw [hd]; rfl
  rw [e2]
  show prim (bi1 bb d) S1 = _
  rw [hp]; rfl
theorem eq_w {x : Str} {a : CE} {S S1 : SS} (hx : PyData.strOk x = true) (ha : (evc a).val S = .ok (.sh (.str x)) S1) : (evc (.cmp .Eq a (.str x))).val S = .ok (.sh (.bl true)) S1 := by
  show kBin (cmpD .Eq) (evc a).val (kC (.str x)) S = _
  unfold kBin
  rw [ha]
  show prim ((eqD (.str x) (.str x)).map bo) S1 = _
  rw [eq_str hx]; rfl
theorem slcT {a hi : CE} {S S1 S2 : SS} {r : RV} {ds : List D} {n : Nat} (ha : (evc a).val S = .ok r S1) (hhi : kPart hi.isNoe (evc hi).val S1 = .ok (some (n : Int)) S2) (hd : deref S2 r.vw = some (.tup ds)) :
    ∃ t, (evc (.slc a .noe hi)).val S = .ok t S2 ∧ deref S2 t.vw = some (.tup (ds.take n)) := by
  have key : (evc (.slc a .noe hi)).val S = prim (slcD none (some (n : Int)) (.tup ds)) S2 := by
    show ((evc a).val S).bind _ = _
    rw [ha]
    show (kPart hi.isNoe (evc hi).val S1).bind _ = _
    rw [hhi]
    show prim ((deref S2 r.vw).bind (slcD none (some (n : Int)))) S2 = _
    rw [hd]; rfl
  rw [key]
  unfold slcD
  dsimp only
  by_cases z : HT.sIx ds.length 0 none = 0 ∧ HT.sIx ds.length ds.length (some (n : Int)) = ds.length
  · rw [if_pos z]
    refine ⟨_, rfl, ?_⟩
    have := z.2
    rw [HT.sIx_nat] at this
    rw [List.take_of_length_le (by omega)]
    rfl
  · rw [if_neg z, cut_take]
    exact ⟨_, rfl, rfl⟩
end LK47

namespace LK47
open PySem PySem.Spec Eng
def sg (m : Nat) : List Nat := signs.take m
theorem signs_lt : (signs.all fun x => decide (x < 3)) = true := by decide +kernel
theorem sg_lt (m : Nat) : ∀ x ∈ sg m, x < 3 := fun x hx => of_decide_eq_true (List.all_eq_true.mp signs_lt x (List.mem_of_mem_take hx))
theorem sg_len {m : Nat} (h : m ≤ 2000) : (sg m).length = m := by unfold sg; rw [List.length_take, signs_len, Nat.min_eq_left h]
theorem sg_fr {m : Nat} (h : m ≤ 400) : Fr (sg m) := fun k k1 k2 => free_all h k1 (by rw [sg_len (by omega)] at k2; omega)
theorem sg_take {m k : Nat} (h : k ≤ m) : ((sg m).map natD).take k = (sg k).map natD := by
  rw [← List.map_take]; unfold sg; rw [List.take_take, Nat.min_eq_left h]
theorem led_sg {m : Nat} (h : m ≤ 400) : (led 12 m [2]).take m = sg m := led_signs m (by omega)
theorem gap_sg {m : Nat} (h : m ≤ 400) : gapsP m = sg m := gaps_signs (by omega)
theorem full_sg : (led 12 2000 [2]).take 2000 = sg 2000 := by
  rw [led_2000]; unfold sg; rw [List.take_of_length_le (by rw [signs_len]; exact Nat.le_refl _)]
theorem wmd : g_plain_word.md = [false] := rfl
/-- the first look at the word -/
theorem look1 {scr d : D} {s4 s5 : SV} {m : Nat} (hm : m ≤ 400) :
    (evc (.or_ (.cons (.not (.isi (.var 3) [.tuple])) (.cons (.cmp .NotEq (.bi .repr (.cons (.bi .list (.cons (.var 3) .nil)) .nil)) (.bi .repr (.cons (.call "_law_gaps" g__law_gaps (.cons (.var 2) .nil)) .nil))) (.cons (.cmp .NotEq (.bi .list (.cons (.var 3) .nil)) (.call "_law_led" g__law_led (.cons (.var 2) .nil))) (.cons (.not (.call "_law_is_free" g__law_is_free (.cons (.var 3) .nil))) .nil)))))).tst [.sh scr, .ow d, .sh (.int (m : Nat)), .sh (.tup ((sg m).map natD)), s4, s5] = .ok false [.sh scr, .ow d, .sh (.int (m : Nat)), .sh (.tup ((sg m).map natD)), s4, s5] := by
  have hg := gaps_eq (m := m) (by omega)
  rw [gap_sg hm] at hg
  have hl := led_eq (n := m) (by omega)
  rw [led_sg hm] at hl
  have hf := free_eq (sg_fr hm) (by rw [sg_len (by omega)]; omega)
  obtain ⟨p, hp, pp⟩ := rep_list (sg_lt m) (by rw [sg_len (by omega)]; omega)
  have el := eq_lst (sg m)
  generalize (sg m).map natD = T at *
  let S : SS := [.sh scr, .ow d, .sh (.int (m : Nat)), .sh (.tup T), s4, s5]
  have l3 : (evc (.bi .list (.cons (.var 3) .nil))).val S = .ok (.fr (.lst T)) S := rfl
  have m1 : g__law_gaps.md = [false] := rfl
  have m2 : g__law_led.md = [false] := rfl
  have m3 : g__law_is_free.md = [false] := rfl
  have t1 : (evc (.not (.isi (.var 3) [.tuple]))).tst S = .ok false S := rfl
  have c2 : (evc (.call "_law_gaps" g__law_gaps (.cons (.var 2) .nil))).val S = .ok (.fr (.lst T)) S := call1 (fr := true) m1 rfl hg
  have c3 : (evc (.call "_law_led" g__law_led (.cons (.var 2) .nil))).val S = .ok (.fr (.lst T)) S := call1 (fr := true) m2 rfl hl
  have c4 : (evc (.call "_law_is_free" g__law_is_free (.cons (.var 3) .nil))).val S = .ok (.sh (.bl true)) S := call1 (fr := false) m3 rfl hf
  have t2 := ne_str (repr_of l3 rfl hp) (repr_of c2 rfl hp) pp
  have t3 := ne_d l3 c3 rfl rfl el
  have t4 := not_t (tst_call c4)
  exact or_of (or_c t1 (or_c t2 (or_c t3 (or_1 t4))))
/-- the second look -/
theorem look2 {scr d : D} {s5 : SV} {m k : Nat} (hm : m ≤ 400) (hk : k ≤ m) :
    (evc (.or_ (.cons (.cmp .NotEq (.callk "plain_word" ["many"] g_plain_word .nil ["many"] (.cons (.var 4) .nil)) (.slc (.var 3) .noe (.var 4))) (.cons (.and_ (.cons (.cmp .LtE (.var 2) (.int 120)) (.cons (.cmp .IsNot (.call "first_repeat" g_first_repeat (.cons (.var 3) .nil)) .non) .nil))) .nil)))).tst [.sh scr, .ow d, .sh (.int (m : Nat)), .sh (.tup ((sg m).map natD)), .sh (.int (k : Nat)), s5] = .ok false [.sh scr, .ow d, .sh (.int (m : Nat)), .sh (.tup ((sg m).map natD)), .sh (.int (k : Nat)), s5] := by
  have hw : g_plain_word.m [.int (k : Nat)] = .ok false (.tup ((sg k).map natD)) [] := word_of (by omega)
  have hf := first_none (sg_fr hm) (by rw [sg_len (by omega)]; omega)
  have et := eq_tup (sg k)
  let S : SS := [.sh scr, .ow d, .sh (.int (m : Nat)), .sh (.tup ((sg m).map natD)), .sh (.int (k : Nat)), s5]
  obtain ⟨t, h1, h2⟩ := slcT (a := .var 3) (hi := .var 4) (S := S) (S1 := S) (S2 := S) (r := .sh (.tup ((sg m).map natD))) (ds := (sg m).map natD) (n := k) rfl (part_i rfl rfl) rfl
  rw [sg_take hk] at h2
  have c1 : (evc (.callk "plain_word" ["many"] g_plain_word .nil ["many"] (.cons (.var 4) .nil))).val S = .ok (.sh (.tup ((sg k).map natD))) S := callk1 (fr := false) (by rfl) wmd rfl hw
  have t1 := ne_d c1 h1 rfl h2 et
  have m2 : g_first_repeat.md = [false] := rfl
  have c2 : (evc (.call "first_repeat" g_first_repeat (.cons (.var 3) .nil))).val S = .ok (.sh .non) S := call1 (fr := false) m2 rfl hf
  have t2 : (evc (.cmp .LtE (.var 2) (.int 120))).tst S = .ok (decide ((m : Int) ≤ 120)) S := rfl
  have t3 : (evc (.and_ (.cons (.cmp .LtE (.var 2) (.int 120)) (.cons (.cmp .IsNot (.call "first_repeat" g_first_repeat (.cons (.var 3) .nil)) .non) .nil)))).tst S = .ok false S := by
    cases z : decide ((m : Int) ≤ 120)
    · rw [z] at t2; exact and_f t2
    · rw [z] at t2; exact and_t t2 (isnot_non c2)
  exact or_of (or_c t1 (or_1 t3))
theorem holds : ∀ ns : List Int, ns.length ≤ 63 → ∃ outs, g_law.m [.scr (ns.map D.int)] = .ok false (.bl true) outs := by
  intro ns hl
  obtain ⟨c, hc⟩ := makes.2 ns (by omega)
  refine ⟨[], ?_⟩
  have a1 : exs (.asg (.nm 1) (.call "_law_spool" g__law_spool (.cons (.var 0) .nil))) [.sh (.scr (ns.map D.int)), .no, .no, .no, .no, .no] = .nx [.sh (.scr (ns.map D.int)), .ow (Tub c 0 0), .no, .no, .no, .no] :=
    asg_l (i := 1) (call1 (fr := true) (S1 := [.sh (.scr (ns.map D.int)), .no, .no, .no, .no, .no]) (by rfl) rfl hc) rfl
  generalize D.scr (ns.map D.int) = scr at *
  have t0 : TubOk 0 (Tub c 0 0) := ⟨c, 0, 0, rfl, by omega, by omega, by omega⟩
  generalize Tub c 0 0 = d0 at *
  have pmd : g__law_pick.md = [true, false] := picks.1
  have dmd : g__law_wind.md = [true, false] := draws.1
  -- many
  obtain ⟨i1, x1, d1, g1, p1, t1⟩ := picks.2 0 d0 [.int 401, .int 4, .int 30, .int 120] t0 (by omega) (by simp) (by simp)
  have hx1 : ∃ b : Int, x1 = .int b ∧ 0 < b ∧ b ≤ 401 := by
    have := List.mem_of_getElem? g1
    simp only [List.mem_cons, List.not_mem_nil, or_false] at this
    rcases this with rfl | rfl | rfl | rfl <;> exact ⟨_, rfl, by omega, by omega⟩
  obtain ⟨b1, rfl, hb1, hb2⟩ := hx1
  obtain ⟨v2, d2, h2, v20, v21, t2⟩ := draws.2 1 d1 b1 t1 (by omega) hb1 (by omega)
  obtain ⟨m, rfl⟩ : ∃ m : Nat, v2 = (m : Int) := ⟨v2.toNat, by omega⟩
  have hm : m ≤ 400 := by omega
  have ep : (evc (.call "_law_pick" g__law_pick (.cons (.var 1) (.cons (.lst (.cons (.int 401) (.cons (.int 4) (.cons (.int 30) (.cons (.int 120) .nil))))) .nil)))).val [.sh scr, .ow d0, .no, .no, .no, .no] = .ok (.sh (.int b1)) [.sh scr, .ow d1, .no, .no, .no, .no] :=
    call_tub (i := 1) (fr := false) (d0 := d0) pmd rfl (S1 := [.sh scr, .ow d0, .no, .no, .no, .no]) (m := .lst [.int 401, .int 4, .int 30, .int 120]) rfl rfl p1 t1.mu rfl
  have a2 := asg_v (i := 2) (call_tub (x := "_law_wind") (i := 1) (fr := false) (d0 := d0) (S := [.sh scr, .ow d0, .no, .no, .no, .no]) (S2 := [.sh scr, .ow d2, .no, .no, .no, .no]) dmd rfl (shr_of ep) rfl h2 t2.mu rfl) rfl
  -- the word
  have hw : g_plain_word.m [.int (m : Nat)] = .ok false (.tup ((sg m).map natD)) [] := word_of (by omega)
  have a3 := asg_v (i := 3) (call1 (x := "plain_word") (e := .var 2) (fr := false) (S := [.sh scr, .ow d2, .sh (.int (m : Nat)), .no, .no, .no]) (S1 := [.sh scr, .ow d2, .sh (.int (m : Nat)), .no, .no, .no]) wmd rfl hw) rfl
  have l1 := look1 (scr := scr) (d := d2) (s4 := .no) (s5 := .no) hm
  -- fewer
  obtain ⟨v3, d3, h3, v30, v31, t3⟩ := draws.2 2 d2 ((m : Int) + 1) t2 (by omega) (by omega) (by omega)
  obtain ⟨k, rfl⟩ : ∃ k : Nat, v3 = (k : Int) := ⟨v3.toNat, by omega⟩
  have l2 := look2 (scr := scr) (d := d3) (s5 := .no) (k := k) hm (by omega)
  have fl := led_eq (n := 2000) (by omega)
  rw [full_sg] at fl
  have fw : g_plain_word.m [.int (2000 : Nat)] = .ok false (.tup ((sg 2000).map natD)) [] := word_of (by omega)
  have fe := eq_lst (sg 2000)
  have fn : bi1 .len (.tup ((sg 2000).map natD)) = some (.sh (.int 2000)) := by rw [len_t, sg_len (by omega)]; rfl
  generalize (sg m).map natD = T at *
  generalize (sg 2000).map natD = U at *
  have ea : (evc (.bin .Add (.var 2) (.int 1))).val [.sh scr, .ow d2, .sh (.int (m : Nat)), .sh (.tup T), .no, .no] = .ok (.sh (.int ((m : Int) + 1))) [.sh scr, .ow d2, .sh (.int (m : Nat)), .sh (.tup T), .no, .no] := add_i rfl rfl
  have a4 := asg_v (i := 4) (call_tub (x := "_law_wind") (i := 1) (fr := false) (d0 := d2) (S := [.sh scr, .ow d2, .sh (.int (m : Nat)), .sh (.tup T), .no, .no]) (S2 := [.sh scr, .ow d3, .sh (.int (m : Nat)), .sh (.tup T), .no, .no]) dmd rfl (shr_of ea) rfl h3 t3.mu rfl) rfl
  -- odd
  obtain ⟨i4, v, d4, g4, p4, t4⟩ := picks.2 3 d3 odds t3 (by omega) (by simp [odds]) (by simp [odds])
  have hv : v ∈ odds := List.mem_of_getElem? g4
  have a5 := asg_v (i := 5) (call_tub (x := "_law_pick") (i := 1) (fr := false) (d0 := d3) (S := [.sh scr, .ow d3, .sh (.int (m : Nat)), .sh (.tup T), .sh (.int (k : Nat)), .no]) (S1 := [.sh scr, .ow d3, .sh (.int (m : Nat)), .sh (.tup T), .sh (.int (k : Nat)), .no]) (S2 := [.sh scr, .ow d4, .sh (.int (m : Nat)), .sh (.tup T), .sh (.int (k : Nat)), .no]) (e := .lst (.cons (.neg (.int 1)) (.cons (.int 2001) (.cons (.bl true) (.cons .non (.cons (.str "7") (.cons (.tup (.cons (.int 1) .nil)) (.cons (.bin .Pow (.int 10) (.int 30)) .nil)))))))) (m := .lst odds) pmd rfl rfl rfl p4 t4.mu rfl) rfl
  -- a throw of four
  obtain ⟨v5, d5, h5, _, _, t5⟩ := draws.2 4 d4 4 t4 (by omega) (by omega) (by omega)
  let S5 : SS := [.sh scr, .ow d5, .sh (.int (m : Nat)), .sh (.tup T), .sh (.int (k : Nat)), .sh v]
  have ew : (evc (.call "_law_wind" g__law_wind (.cons (.var 1) (.cons (.int 4) .nil)))).val [.sh scr, .ow d4, .sh (.int (m : Nat)), .sh (.tup T), .sh (.int (k : Nat)), .sh v] = .ok (.sh (.int v5)) S5 :=
    call_tub (i := 1) (fr := false) (d0 := d4) (S1 := [.sh scr, .ow d4, .sh (.int (m : Nat)), .sh (.tup T), .sh (.int (k : Nat)), .sh v]) dmd rfl rfl rfl h5 t5.mu rfl
  have cw : (evc (.call "plain_word" g_plain_word (.cons (.int 2000) .nil))).val S5 = .ok (.sh (.tup U)) S5 := call1 (fr := false) wmd rfl fw
  have m2 : g__law_led.md = [false] := rfl
  have cl : (evc (.call "_law_led" g__law_led (.cons (.int 2000) .nil))).val S5 = .ok (.fr (.lst U)) S5 := call1 (fr := true) m2 rfl fl
  have tl : (evc (.cmp .NotEq (.bi .list (.cons (.call "plain_word" g_plain_word (.cons (.int 2000) .nil)) .nil)) (.call "_law_led" g__law_led (.cons (.int 2000) .nil)))).tst S5 = .ok false S5 :=
    ne_d (bi_of (bb := .list) (d := .tup U) (ro := .nw (.lst U)) cw rfl rfl) cl rfl rfl fe
  have ta : (evc (.and_ (.cons (.cmp .Eq (.call "_law_wind" g__law_wind (.cons (.var 1) (.cons (.int 4) .nil))) (.int 0)) (.cons (.cmp .NotEq (.bi .list (.cons (.call "plain_word" g_plain_word (.cons (.int 2000) .nil)) .nil)) (.call "_law_led" g__law_led (.cons (.int 2000) .nil))) .nil)))).tst [.sh scr, .ow d4, .sh (.int (m : Nat)), .sh (.tup T), .sh (.int (k : Nat)), .sh v] = .ok false S5 := by
    have e0 := eq0 ew
    cases z : v5 == 0
    · rw [z] at e0; exact and_f e0
    · rw [z] at e0; exact and_t e0 tl
  -- the end
  have w1 := eq_w (by decide +kernel) (odd_heard (S := S5) hv rfl)
  have w2 : (evc (.cmp .Eq (.bi .len (.cons (.call "plain_word" g_plain_word (.cons (.int 2000) .nil)) .nil)) (.int 2000))).val S5 = .ok (.sh (.bl true)) S5 := eq_i (i := 2000) (k := 2000) (bi_of (bb := .len) (d := .tup U) (ro := .sh (.int 2000)) cw rfl fn)
  have w3 := and_tt w1 w2
  have go : exb b_law (slotsOf 6 [false] [scr]) = .rt false (.bl true) S5 := by
    have e0 : slotsOf 6 [false] [scr] = [.sh scr, .no, .no, .no, .no, .no] := rfl
    rw [e0]
    refine (exb_nx a1).trans ((exb_nx a2).trans ((exb_nx a3).trans ((exb_nx (ifs_f l1)).trans ((exb_nx a4).trans ((exb_nx (ifs_f l2)).trans ((exb_nx a5).trans ((exb_nx (ifs_f ta)).trans (exb_rt ?_))))))))
    rw [exs]
    show ((evc _).val S5).toF _ = _
    rw [w3]
    rfl
  show runS 6 [false] (exb b_law) [scr] = _
  exact runS_rt (n := 6) (ds := [scr]) (ms := [false]) (o := []) (b := exb b_law) (by rfl) go (by rfl)
end LK47
open PySem PySem.W PyProof.Rows
set_option maxHeartbeats 0 in
theorem PySem.Challenge.cw_threelanes_k47_plain_words_without_a_rep_holds : PySem.Challenge.rw_threelanes_k47_plain_words_without_a_rep.Holds := by
  w_on; o_law; k_head; (case hw => w_witness2)
  k_fill
  refine Eng.walkG (l := PySem.Challenge.rw_threelanes_k47_plain_words_without_a_rep) (n := 63) (k := 10) (x := "_law_script") (sg := LK47.g_law) rfl (by decide) rfl rfl ⟨rfl, by decide, by decide⟩ (fun w h Y => by first | exact PySem.W.kIn_of Y | exact PySem.W.km_in_of Y) rfl ?F LK47.holds
  case F =>
    intro w mg fa h KX N hmg
    refine' LK47.all_mk KX N hmg ?x0 ?x1 ?x2 ?a0 ?l0 ?c0 ?k0 ?a1 ?l1 ?c1 ?k1 ?a2 ?l2 ?c2 ?k2 ?a3 ?l3 ?c3 ?k3 ?a4 ?l4 ?c4 ?k4 ?t4 ?a5 ?l5 ?c5 ?k5 ?a6 ?l6 ?c6 ?k6 ?a7 ?l7 ?c7 ?k7 ?a8 ?l8 ?c8 ?k8 ?a9 ?l9 ?c9 ?k9 ?a10 ?l10 ?c10 ?k10 ?a11 ?l11 ?c11 ?k11 ?a12 ?l12 ?c12 ?k12 ?a13 ?l13 ?c13 ?k13 ?a14 ?l14 ?c14 ?k14 ?a15 ?l15 ?c15 ?k15 ?a16 ?l16 ?c16 ?k16 ?a17 ?l17 ?c17 ?k17 ?a18 ?l18 ?c18 ?k18 ?m18 ?mc18 ?mt18 ?mp18 ?gl_MOST_SIGNS ?ob_BadNumber ?oe_BadNumber_BadNumber ?oe_BadNumber_BadWord ?hx_LaneError_BadNumber ?hx_LaneError_BadWord ?z0 ?z1 ?z2 ?z3 ?z4 ?z5 ?z6 ?z7 ?z8 ?z9 ?z10 ?z11 ?z12 ?z13 ?z14 ?z15 ?z16 ?z17 ?z18 ?z19 ?z20
    case x0 => k_is
    case x1 => (refine' Eng.ExcF.of ?q_a0 ?q_a1 ?q_a2 ?q_a3 ?q_a4 ?q_a5 ?q_a6 ?q_a7 ?q_a8 ?q_a9 ?q_b0 ?q_b1 ?q_b2 ?q_b3 ?q_b4 ?q_b5 ?q_b6 ?q_d0 ?q_d1 ?q_d2 ?q_d3 ?q_d4 ?q_d5 ?q_d6 ?q_d7 ?q_d8 ?q_e0 ?q_e1 ?q_e2 ?q_e3 ?q_e4 ?q_e5 ?q_e6 ?q_nf ?q_few; (case q_a0 => k_is); (case q_a1 => k_is); (case q_a2 => k_is); (case q_a3 => k_is); (case q_a4 => k_is); (case q_a5 => k_is); (case q_a6 => first | rfl | k_is); (case q_a7 => first | rfl | decide +kernel | k_is); (case q_a8 => first | rfl | decide +kernel | k_is); (case q_a9 => k_is); (case q_b0 => exact rfl); (case q_b1 => exact rfl); (case q_b2 => first | rfl | decide +kernel); (case q_b3 => first | rfl | decide +kernel); (case q_b4 => first | rfl | decide +kernel); (case q_b5 => k_is); (case q_b6 => first | exact L2.Binds.all (fun us hl => match us, hl with | [_, _], _ => by rfl) | exact L2.Binds.all (fun us hl => match us, hl with | [_, _, _], _ => by rfl)); (case q_d0 => k_is); (case q_d1 => ks_is); (case q_d2 => k_is); (case q_d3 => k_is); (case q_d4 => exact ⟨_, _, _, _, _, _, _, _, _, _, _, _, _, _, _, by k_is, by first | rfl | decide +kernel⟩); (case q_d5 => k_is); (case q_d6 => k_is); (case q_d7 => k_is); (case q_d8 => k_is); (case q_e0 => k_is); (case q_e1 => k_is); (case q_e2 => k_is); (case q_e3 => k_is); (case q_e4 => k_is); (case q_e5 => k_is); (case q_e6 => k_is); (case q_nf => (refine Eng.allF.mem ?_; repeat' (first | exact True.intro | (refine And.intro ?_ ?_) | ((try dsimp only); k_is)))); (case q_few => decide))
    case x2 => (refine' Eng.ExcF.of ?q_a0 ?q_a1 ?q_a2 ?q_a3 ?q_a4 ?q_a5 ?q_a6 ?q_a7 ?q_a8 ?q_a9 ?q_b0 ?q_b1 ?q_b2 ?q_b3 ?q_b4 ?q_b5 ?q_b6 ?q_d0 ?q_d1 ?q_d2 ?q_d3 ?q_d4 ?q_d5 ?q_d6 ?q_d7 ?q_d8 ?q_e0 ?q_e1 ?q_e2 ?q_e3 ?q_e4 ?q_e5 ?q_e6 ?q_nf ?q_few; (case q_a0 => k_is); (case q_a1 => k_is); (case q_a2 => k_is); (case q_a3 => k_is); (case q_a4 => k_is); (case q_a5 => k_is); (case q_a6 => first | rfl | k_is); (case q_a7 => first | rfl | decide +kernel | k_is); (case q_a8 => first | rfl | decide +kernel | k_is); (case q_a9 => k_is); (case q_b0 => exact rfl); (case q_b1 => exact rfl); (case q_b2 => first | rfl | decide +kernel); (case q_b3 => first | rfl | decide +kernel); (case q_b4 => first | rfl | decide +kernel); (case q_b5 => k_is); (case q_b6 => first | exact L2.Binds.all (fun us hl => match us, hl with | [_, _], _ => by rfl) | exact L2.Binds.all (fun us hl => match us, hl with | [_, _, _], _ => by rfl)); (case q_d0 => k_is); (case q_d1 => ks_is); (case q_d2 => k_is); (case q_d3 => k_is); (case q_d4 => exact ⟨_, _, _, _, _, _, _, _, _, _, _, _, _, _, _, by k_is, by first | rfl | decide +kernel⟩); (case q_d5 => k_is); (case q_d6 => k_is); (case q_d7 => k_is); (case q_d8 => k_is); (case q_e0 => k_is); (case q_e1 => k_is); (case q_e2 => k_is); (case q_e3 => k_is); (case q_e4 => k_is); (case q_e5 => k_is); (case q_e6 => k_is); (case q_nf => (refine Eng.allF.mem ?_; repeat' (first | exact True.intro | (refine And.intro ?_ ?_) | ((try dsimp only); k_is)))); (case q_few => decide))
    case a0 => k_is
    case l0 => k_is
    case c0 => k_is
    case k0 => k_is
    case a1 => k_is
    case l1 => k_is
    case c1 => k_is
    case k1 => k_is
    case a2 => k_is
    case l2 => k_is
    case c2 => k_is
    case k2 => k_is
    case a3 => k_is
    case l3 => k_is
    case c3 => k_is
    case k3 => k_is
    case a4 => k_is
    case l4 => k_is
    case c4 => k_is
    case k4 => k_is
    case t4 => k_is
    case a5 => k_is
    case l5 => k_is
    case c5 => k_is
    case k5 => k_is
    case a6 => k_is
    case l6 => k_is
    case c6 => k_is
    case k6 => k_is
    case a7 => k_is
    case l7 => k_is
    case c7 => k_is
    case k7 => k_is
    case a8 => k_is
    case l8 => k_is
    case c8 => k_is
    case k8 => k_is
    case a9 => k_is
    case l9 => k_is
    case c9 => k_is
    case k9 => k_is
    case a10 => k_is
    case l10 => k_is
    case c10 => k_is
    case k10 => k_is
    case a11 => k_is
    case l11 => k_is
    case c11 => k_is
    case k11 => k_is
    case a12 => k_is
    case l12 => k_is
    case c12 => k_is
    case k12 => k_is
    case a13 => k_is
    case l13 => k_is
    case c13 => k_is
    case k13 => k_is
    case a14 => k_is
    case l14 => k_is
    case c14 => k_is
    case k14 => k_is
    case a15 => k_is
    case l15 => k_is
    case c15 => k_is
    case k15 => k_is
    case a16 => k_is
    case l16 => k_is
    case c16 => k_is
    case k16 => k_is
    case a17 => k_is
    case l17 => k_is
    case c17 => k_is
    case k17 => k_is
    case a18 => k_is
    case l18 => k_is
    case c18 => k_is
    case k18 => k_is
    case m18 => first | rfl | decide +kernel
    case mc18 => k_is
    case mt18 => first | rfl | k_is
    case mp18 => first | rfl | kernel_rfl | k_is
    case gl_MOST_SIGNS => k_is
    case ob_BadNumber => (repeat' (first | exact True.intro | (refine And.intro ?_ ?_) | ((try dsimp only); kit_is)))
    case oe_BadNumber_BadNumber => kit_is
    case oe_BadNumber_BadWord => kit_is
    case hx_LaneError_BadNumber => (refine' PySem.W.exm_ref ?q_h1 ?q_h2 ?q_h3 ?q_h4; (case q_h1 => k_is); (case q_h2 => k_is); (case q_h3 => k_is); (case q_h4 => k_is))
    case hx_LaneError_BadWord => (refine' PySem.W.exm_ref ?q_h1 ?q_h2 ?q_h3 ?q_h4; (case q_h1 => k_is); (case q_h2 => k_is); (case q_h3 => k_is); (case q_h4 => k_is))
    case z0 => k_is
    case z1 => k_is
    case z2 => k_is
    case z3 => k_is
    case z4 => k_is
    case z5 => k_is
    case z6 => k_is
    case z7 => k_is
    case z8 => k_is
    case z9 => k_is
    case z10 => k_is
    case z11 => k_is
    case z12 => k_is
    case z13 => k_is
    case z14 => k_is
    case z15 => k_is
    case z16 => k_is
    case z17 => k_is
    case z18 => k_is
    case z19 => k_is
    case z20 => k_is
