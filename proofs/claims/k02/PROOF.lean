import PyProof.Rows.All
import Wide.All
import OpenK.AllK
import Wide.FinOn
import HandS.ForMost
import HandS.ForExc
import HandS.Flow
import HandS.Wide
import HandS.TupAny
import HandS.Style
import HandS.Star
import HandS.TupSets
import HandS.IsInst
import HandS.Exc
import HandS.ExcOwn
import HandS.Codes
import HandS.Conv
import HandS.SetFor
import HandS.Lambda
import HandS.Ends
import PySem.Challenge.RW_threelanes_k02_integers_and_lots
set_option Elab.async false
set_option linter.all false
set_option maxRecDepth 100000
set_option maxHeartbeats 400000
namespace Eng
open PySem PySem.Spec L2
open PyProof.Rows hiding St

/-- a value as a tree -/
inductive D where
  | non | bl (b : Bool) | int (i : Int) | str (x : Str)
  | lst (xs : List D) | tup (xs : List D) | dic (ks vs : List D) | obj (c : Nat) (ns : List Str) (vs : List D) | scr (xs : List D)

/-- the written part, the classes' addresses -/
structure Gs where
  K : PySem.W.Frag
  c : Nat → Addr
/-- the script: an object that stands -/
def ScrAt (G : Gs) (Av : Addr → Prop) (H : Hp) (a : Addr) (vs : List V) : Prop := (¬ Av a ∧ Rd H a (.lst vs)) ∨
  ∃ (o : Obj) (its : Array Value) (n : Nat), G.K.lookup a = some o ∧ o.cls = .type "list" ∧ o.dict = none ∧ o.data = .seq its n ∧ its.size ≤ sizeLine ∧ Vals vs its.toList
theorem ScrAt.sq {G : Gs} {Av : Addr → Prop} {H : Hp} {a : Addr} {vs : List V} (h : ScrAt G Av H a vs) : SqL G.K H a vs := h.elim (fun z => .inl z.2) .inr

def kD : Key → D
  | .inl i => .int i
  | .inr x => .str x
def tD (l : List Key) : D := .tup (l.map kD)

/-- a dict at a -/
def DicAt (H : Hp) (a : Addr) (ks : List D) (vs : List V) : Prop :=
  (∃ kk : List Key, ks = kk.map kD ∧ kk.length = vs.length ∧ H a = some (.dK (kk.zip vs))) ∨
  (∃ kk : List (List Key), ks = kk.map tD ∧ (kk.length = vs.length ∧ kk ≠ []) ∧ H a = some (.dT (kk.zip vs)))

mutual
/-- v is d in H, its objects apart from Av -/
def Rep (G : Gs) (Av : Addr → Prop) (H : Hp) : D → V → Prop
  | .non, v => v = .non
  | .bl b, v => v = .bl b
  | .int i, v => v = .int i
  | .str x, v => v = .str x
  | .lst ds, v => ∃ a vs, v = .ref a ∧ ¬ Av a ∧ H a = some (.lst vs) ∧ Reps G Av H ds vs
  | .tup ds, v => ∃ a vs, v = .ref a ∧ ¬ Av a ∧ H a = some (.tup vs) ∧ Reps G Av H ds vs
  | .dic ks ds, v => ∃ a vs, v = .ref a ∧ ¬ Av a ∧ DicAt H a ks vs ∧ Reps G Av H ds vs
  | .obj c ns ds, v => ∃ a dx vs, v = .ref a ∧ ¬ Av a ∧ H a = some (.ins (G.c c) dx (ns.zip vs)) ∧ ns.length = vs.length ∧ Reps G Av H ds vs
  | .scr ds, v => ∃ a vs, v = .ref a ∧ ScrAt G Av H a vs ∧ Reps G Av H ds vs
def Reps (G : Gs) (Av : Addr → Prop) (H : Hp) : List D → List V → Prop
  | [], vs => vs = []
  | d :: ds, vs => ∃ v r, vs = v :: r ∧ Rep G Av H d v ∧ Reps G Av H ds r
end

/-- .. where the top object may be anything -/
def Vw (G : Gs) (Av : Addr → Prop) (H : Hp) : D → V → Prop
  | .non, v => v = .non
  | .bl b, v => v = .bl b
  | .int i, v => v = .int i
  | .str x, v => v = .str x
  | .lst ds, v => ∃ a vs, v = .ref a ∧ H a = some (.lst vs) ∧ Reps G Av H ds vs
  | .tup ds, v => ∃ a vs, v = .ref a ∧ H a = some (.tup vs) ∧ Reps G Av H ds vs
  | .dic ks ds, v => ∃ a vs, v = .ref a ∧ DicAt H a ks vs ∧ Reps G Av H ds vs
  | .obj c ns ds, v => ∃ a dx vs, v = .ref a ∧ H a = some (.ins (G.c c) dx (ns.zip vs)) ∧ ns.length = vs.length ∧ Reps G Av H ds vs
  | .scr ds, v => ∃ a vs, v = .ref a ∧ ScrAt G Av H a vs ∧ Reps G Av H ds vs

def MutD : D → Bool
  | .lst _ => true
  | .dic _ _ => true
  | .obj _ _ _ => true
  | _ => false

abbrev Ext (H H' : Hp) : Prop := ∀ a o, H a = some o → H' a = some o

section
variable {G : Gs} {Av Av' : Addr → Prop} {H H' : Hp}
theorem ScrAt.mono {a : Addr} {vs : List V} (h : ScrAt G Av H a vs) (e : ∀ a o, H a = some o → ¬ Av a → H' a = some o) (s : ∀ a, Av' a → Av a ∨ H a = none) : ScrAt G Av' H' a vs := by
  rcases h with ⟨h1, h2⟩ | h
  · refine .inl ⟨fun z => (s a z).elim h1 fun n => ?_, ?_⟩
    · rcases h2 with h2 | ⟨o, h2⟩ <;> (rw [h2] at n; cases n)
    · rcases h2 with h2 | ⟨o, h2⟩
      · exact .inl (e _ _ h2 h1)
      · exact .inr ⟨o, e _ _ h2 h1⟩
  · exact .inr h
theorem DicAt.mono {a : Addr} {ks : List D} {vs : List V} (h : DicAt H a ks vs) (e : ∀ o, H a = some o → H' a = some o) : DicAt H' a ks vs := by
  rcases h with ⟨kk, h1, h2, h3⟩ | ⟨kk, h1, h2, h3⟩
  · exact .inl ⟨kk, h1, h2, e _ h3⟩
  · exact .inr ⟨kk, h1, h2, e _ h3⟩
theorem DicAt.some {a : Addr} {ks : List D} {vs : List V} (h : DicAt H a ks vs) : ∃ o, H a = some o := by
  rcases h with ⟨kk, _, _, h3⟩ | ⟨kk, _, _, h3⟩ <;> exact ⟨_, h3⟩
mutual
theorem Rep.mono (e : ∀ a o, H a = some o → ¬ Av a → H' a = some o) (s : ∀ a, Av' a → Av a ∨ H a = none) : ∀ (d : D) {v : V}, Rep G Av H d v → Rep G Av' H' d v
  | .non, v, h => h
  | .bl _, v, h => h
  | .int _, v, h => h
  | .str _, v, h => h
  | .lst ds, v, ⟨a, vs, h1, h2, h3, h4⟩ => ⟨a, vs, h1, fun z => (s a z).elim h2 (fun n => by rw [h3] at n; cases n), e a _ h3 h2, Reps.mono e s ds h4⟩
  | .tup ds, v, ⟨a, vs, h1, h2, h3, h4⟩ => ⟨a, vs, h1, fun z => (s a z).elim h2 (fun n => by rw [h3] at n; cases n), e a _ h3 h2, Reps.mono e s ds h4⟩
  | .dic ks ds, v, ⟨a, vs, h1, h2, h3, h4⟩ => ⟨a, vs, h1, fun z => (s a z).elim h2 (fun n => by obtain ⟨o, q⟩ := h3.some; rw [q] at n; cases n), h3.mono (fun o q => e a o q h2), Reps.mono e s ds h4⟩
  | .obj c ns ds, v, ⟨a, dx, vs, h1, h2, h3, h5, h4⟩ => ⟨a, dx, vs, h1, fun z => (s a z).elim h2 (fun n => by rw [h3] at n; cases n), e a _ h3 h2, h5, Reps.mono e s ds h4⟩
  | .scr ds, v, ⟨a, vs, h1, h3, h4⟩ => ⟨a, vs, h1, h3.mono e s, Reps.mono e s ds h4⟩
theorem Reps.mono (e : ∀ a o, H a = some o → ¬ Av a → H' a = some o) (s : ∀ a, Av' a → Av a ∨ H a = none) : ∀ (ds : List D) {vs : List V}, Reps G Av H ds vs → Reps G Av' H' ds vs
  | [], vs, h => h
  | d :: ds, vs, ⟨v, r, h1, h2, h3⟩ => ⟨v, r, h1, Rep.mono e s d h2, Reps.mono e s ds h3⟩
end
theorem Rep.vw : ∀ {d : D} {v : V}, Rep G Av H d v → Vw G Av H d v
  | .non, v, h => h
  | .bl _, v, h => h
  | .int _, v, h => h
  | .str _, v, h => h
  | .lst ds, v, ⟨a, vs, h1, h2, h3, h4⟩ => ⟨a, vs, h1, h3, h4⟩
  | .tup ds, v, ⟨a, vs, h1, h2, h3, h4⟩ => ⟨a, vs, h1, h3, h4⟩
  | .dic ks ds, v, ⟨a, vs, h1, h2, h3, h4⟩ => ⟨a, vs, h1, h3, h4⟩
  | .obj c ns ds, v, ⟨a, dx, vs, h1, h2, h3, h5, h4⟩ => ⟨a, dx, vs, h1, h3, h5, h4⟩
  | .scr ds, v, h => h
/-- the top object apart, too -/
theorem Vw.rep : ∀ {d : D} {v : V}, Vw G Av H d v → (∀ a, v = .ref a → ¬ Av a) → Rep G Av H d v
  | .non, v, h, _ => h
  | .bl _, v, h, _ => h
  | .int _, v, h, _ => h
  | .str _, v, h, _ => h
  | .lst ds, v, ⟨a, vs, h1, h3, h4⟩, n => ⟨a, vs, h1, n a h1, h3, h4⟩
  | .tup ds, v, ⟨a, vs, h1, h3, h4⟩, n => ⟨a, vs, h1, n a h1, h3, h4⟩
  | .dic ks ds, v, ⟨a, vs, h1, h3, h4⟩, n => ⟨a, vs, h1, n a h1, h3, h4⟩
  | .obj c ns ds, v, ⟨a, dx, vs, h1, h3, h5, h4⟩, n => ⟨a, dx, vs, h1, n a h1, h3, h5, h4⟩
  | .scr ds, v, h, _ => h
/-- all but Av is kept, the top object, too -/
theorem Vw.mono (e : ∀ a o, H a = some o → ¬ Av a → H' a = some o) (s : ∀ a, Av' a → Av a ∨ H a = none) : ∀ {d : D} {v : V}, Vw G Av H d v → (∀ a o, v = .ref a → H a = some o → H' a = some o) → Vw G Av' H' d v
  | .non, v, h, _ => h
  | .bl _, v, h, _ => h
  | .int _, v, h, _ => h
  | .str _, v, h, _ => h
  | .lst ds, v, ⟨a, vs, h1, h3, h4⟩, n => ⟨a, vs, h1, n a _ h1 h3, Reps.mono e s ds h4⟩
  | .tup ds, v, ⟨a, vs, h1, h3, h4⟩, n => ⟨a, vs, h1, n a _ h1 h3, Reps.mono e s ds h4⟩
  | .dic ks ds, v, ⟨a, vs, h1, h3, h4⟩, n => ⟨a, vs, h1, h3.mono (fun o q => n a o h1 q), Reps.mono e s ds h4⟩
  | .obj c ns ds, v, ⟨a, dx, vs, h1, h3, h5, h4⟩, n => ⟨a, dx, vs, h1, n a _ h1 h3, h5, Reps.mono e s ds h4⟩
  | .scr ds, v, ⟨a, vs, h1, h3, h4⟩, n => ⟨a, vs, h1, h3.mono e s, Reps.mono e s ds h4⟩
/-- what can be changed is an object -/
theorem Vw.addr : ∀ {d : D} {v : V}, Vw G Av H d v → MutD d = true → ∃ a, v = .ref a
  | .lst ds, v, ⟨a, vs, h1, _⟩, _ => ⟨a, h1⟩
  | .dic ks ds, v, ⟨a, vs, h1, _⟩, _ => ⟨a, h1⟩
  | .obj c ns ds, v, ⟨a, dx, vs, h1, _⟩, _ => ⟨a, h1⟩
  | .non, _, _, n => nomatch n
  | .bl _, _, _, n => nomatch n
  | .int _, _, _, n => nomatch n
  | .str _, _, _, n => nomatch n
  | .tup _, _, _, n => nomatch n
  | .scr _, _, _, n => nomatch n
theorem Reps.length : ∀ {ds : List D} {vs : List V}, Reps G Av H ds vs → vs.length = ds.length
  | [], vs, h => by cases (show vs = [] from h); rfl
  | d :: ds, vs, ⟨v, r, h1, h2, h3⟩ => by subst h1; simp [h3.length]
theorem Reps.get : ∀ {ds : List D} {vs : List V} {i : Nat} {v : V}, Reps G Av H ds vs → vs[i]? = some v → ∃ d, ds[i]? = some d ∧ Rep G Av H d v
  | [], vs, i, v, h, q => by cases (show vs = [] from h); simp at q
  | d :: ds, vs, 0, v, ⟨w, r, h1, h2, h3⟩, q => by subst h1; simp at q; subst q; exact ⟨d, rfl, h2⟩
  | d :: ds, vs, i + 1, v, ⟨w, r, h1, h2, h3⟩, q => by subst h1; simpa using h3.get (by simpa using q)
theorem Reps.get' : ∀ {ds : List D} {vs : List V} {i : Nat} {d : D}, Reps G Av H ds vs → ds[i]? = some d → ∃ v, vs[i]? = some v ∧ Rep G Av H d v
  | [], vs, i, v, h, q => by simp at q
  | d :: ds, vs, 0, e, ⟨w, r, h1, h2, h3⟩, q => by subst h1; simp at q; subst q; exact ⟨w, rfl, h2⟩
  | d :: ds, vs, i + 1, e, ⟨w, r, h1, h2, h3⟩, q => by subst h1; simpa using h3.get' (by simpa using q)
theorem Reps.append : ∀ {ds es : List D} {vs us : List V}, Reps G Av H ds vs → Reps G Av H es us → Reps G Av H (ds ++ es) (vs ++ us)
  | [], es, vs, us, h, q => by cases (show vs = [] from h); exact q
  | d :: ds, es, vs, us, ⟨w, r, h1, h2, h3⟩, q => by subst h1; exact ⟨w, r ++ us, rfl, h2, h3.append q⟩
theorem Reps.take : ∀ {ds : List D} {vs : List V} (n : Nat), Reps G Av H ds vs → Reps G Av H (ds.take n) (vs.take n)
  | ds, vs, 0, h => by simp [Reps]
  | [], vs, n + 1, h => by cases (show vs = [] from h); exact h
  | d :: ds, vs, n + 1, ⟨w, r, h1, h2, h3⟩ => by subst h1; exact ⟨w, r.take n, rfl, h2, h3.take n⟩
theorem Reps.drop : ∀ {ds : List D} {vs : List V} (n : Nat), Reps G Av H ds vs → Reps G Av H (ds.drop n) (vs.drop n)
  | ds, vs, 0, h => h
  | [], vs, n + 1, h => by cases (show vs = [] from h); exact h
  | d :: ds, vs, n + 1, ⟨w, r, h1, h2, h3⟩ => by subst h1; exact h3.drop n
theorem Reps.reverse : ∀ {ds : List D} {vs : List V}, Reps G Av H ds vs → Reps G Av H ds.reverse vs.reverse
  | [], vs, h => by cases (show vs = [] from h); exact h
  | d :: ds, vs, ⟨w, r, h1, h2, h3⟩ => by
    subst h1; simp only [List.reverse_cons]; exact h3.reverse.append ⟨w, [], rfl, h2, rfl⟩
theorem Reps.set : ∀ {ds : List D} {vs : List V} (n : Nat) {d : D} {v : V}, Reps G Av H ds vs → Rep G Av H d v → Reps G Av H (ds.set n d) (vs.set n v)
  | [], vs, n, d, v, h, q => by cases (show vs = [] from h); exact h
  | e :: ds, vs, 0, d, v, ⟨w, r, h1, h2, h3⟩, q => by subst h1; exact ⟨v, r, rfl, q, h3⟩
  | e :: ds, vs, n + 1, d, v, ⟨w, r, h1, h2, h3⟩, q => by subst h1; exact ⟨w, r.set n v, rfl, h2, h3.set n q⟩
theorem Reps.eraseIdx : ∀ {ds : List D} {vs : List V} (n : Nat), Reps G Av H ds vs → Reps G Av H (ds.eraseIdx n) (vs.eraseIdx n)
  | [], vs, n, h => by cases (show vs = [] from h); exact h
  | e :: ds, vs, 0, ⟨w, r, h1, h2, h3⟩ => by subst h1; exact h3
  | e :: ds, vs, n + 1, ⟨w, r, h1, h2, h3⟩ => by subst h1; exact ⟨w, r.eraseIdx n, rfl, h2, h3.eraseIdx n⟩
theorem Reps.snoc {ds : List D} {vs : List V} {d : D} {v : V} (h : Reps G Av H ds vs) (q : Rep G Av H d v) : Reps G Av H (ds ++ [d]) (vs ++ [v]) := h.append ⟨v, [], rfl, q, rfl⟩
theorem Reps.one {d : D} {v : V} (q : Rep G Av H d v) : Reps G Av H [d] [v] := ⟨v, [], rfl, q, rfl⟩
theorem Reps.nil : Reps G Av H [] [] := rfl
end
end Eng

namespace Eng
open PySem PySem.Spec L2
open PyProof.Rows hiding St

/-- a slot: empty, shared, owned, a parameter that is changed, owned and locked -/
inductive SV where
  | no | sh (d : D) | ow (d : D) | io (d : D) | lk (d : D)
abbrev SS := List SV
def SV.dat : SV → Option D
  | .no => none
  | .sh d => some d
  | .ow d => some d
  | .io d => some d
  | .lk d => some d
/-- it has a root -/
def SV.rt : SV → Option D
  | .no => none
  | .sh _ => none
  | .ow d => some d
  | .io d => some d
  | .lk d => some d
/-- its root may change -/
def SV.mu : SV → Option D
  | .no => none
  | .sh _ => none
  | .ow d => some d
  | .io d => some d
  | .lk _ => none
theorem SV.mu_rt {s : SV} {d : D} (h : s.mu = some d) : s.rt = some d := by cases s <;> first | exact h | cases h
theorem SV.rt_dat {s : SV} {d : D} (h : s.rt = some d) : s.dat = some d := by cases s <;> first | exact h | cases h

/-- what an expression yields: shared, fresh, or the object that a slot holds -/
inductive RV where
  | sh (d : D) | fr (d : D) | br (i : Nat)

/-- an end -/
inductive R (α : Type) where
  | ok (a : α) (S : SS) | exc (e : D) (S : SS) | bad
@[inline] def R.bind {α β : Type} : R α → (α → SS → R β) → R β
  | .ok a S, f => f a S
  | .exc e S, _ => .exc e S
  | .bad, _ => .bad

def Owns (S : SS) (i : Nat) : Prop := ∃ s d, S[i]? = some s ∧ s.mu = some d
def Holds (S : SS) (i : Nat) : Prop := ∃ s d, S[i]? = some s ∧ s.rt = some d
def Live (S : SS) (i : Nat) : Prop := ∃ s d, S[i]? = some s ∧ s.dat = some d
def dAt (S : SS) (i : Nat) : Option D := (S[i]?).bind SV.dat
def At (σ : St) (i : Nat) (a : Addr) : Prop := σ[i]? = some (some (.ref a))
theorem At.inj {σ : St} {i : Nat} {a b : Addr} (h : At σ i a) (q : At σ i b) : a = b := by
  have e : σ[i]? = some (some (.ref a)) := h
  rw [show σ[i]? = some (some (.ref b)) from q] at e
  cases e; rfl
theorem Owns.holds {S : SS} {i : Nat} (h : Owns S i) : Holds S i := let ⟨s, d, q, r⟩ := h; ⟨s, d, q, s.mu_rt r⟩
/-- the roots that may change -/
def Root (S : SS) (σ : St) (a : Addr) : Prop := ∃ i, Owns S i ∧ At σ i a

structure StOk (G : Gs) (Av : Addr → Prop) (S : SS) (σ : St) (H : Hp) : Prop where
  len : S.length = σ.length
  dom : ∀ a, Av a → ∃ o, H a = some o
  sh : ∀ (i : Nat) (d : D), S[i]? = some (.sh d) → ∃ v, σ[i]? = some (some v) ∧ Rep G Av H d v
  ow : ∀ (i : Nat) (s : SV) (d : D), S[i]? = some s → s.rt = some d → ∃ p, At σ i p ∧ Av p ∧ Vw G Av H d (.ref p) ∧ MutD d = true
  dis : ∀ (i j : Nat) (p : Addr), Holds S i → Holds S j → At σ i p → At σ j p → i = j

/-- behind an expression: its value -/
def RVOk (G : Gs) (Av : Addr → Prop) (S : SS) (σ : St) (H0 H : Hp) (v : V) (rv : RV) : Prop := match rv with
  | RV.sh d => Rep G Av H d v
  | .fr d => ∃ p, v = .ref p ∧ Av p ∧ H0 p = none ∧ Vw G Av H d v ∧ MutD d = true
  | .br i => σ[i]? = some (some v) ∧ Live S i

structure Post (G : Gs) (Av : Addr → Prop) (S : SS) (σ : St) (H : Hp) (Av' : Addr → Prop) (S' : SS) (H' : Hp) : Prop where
  frame : ∀ a o, H a = some o → ¬ Root S σ a → H' a = some o
  stay : ∀ a o, H a = some o → ∃ o', H' a = some o'
  sub : ∀ a, Av' a → Av a ∨ H a = none
  held : ∀ a, Av a → ¬ Root S σ a → Av' a
  roots : ∀ i, Owns S' i → Owns S i
  holds : ∀ i, Holds S' i → Holds S i
  live : ∀ i, Live S i → Live S' i
  ios : ∀ (i : Nat) d, S[i]? = some (.io d) → ∃ d', S'[i]? = some (.io d')
  lks : ∀ (i : Nat) d, S[i]? = some (.lk d) → S'[i]? = some (.lk d)
  st : StOk G Av' S' σ H'

structure EPost (G : Gs) (Av : Addr → Prop) (S : SS) (σ : St) (H : Hp) (rv : RV) (S' : SS) (v : V) (H' : Hp) : Prop where
  ex : ∃ Av', Post G Av S σ H Av' S' H' ∧ RVOk G Av' S' σ H H' v rv

section
variable {G : Gs} {Av Av1 Av2 : Addr → Prop} {S S1 S2 : SS} {σ : St} {H H1 H2 : Hp}
theorem Live.dAt {i : Nat} (h : Live S i) : ∃ d, dAt S i = some d := by
  obtain ⟨s, d, h, q⟩ := h
  exact ⟨d, by unfold Eng.dAt; rw [h]; exact q⟩
theorem dAt_live {i : Nat} {d : D} (h : dAt S i = some d) : ∃ s, S[i]? = some s ∧ s.dat = some d := by
  unfold dAt at h
  cases e : S[i]? with
  | none => rw [e] at h; cases h
  | some s => rw [e] at h; exact ⟨s, rfl, h⟩
theorem dat_cases {s : SV} {d : D} (h : s.dat = some d) : s = .sh d ∨ s.rt = some d := by
  cases s with
  | no => cases h
  | sh e => cases h; exact .inl rfl
  | ow e => exact .inr h
  | io e => exact .inr h
  | lk e => exact .inr h
/-- what a slot holds, as a view -/
theorem StOk.view (st : StOk G Av S σ H) {i : Nat} {d : D} (h : dAt S i = some d) : ∃ v, σ[i]? = some (some v) ∧ Vw G Av H d v ∧ (MutD d = false → Rep G Av H d v) := by
  obtain ⟨s, h, q⟩ := dAt_live h
  rcases dat_cases q with rfl | q
  · obtain ⟨v, h1, h2⟩ := st.sh i d h
    exact ⟨v, h1, h2.vw, fun _ => h2⟩
  · obtain ⟨p, h1, _, h3, h4⟩ := st.ow i s d h q
    exact ⟨.ref p, h1, h3, fun z => by rw [h4] at z; cases z⟩
theorem Root.av (st : StOk G Av S σ H) {a : Addr} (r : Root S σ a) : Av a := by
  obtain ⟨i, ⟨s, d, hd, hm⟩, ha⟩ := r
  obtain ⟨p, h1, h2, _⟩ := st.ow i s d hd (s.mu_rt hm)
  rw [ha.inj h1]
  exact h2
theorem Post.refl (st : StOk G Av S σ H) : Post G Av S σ H Av S H :=
  ⟨fun _ _ q _ => q, fun _ o q => ⟨o, q⟩, fun _ q => .inl q, fun _ q _ => q, fun _ q => q, fun _ q => q, fun _ q => q, fun _ d q => ⟨d, q⟩, fun _ _ q => q, st⟩
theorem Post.root (p : Post G Av S σ H Av1 S1 H1) {a : Addr} (r : Root S1 σ a) : Root S σ a := by
  obtain ⟨i, h, q⟩ := r
  exact ⟨i, p.roots i h, q⟩
theorem Post.trans (p : Post G Av S σ H Av1 S1 H1) (q : Post G Av1 S1 σ H1 Av2 S2 H2) : Post G Av S σ H Av2 S2 H2 where
  frame := fun a o h n => q.frame a o (p.frame a o h n) fun r => n (p.root r)
  stay := fun a o h => let ⟨o', h'⟩ := p.stay a o h; q.stay a o' h'
  sub := fun a h => by
    rcases q.sub a h with h | h
    · exact p.sub a h
    · refine .inr ?_
      cases e : H a with
      | none => rfl
      | some o => obtain ⟨o', h'⟩ := p.stay a o e; rw [h'] at h; cases h
  held := fun a h n => q.held a (p.held a h n) fun r => n (p.root r)
  roots := fun i h => p.roots i (q.roots i h)
  holds := fun i h => p.holds i (q.holds i h)
  live := fun i h => q.live i (p.live i h)
  ios := fun i d h => let ⟨d', h'⟩ := p.ios i d h; q.ios i d' h'
  lks := fun i d h => q.lks i d (p.lks i d h)
  st := q.st
/-- a shared value is carried on -/
theorem Post.rep (p : Post G Av S σ H Av1 S1 H1) (st : StOk G Av S σ H) {d : D} {v : V} (h : Rep G Av H d v) : Rep G Av1 H1 d v :=
  h.mono (fun a o q n => p.frame a o q fun r => n (r.av st)) p.sub
theorem Post.reps (p : Post G Av S σ H Av1 S1 H1) (st : StOk G Av S σ H) {d : List D} {v : List V} (h : Reps G Av H d v) : Reps G Av1 H1 d v :=
  Reps.mono (fun a o q n => p.frame a o q fun r => n (r.av st)) p.sub d h
/-- a held object that no slot owns is carried on -/
theorem Post.vw (p : Post G Av S σ H Av1 S1 H1) (st : StOk G Av S σ H) {d : D} {v : V} (h : Vw G Av H d v) (n : ∀ a, v = .ref a → ¬ Root S σ a) : Vw G Av1 H1 d v :=
  h.mono (fun a o q n => p.frame a o q fun r => n (r.av st)) p.sub fun a o e q => p.frame a o q (n a e)
end

/-! ### to share -/
/-- a value as a shared one -/
def shr (rv : RV) (S : SS) : R D := match rv with
  | .sh d => .ok d S
  | .fr d => .ok d S
  | .br i => match S[i]? with
    | some (.sh d) => .ok d S
    | some (.ow d) => .ok d (S.set i (.sh d))
    | _ => .bad

section
variable {G : Gs} {Av Av1 Av2 : Addr → Prop} {S S1 S2 : SS} {σ : St} {H H1 H2 : Hp}
theorem get_set_cases {α : Type} {l : List α} {i j : Nat} {x y : α} (h : (l.set i x)[j]? = some y) : (j = i ∧ y = x) ∨ (j ≠ i ∧ l[j]? = some y) := by
  by_cases e : j = i
  · subst e
    have hl : j < l.length := by
      have := (List.getElem?_eq_some_iff.mp h).1
      simpa using this
    rw [List.getElem?_set_self hl] at h
    exact .inl ⟨rfl, (Option.some.inj h).symm⟩
  · rw [List.getElem?_set_ne (Ne.symm e)] at h
    exact .inr ⟨e, h⟩
theorem set_ne {α : Type} {l : List α} {i j : Nat} {x : α} (e : j ≠ i) : (l.set i x)[j]? = l[j]? := List.getElem?_set_ne (Ne.symm e)
theorem set_eq {α : Type} {l : List α} {i : Nat} {x y : α} (h : l[i]? = some y) : (l.set i x)[i]? = some x := by
  rw [List.getElem?_set_self (List.getElem?_eq_some_iff.mp h).1]
theorem Rep.less {Av' : Addr → Prop} (s : ∀ a, Av' a → Av a) {d : D} {v : V} (h : Rep G Av H d v) : Rep G Av' H d v := h.mono (fun _ _ q _ => q) fun a q => .inl (s a q)
theorem Vw.less {Av' : Addr → Prop} (s : ∀ a, Av' a → Av a) {d : D} {v : V} (h : Vw G Av H d v) : Vw G Av' H d v := h.mono (fun _ _ q _ => q) (fun a q => .inl (s a q)) fun _ _ _ q => q
/-- an owned slot is shared: its root is no longer apart -/
theorem StOk.unown (st : StOk G Av S σ H) {i : Nat} {d : D} {p : Addr} (h : S[i]? = some (.ow d)) (hp : At σ i p) :
    Post G Av S σ H (fun a => Av a ∧ a ≠ p) (S.set i (.sh d)) H ∧ Rep G (fun a => Av a ∧ a ≠ p) H d (.ref p) := by
  have less : ∀ a, (Av a ∧ a ≠ p) → Av a := fun a q => q.1
  have key : Rep G (fun a => Av a ∧ a ≠ p) H d (.ref p) := by
    obtain ⟨p', h1, h2, h3, h4⟩ := st.ow i _ d h rfl
    cases h1.inj hp
    exact (h3.less less).rep fun a e => by cases e; exact fun z => z.2 rfl
  have get : ∀ j s, (S.set i (.sh d))[j]? = some s → (j = i ∧ s = .sh d) ∨ (j ≠ i ∧ S[j]? = some s) := fun j s q => get_set_cases q
  have own : ∀ j, Owns (S.set i (.sh d)) j → Owns S j ∧ j ≠ i := fun j ⟨s, e, q, r⟩ => by
    rcases get j s q with ⟨_, rfl⟩ | ⟨z, q⟩
    · cases r
    · exact ⟨⟨s, e, q, r⟩, z⟩
  have hol : ∀ j, Holds (S.set i (.sh d)) j → Holds S j ∧ j ≠ i := fun j ⟨s, e, q, r⟩ => by
    rcases get j s q with ⟨_, rfl⟩ | ⟨z, q⟩
    · cases r
    · exact ⟨⟨s, e, q, r⟩, z⟩
  refine ⟨⟨fun a o q _ => q, fun a o q => ⟨o, q⟩, fun a q => .inl q.1, fun a q n => ⟨q, fun z => n ⟨i, ⟨_, d, h, rfl⟩, z ▸ hp⟩⟩, fun j q => (own j q).1, fun j q => (hol j q).1, fun j q => ?_, fun j e q => ⟨e, ?_⟩, fun j e q => ?_, ?_⟩, key⟩
  · by_cases e : j = i
    · subst e; exact ⟨_, d, set_eq h, rfl⟩
    · obtain ⟨s, e', q, r⟩ := q
      exact ⟨s, e', by rw [set_ne e]; exact q, r⟩
  · rw [set_ne (fun z => by subst z; rw [h] at q; cases q)]; exact q
  · rw [set_ne (fun z => by subst z; rw [h] at q; cases q)]; exact q
  · refine ⟨by rw [List.length_set]; exact st.len, fun a q => st.dom a q.1, fun j e q => ?_, fun j s e q r => ?_, fun j k q h1 h2 h3 h4 => st.dis j k q (hol j h1).1 (hol k h2).1 h3 h4⟩
    · rcases get j _ q with ⟨z, z'⟩ | ⟨z, q⟩
      · cases z'
        subst z
        exact ⟨_, hp, key⟩
      · obtain ⟨v, h1, h2⟩ := st.sh j e q
        exact ⟨v, h1, h2.less less⟩
    · obtain ⟨hj, nji⟩ := hol j ⟨s, e, q, r⟩
      rw [set_ne nji] at q
      obtain ⟨p', h1, h2, h3, h4⟩ := st.ow j s e q r
      exact ⟨p', h1, ⟨h2, fun z => nji (st.dis j i p' hj ⟨_, d, h, rfl⟩ h1 (z ▸ hp))⟩, h3.less less, h4⟩
/-- a held address that no slot has is let go -/
theorem StOk.drop (st : StOk G Av S σ H) {p : Addr} (n : ∀ i, Holds S i → ¬ At σ i p) : StOk G (fun a => Av a ∧ a ≠ p) S σ H := by
  have less : ∀ a, (Av a ∧ a ≠ p) → Av a := fun a q => q.1
  refine ⟨st.len, fun a q => st.dom a q.1, fun i d q => ?_, fun i s d q r => ?_, st.dis⟩
  · obtain ⟨v, h1, h2⟩ := st.sh i d q
    exact ⟨v, h1, h2.less less⟩
  · obtain ⟨p', h1, h2, h3, h4⟩ := st.ow i s d q r
    exact ⟨p', h1, ⟨h2, fun z => n i ⟨s, d, q, r⟩ (z ▸ h1)⟩, h3.less less, h4⟩
theorem StOk.new_apart (st : StOk G Av S σ H) {a : Addr} (h : H a = none) : ∀ i, Holds S i → ¬ At σ i a := fun i ⟨s, d, q, r⟩ ha => by
  obtain ⟨p', h1, h2, _⟩ := st.ow i s d q r
  cases h1.inj ha
  obtain ⟨o, z⟩ := st.dom _ h2
  rw [z] at h; cases h
theorem Post.new_apart (p : Post G Av S σ H Av1 S1 H1) (st : StOk G Av S σ H) {a : Addr} (h : H a = none) : ∀ i, Holds S1 i → ¬ At σ i a := fun i hi => st.new_apart h i (p.holds i hi)
theorem Post.letgo (p : Post G Av S σ H Av1 S1 H1) (st : StOk G Av S σ H) {a : Addr} (h : H a = none) : Post G Av S σ H (fun b => Av1 b ∧ b ≠ a) S1 H1 :=
  ⟨p.frame, p.stay, fun b q => p.sub b q.1, fun b q n => ⟨p.held b q n, fun z => by
    subst z
    obtain ⟨o, z⟩ := st.dom _ q
    rw [z] at h; cases h⟩, p.roots, p.holds, p.live, p.ios, p.lks, p.st.drop (p.new_apart st h)⟩
theorem fr_shared {rv : RV} {S' : SS} {v : V} {H' : Hp} {d : D} (st : StOk G Av S σ H) (p : EPost G Av S σ H (.fr d) S' v H') : EPost G Av S σ H (.sh d) S' v H' := by
  obtain ⟨Av', P, a, rfl, h1, h2, h3, h4⟩ := p.ex
  exact ⟨_, P.letgo st h2, (h3.less (Av' := fun b => Av' b ∧ b ≠ a) fun b q => q.1).rep fun b e => by cases e; exact fun z => z.2 rfl⟩
/-- behind an expression whose value is made a shared one -/
theorem EPost.shared {rv : RV} {S' S'' : SS} {v : V} {H' : Hp} {d : D} (st : StOk G Av S σ H) (p : EPost G Av S σ H rv S' v H') (h : shr rv S' = .ok d S'') : EPost G Av S σ H (.sh d) S'' v H' := by
  cases rv with
  | sh e => cases h; exact p
  | fr e => cases h; exact fr_shared (rv := .fr d) st p
  | br i =>
    obtain ⟨Av', P, h1, h2⟩ := p.ex
    have h : (match S'[i]? with | some (.sh d) => R.ok d S' | some (.ow d) => R.ok d (S'.set i (.sh d)) | _ => .bad) = R.ok d S'' := h
    split at h
    · rename_i e q
      cases h
      obtain ⟨v', h3, h4⟩ := P.st.sh i d q
      rw [h1] at h3; cases h3
      exact ⟨Av', P, h4⟩
    · rename_i e q
      cases h
      obtain ⟨p0, h3, h4, h5, h6⟩ := P.st.ow i _ d q rfl
      rw [show σ[i]? = some (some (.ref p0)) from h3] at h1; cases h1
      obtain ⟨P2, r⟩ := P.st.unown q h3
      exact ⟨_, P.trans P2, r⟩
    · cases h
theorem shr_exc {rv : RV} {S' S'' : SS} {e : D} : shr rv S' ≠ .exc e S'' := by
  cases rv with
  | sh d => exact fun h => nomatch h
  | fr d => exact fun h => nomatch h
  | br i =>
    intro h
    have h : (match S'[i]? with | some (.sh d) => R.ok d S' | some (.ow d) => R.ok d (S'.set i (.sh d)) | _ => .bad) = R.exc e S'' := h
    split at h <;> cases h
/-- a view: what is fresh may be shared -/
def RV.vw : RV → RV
  | .fr d => .sh d
  | r => r
theorem EPost.view {rv : RV} {S' : SS} {v : V} {H' : Hp} (st : StOk G Av S σ H) (p : EPost G Av S σ H rv S' v H') : EPost G Av S σ H rv.vw S' v H' := by
  cases rv with
  | sh d => exact p
  | fr d => exact fr_shared (rv := .fr d) st p
  | br i => exact p
end
end Eng

namespace Eng
open PySem PySem.Spec L2
open PyProof.Rows hiding St

/-- a call's end -/
inductive FO where
  | ok (fr : Bool) (d : D) (outs : List D) | exc (e : D) (outs : List D) | bad
/-- a def: which parameters it changes, what it does -/
structure FSig where
  md : List Bool
  m : List D → FO
/-- an operation's result: something that stands, something new -/
inductive RO where
  | sh (d : D) | nw (d : D)
def RO.rv : RO → RV
  | .sh d => .sh d
  | .nw d => if MutD d then .fr d else .sh d

/-- built-in functions -/
inductive BI where
  | len | int | abs | bool | str | repr | list | tuple | sorted | sum | min | max | any | all | dict
  deriving DecidableEq
/-- built-in methods that change nothing -/
inductive BM where
  | strSplit | strJoin | listIndex | tupIndex | listCount | dictGet1 | dictGet2
  deriving DecidableEq
/-- built-in methods that change a list or a dict -/
inductive MM where
  | append | pop | popAt | insert | extend | reverse | update | setdefault | remove | dpop
  deriving DecidableEq
/-- types asked for -/
inductive Ty where
  | int | bool | str | list | tuple | dict | cls (x : Str) (c : Nat)
  deriving DecidableEq
/-- targets -/
inductive Tg where
  | nm (i : Nat) | nil | cons (a b : Tg) | tup (l : Tg)

mutual
inductive CE where
  | non | bl (b : Bool) | int (i : Int) | str (x : Str)
  | var (i : Nat)
  | glob (x : Str) (d : D)
  | bin (op : Operator) (a b : CE)
  | neg (a : CE)
  | cmp (op : CmpOp) (a b : CE)
  | chain (op op' : CmpOp) (a b c : CE)
  | not (a : CE)
  | and_ (l : CL)
  | or_ (l : CL)
  | ite (c a b : CE)
  | tup (l : CL)
  | lst (l : CL)
  | dict0 (k : Bool)
  | sub (a b : CE)
  | noe
  | slc (a lo hi : CE)
  | rev (a : CE)
  | fld (a : CE) (f : Str) (cs : List Nat)
  | bi (b : BI) (l : CL)
  | bm (m : BM) (a : CE) (l : CL)
  | mm (m : MM) (i : Nat) (l : CL)
  | isi (a : CE) (ts : List Ty)
  | call (x : Str) (sg : FSig) (l : CL)
  | callk (x : Str) (ps : List Str) (sg : FSig) (l : CL) (ks : List Str) (kl : CL)
  | meth (c : Nat) (m : Str) (sg : FSig) (a : CE) (l : CL)
  | mk (c : Nat) (x : Str) (sg : FSig) (l : CL)
  | comp (elt : CE) (tg : Tg) (it : CI) (ifs : CL) (own : List Nat)
  | dic1 (a b : CE)
  | lset (a : CE)
  | lrg (tp : Bool) (it : CI)
inductive CL where
  | nil | cons (e : CE) (l : CL) | star (e : CE) (l : CL)
inductive CI where
  | val (e : CE) | rng1 (a : CE) | rng2 (a b : CE) | enum (a : CE) | zip (a b : CE)
end

/-- an argument: shared, or a slot's object that the callee may change -/
inductive AV where
  | sh (d : D) | io (i : Nat)

def deref (S : SS) : RV → Option D
  | .sh d => some d
  | .fr d => some d
  | .br i => dAt S i
def derefs (S : SS) : List RV → Option (List D)
  | [] => some []
  | r :: rs => (deref S r).bind fun d => (derefs S rs).map fun ds => d :: ds
def truthD : D → Option Bool
  | .non => some false
  | .bl b => some b
  | .int i => some (i != 0)
  | .str x => if x.length ≤ sizeLine then some ((x.length : Int) != 0) else none
  | .lst ds => some (!ds.isEmpty)
  | .tup ds => some (!ds.isEmpty)
  | _ => none

def avDs (S : SS) : List AV → Option (List D)
  | [] => some []
  | .sh d :: r => (avDs S r).map fun ds => d :: ds
  | .io i :: r => match (S[i]?).bind SV.mu with
    | some d => (avDs S r).map fun ds => d :: ds
    | _ => none
def avIos : List AV → List Nat
  | [] => []
  | .sh _ :: r => avIos r
  | .io i :: r => i :: avIos r
/-- the object of a slot is another now -/
def setAt (S : SS) (i : Nat) (d : D) : Option SS := match S[i]? with
  | some (.ow _) => some (S.set i (.ow d))
  | some (.io _) => some (S.set i (.io d))
  | _ => none
def setIos (S : SS) : List Nat → List D → Option SS
  | [], [] => some S
  | i :: is, d :: ds => if MutD d then (setAt S i d).bind fun S' => setIos S' is ds else none
  | _, _ => none
def okRes (fr : Bool) (d : D) : Bool := !fr || MutD d
def AV.isIo : AV → Bool
  | .sh _ => false
  | .io _ => true
def callSem (sg : FSig) (as : List AV) (S : SS) : R RV := match avDs S as with
  | none => .bad
  | some ds => if (avIos as).Nodup ∧ as.map AV.isIo = sg.md then match sg.m ds with
    | .ok fr d outs => match setIos S (avIos as) outs with
      | some S' => .ok (if fr then .fr d else .sh d) S'
      | none => .bad
    | .exc e outs => match setIos S (avIos as) outs with
      | some S' => .exc e S'
      | none => .bad
    | .bad => .bad
    else .bad

/-- a slot that may be given another value -/
def freeAt (S : SS) (i : Nat) : Bool := match S[i]? with
  | some .no => true
  | some (.sh _) => true
  | some (.ow _) => true
  | _ => false
/-- a target takes a shared value -/
def assign : Tg → D → SS → Option SS
  | .nm i, d, S => if freeAt S i then some (S.set i (.sh d)) else none
  | .tup l, .tup ds, S => assigns l ds S
  | _, _, _ => none
where assigns : Tg → List D → SS → Option SS
  | .nil, [], S => some S
  | .cons a b, d :: ds, S => (assign a d S).bind (assigns b ds)
  | _, _, _ => none
def wipeS (S : SS) : List Nat → SS
  | [] => S
  | v :: vs => (wipeS S vs).set v .no
/-- S, but the slots vs as in T -/
def backS (T S : SS) : List Nat → SS
  | [] => S
  | v :: vs => (backS T S vs).set v ((T[v]?).getD .no)
def loopC (step : D → SS → R (Option D)) : List D → List D → SS → R (List D)
  | [], acc, S => .ok acc S
  | x :: xs, acc, S => (step x S).bind fun y S' => match y with
    | some y => if acc.length < sizeLine then loopC step xs (acc ++ [y]) S' else .bad
    | none => loopC step xs acc S'
/-- an owned slot is locked; whether it was -/
def lock (S : SS) (i : Nat) : R (List D × Option Nat) := match S[i]? with
  | some (.ow (.lst ds)) => .ok (ds, some i) (S.set i (.lk (.lst ds)))
  | some (.sh (.lst ds)) => .ok (ds, none) S
  | some (.sh (.tup ds)) => .ok (ds, none) S
  | some (.lk (.lst ds)) => .ok (ds, none) S
  | _ => .bad
def unlock (S : SS) : Option Nat → SS
  | none => S
  | some i => match S[i]? with
    | some (.lk d) => S.set i (.ow d)
    | _ => S
def itemsOf (rv : RV) (S : SS) : R (List D × Option Nat) := match rv with
  | .sh (.lst ds) => .ok (ds, none) S
  | .sh (.tup ds) => .ok (ds, none) S
  | .fr (.lst ds) => .ok (ds, none) S
  | .br i => lock S i
  | _ => .bad
def rangeD (lo : Int) : Nat → List D
  | 0 => []
  | n + 1 => rangeD lo n ++ [.int (lo + n)]
/-- the parameters' values: the positional ones, then by keywords -/
def kwG {α : Type} (ps ks : List Str) (us ws : List α) : List α := us ++ (ps.drop us.length).filterMap fun p => (ks.zip ws).lookup p
end Eng

namespace Eng
open PySem PySem.Spec L2
open PyProof.Rows hiding St

mutual
def toP : D → Option PyData
  | .non => some .none
  | .bl b => some (.bool b)
  | .int i => some (.int i)
  | .str x => some (.str x)
  | .lst ds => (toPs ds).map .list
  | .tup ds => (toPs ds).map .tuple
  | .dic _ _ => none
  | .obj _ _ _ => none
  | .scr _ => none
def toPs : List D → Option (List PyData)
  | [] => some []
  | d :: ds => (toP d).bind fun p => (toPs ds).map fun ps => p :: ps
end
def eqD (d e : D) : Option Bool := (toP d).bind fun p => (toP e).bind fun q => if SeqAt.shaped p && SeqAt.shaped q then some (PyData.eqv p q) else none

def flatD : D → Bool
  | .non => true
  | .bl _ => true
  | .int _ => true
  | .str _ => true
  | _ => false
/-- == of flat values -/
def eqF : D → D → Bool
  | .non, .non => true
  | .bl a, .bl b => a == b
  | .bl t, .int j => (if t then 1 else 0) == j
  | .int j, .bl t => j == (if t then 1 else 0)
  | .int a, .int b => a == b
  | .str a, .str b => a == b
  | _, _ => false
def inFlat (d : D) (ds : List D) : Option Bool := if flatD d && ds.all flatD then some (ds.any fun e => eqF e d) else none

def smallB (i : Int) : Bool := decide (-(2 ^ 64) < i) && decide (i < 2 ^ 64)
def binD (op : Operator) (d e : D) : Option RO := match op with
  | .Add => match d, e with
    | .int i, .int j => some (.sh (.int (i + j)))
    | .str x, .str y => if x.length + y.length ≤ sizeLine then some (.sh (.str (x ++ y))) else none
    | .lst xs, .lst ys => if xs.length + ys.length ≤ sizeLine then some (.nw (.lst (xs ++ ys))) else none
    | .tup xs, .tup ys => if xs.length + ys.length ≤ sizeLine then
        (if xs.isEmpty then some (.sh (.tup ys)) else if ys.isEmpty then some (.sh (.tup xs)) else some (.nw (.tup (xs ++ ys)))) else none
    | _, _ => none
  | .Sub => match d, e with
    | .int i, .int j => some (.sh (.int (i - j)))
    | _, _ => none
  | .Mult => match d, e with
    | .int i, .int j => if smallB i || smallB j then some (.sh (.int (i * j))) else none
    | .lst xs, .int k => if decide (-(2 ^ 63) ≤ k) && decide (k < 2 ^ 63) && decide (xs.length * k.toNat ≤ sizeLine) then some (.nw (.lst (List.replicate k.toNat xs).flatten)) else none
    | _, _ => none
  | .FloorDiv => match d, e with
    | .int i, .int j => if decide (0 < j) && decide (j.natAbs.log2 < 9000) then some (.sh (.int (i / j))) else none
    | _, _ => none
  | .Mod => match d, e with
    | .int i, .int j => if 0 < j then some (.sh (.int (i % j))) else none
    | _, _ => none
  | .Pow => match d, e with
    | .int i, .int j => if decide (0 ≤ j) && decide (j ≤ 1000000) && decide (i.natAbs < 2 ^ 64) then some (.sh (.int (i ^ j.toNat))) else none
    | _, _ => none
  | _ => none
def bo (b : Bool) : RO := .sh (.bl b)
def isNon : D → Bool
  | .non => true
  | _ => false
def cmpD (op : CmpOp) (d e : D) : Option RO := match op with
  | .Eq => (eqD d e).map bo
  | .NotEq => (eqD d e).map fun b => bo (!b)
  | .Lt => match d, e with
    | .int i, .int j => some (bo (decide (i < j)))
    | _, _ => none
  | .LtE => match d, e with
    | .int i, .int j => some (bo (decide (i ≤ j)))
    | _, _ => none
  | .Gt => match d, e with
    | .int i, .int j => some (bo (decide (j < i)))
    | _, _ => none
  | .GtE => match d, e with
    | .int i, .int j => some (bo (decide (j ≤ i)))
    | _, _ => none
  | .Is => match e with
    | .non => some (bo (isNon d))
    | .bl b => match d with
      | .bl a => some (bo (decide (a = b)))
      | _ => none
    | _ => none
  | .IsNot => match e with
    | .non => some (bo (!isNon d))
    | .bl b => match d with
      | .bl a => some (bo (!decide (a = b)))
      | _ => none
    | _ => none
  | .In => match e with
    | .lst ds => (inFlat d ds).map bo
    | .tup ds => (inFlat d ds).map bo
    | _ => none
  | .NotIn => match e with
    | .lst ds => (inFlat d ds).map fun b => bo (!b)
    | .tup ds => (inFlat d ds).map fun b => bo (!b)
    | _ => none
/-- the i-th item, from the end below 0 -/
def ixD (ds : List D) (i : Int) : Option D := atI ds i
def subD (d e : D) : Option RO := match d, e with
  | .lst ds, .int i => (ixD ds i).map .sh
  | .tup ds, .int i => (ixD ds i).map .sh
  | .str x, .int i => if x.length ≤ sizeLine then (atI x.cps.toList i).map fun c => .sh (.str ⟨#[c]⟩) else none
  | _, _ => none
def cutD (ds : List D) (lo hi : Option Int) : List D := (ds.drop (HT.sIx ds.length 0 lo)).take (HT.sIx ds.length ds.length hi - HT.sIx ds.length 0 lo)
def slcD (l h : Option Int) (d : D) : Option RO := match d with
  | .lst ds => some (.nw (.lst (cutD ds l h)))
  | .scr ds => some (.nw (.lst (cutD ds l h)))
  | .tup ds => if HT.sIx ds.length 0 l = 0 ∧ HT.sIx ds.length ds.length h = ds.length then some (.sh (.tup ds)) else some (.nw (.tup (cutD ds l h)))
  | .str x => if x.length ≤ sizeLine then some (.sh (.str (cutS x l h))) else none
  | _ => none
def lenD : D → Option Nat
  | .lst ds => some ds.length
  | .tup ds => some ds.length
  | .str x => if x.length ≤ sizeLine then some x.length else none
  | _ => none
def allB : List D → Option (List Bool)
  | [] => some []
  | .bl b :: r => (allB r).map fun bs => b :: bs
  | _ :: _ => none
def allI : List D → Option (List Int)
  | [] => some []
  | .int i :: r => (allI r).map fun is => i :: is
  | _ :: _ => none
def keyD : D → Option Key
  | .int i => some (.inl i)
  | .str x => some (.inr x)
  | _ => none
def pairD : D → Option (Key × D)
  | .tup [k, v] => (keyD k).map fun k => (k, v)
  | _ => none
def pairsD : List D → Option (List (Key × D))
  | [] => some []
  | d :: ds => (pairD d).bind fun p => (pairsD ds).map fun ps => p :: ps
def putG {α : Type} (kvs : List (Key × α)) (k : Key) (v : α) : List (Key × α) :=
  if (kvs.any fun kv => decide (kv.1 = k)) = true
    then kvs.map fun kv => if kv.1 = k then (kv.1, v) else kv
    else kvs ++ [(k, v)]
def mergeG {α : Type} (kvs more : List (Key × α)) : List (Key × α) := more.foldl (fun acc kv => putG acc kv.1 kv.2) kvs
def dicG (kvs : List (Key × D)) : D := .dic (kvs.map fun kv => kD kv.1) (kvs.map (·.2))
def keysD : List D → Option (List Key)
  | [] => some []
  | d :: ds => (keyD d).bind fun p => (keysD ds).map fun ps => p :: ps
/-- the members of a list of ints, each once -/
def dedupI (ns : List Int) : List Int := ns.foldl (fun acc k => if acc.any (· == k) then acc else acc ++ [k]) []
/-- repr of data -/
def reprD (d : D) : Option RO := (toP d).bind fun p => if PyData.showable p && decide (p.shown.length ≤ sizeLine) && decide (p.depth ≤ 60) then some (.sh (.str p.shown)) else none
def bi1 (b : BI) (d : D) : Option RO := match b with
  | .len => (lenD d).map fun n : Nat => RO.sh (.int (n : Int))
  | .int => match d with
    | .int i => some (.sh (.int i))
    | .bl b => some (.sh (.int (if b then 1 else 0)))
    | _ => none
  | .abs => match d with
    | .int i => some (.sh (.int (if i < 0 then -i else i)))
    | _ => none
  | .bool => match d with
    | .int i => some (bo (i != 0))
    | .bl b => some (bo b)
    | _ => none
  | .str => match d with
    | .int i => if i.natAbs.log2 < 1920 then some (.sh (.str (toString i))) else none
    | _ => none
  | .repr => reprD d
  | .list => match d with
    | .lst xs => some (.nw (.lst xs))
    | .tup xs => some (.nw (.lst xs))
    | .dic ks vs => if ks.length = vs.length then (keysD ks).map fun _ => RO.nw (.lst ks) else none
    | _ => none
  | .dict => match d with
    | .lst xs => (pairsD xs).map fun ps => .nw (dicG (mergeG [] ps))
    | _ => none
  | .tuple => match d with
    | .lst xs => some (.nw (.tup xs))
    | .tup xs => some (.sh (.tup xs))
    | _ => none
  | .all => match d with
    | .lst xs => (allB xs).map fun bs => bo (bs.all id)
    | _ => none
  | .any => match d with
    | .lst xs => (allB xs).map fun bs => bo (bs.any id)
    | _ => none
  | .sum => match d with
    | .lst xs => (allI xs).map fun is => .sh (.int is.sum)
    | _ => none
  | _ => none
def biD (b : BI) (ds : List D) : Option RO := match ds with
  | [d] => bi1 b d
  | _ => none
/-- the type's name -/
def tyD : D → Option String
  | .non => some "NoneType"
  | .bl _ => some "bool"
  | .int _ => some "int"
  | .str _ => some "str"
  | .lst _ => some "list"
  | .tup _ => some "tuple"
  | .dic _ _ => some "dict"
  | _ => none
def Ty.nm : Ty → String
  | .int => "int"
  | .bool => "bool"
  | .str => "str"
  | .list => "list"
  | .tuple => "tuple"
  | .dict => "dict"
  | .cls _ _ => ""
/-- whether d is of the type -/
def isT (d : D) (t : Ty) : Option Bool := match d with
  | .non => some false
  | .bl _ => some (match t with | .int => true | .bool => true | _ => false)
  | .int _ => some (match t with | .int => true | _ => false)
  | .str _ => some (match t with | .str => true | _ => false)
  | .lst _ => some (match t with | .list => true | _ => false)
  | .tup _ => some (match t with | .tuple => true | _ => false)
  | .dic _ _ => some (match t with | .dict => true | _ => false)
  | _ => none
def isTs (ts : List Ty) (d : D) : Option RO := match ts with
  | [] => some (bo false)
  | t :: ts => match isT d t with
    | some true => some (bo true)
    | some false => isTs ts d
    | none => none
/-- a method that changes d: the result, d behind it -/
def mmD (m : MM) (d : D) (as : List D) : Option (D × D) := match m, d, as with
  | .append, .lst xs, [y] => if xs.length < sizeLine then some (.non, .lst (xs ++ [y])) else none
  | .pop, .lst xs, [] => (xs[xs.length - 1]?).map fun y => (y, .lst xs.dropLast)
  | .popAt, .lst xs, [.int i] => if decide (-(2 ^ 63) ≤ i) && decide (i < 2 ^ 63) then (seqIndex? i xs.length).bind fun k => (xs[k]?).map fun y => (y, .lst (xs.eraseIdx k)) else none
  | .extend, .lst xs, [.lst ys] => if xs.length + ys.length ≤ sizeLine then some (.non, .lst (xs ++ ys)) else none
  | .reverse, .lst xs, [] => some (.non, .lst xs.reverse)
  | _, _, _ => none
def bmD (m : BM) (d : D) (as : List D) : Option RO := none
/-- len(set(d)) -/
def lsetD (d : D) : Option RO := match d with
  | .lst ds => (allI ds).bind fun ns => if ns.length < 64 then some (.sh (.int ((dedupI ns).length : Nat))) else none
  | .tup ds => (allI ds).bind fun ns => if ns.length < 64 then some (.sh (.int ((dedupI ns).length : Nat))) else none
  | _ => none
def dic1D (k v : D) : Option RO := (keyD k).map fun k => .nw (dicG [(k, v)])
def negD : D → Option RO
  | .int i => some (.sh (.int (-i)))
  | _ => none
end Eng

namespace Eng
open PySem PySem.Spec L2
open PyProof.Rows hiding St

abbrev KE := SS → R RV
abbrev KT := SS → R Bool
def prim (o : Option RO) (S : SS) : R RV := match o with
  | some ro => .ok ro.rv S
  | none => .bad
def kC (d : D) : KE := fun S => .ok (.sh d) S
def kVar (i : Nat) : KE := fun S => match S[i]? with
  | some (.sh d) => .ok (.sh d) S
  | some s => if s.dat.isSome then .ok (.br i) S else .bad
  | none => .bad
def kUn (f : D → Option RO) (p : KE) : KE := fun S => (p S).bind fun r S1 => prim ((deref S1 r.vw).bind f) S1
def kBin (f : D → D → Option RO) (p q : KE) : KE := fun S => (p S).bind fun r S1 => (q S1).bind fun t S2 => prim ((deref S2 r.vw).bind fun d => (deref S2 t.vw).bind fun e => f d e) S2
def kTri (f : D → D → D → Option RO) (p q o : KE) : KE := fun S => (p S).bind fun r S1 => (q S1).bind fun t S2 => (o S2).bind fun u S3 =>
  prim ((deref S3 r.vw).bind fun d => (deref S3 t.vw).bind fun e => (deref S3 u.vw).bind fun g => f d e g) S3
/-- a part of a slice -/
def kPart (noe : Bool) (q : KE) : SS → R (Option Int) := if noe then fun S => .ok none S else fun S => (q S).bind fun r S1 => match r with
  | .sh (.int i) => .ok (some i) S1
  | _ => .bad
def kSlc (p : KE) (q o : SS → R (Option Int)) : KE := fun S => (p S).bind fun r S1 => (q S1).bind fun l S2 => (o S2).bind fun h S3 => prim ((deref S3 r.vw).bind (slcD l h)) S3
/-- an expression as a test -/
def kTest (p : KE) : KT := fun S => (p S).bind fun r S1 => match (deref S1 r.vw).bind truthD with
  | some b => .ok b S1
  | none => .bad
def boolOf (o : Option RO) : Option Bool := match o with
  | some (.sh (.bl b)) => some b
  | _ => none
/-- a op b op' c -/
def kChain (f g : D → D → Option RO) (p q o : KE) : KT := fun S => (p S).bind fun r S1 => (q S1).bind fun t S2 =>
  match boolOf ((deref S2 r.vw).bind fun d => (deref S2 t.vw).bind fun e => f d e) with
  | some true => (o S2).bind fun u S3 => (match boolOf ((deref S3 t.vw).bind fun d => (deref S3 u.vw).bind fun e => g d e) with
    | some b => .ok b S3
    | none => .bad)
  | some false => .ok false S2
  | none => .bad
def kVal (p : KT) : KE := fun S => (p S).bind fun b S1 => .ok (.sh (.bl b)) S1
def kNot (p : KT) : KT := fun S => (p S).bind fun b S1 => .ok (!b) S1
def kIf (c : KT) (p q : KE) : KE := fun S => (c S).bind fun b S1 => if b then p S1 else q S1
def kIfT (c p q : KT) : KT := fun S => (c S).bind fun b S1 => if b then p S1 else q S1
/-- x and .. (or) as a value -/
def kAndV (isAnd : Bool) (p q : KE) : KE := fun S => (p S).bind fun r S1 => match (deref S1 r.vw).bind truthD with
  | some b => if b = isAnd then q S1 else .ok r.vw S1
  | none => .bad
def kAndT (isAnd : Bool) (p q : KT) : KT := fun S => (p S).bind fun b S1 => if b = isAnd then q S1 else .ok b S1
def kShr (p : KE) : SS → R D := fun S => (p S).bind shr
def kNil {α : Type} : SS → R (List α) := fun S => .ok [] S
def kCons {α : Type} (p : SS → R α) (q : SS → R (List α)) : SS → R (List α) := fun S => (p S).bind fun x S1 => (q S1).bind fun xs S2 => .ok (x :: xs) S2
def kVw (p : KE) : SS → R RV := fun S => (p S).bind fun r S1 => .ok r.vw S1
def seqOf : D → Option (List D)
  | .lst ds => some ds
  | .tup ds => some ds
  | _ => none
/-- *e in a display: its items -/
def kStar (p : KE) (q : SS → R (List D)) : SS → R (List D) := fun S => (p S).bind fun r S1 => match (deref S1 r.vw).bind seqOf with
  | some xs => (q S1).bind fun ys S2 => .ok (xs ++ ys) S2
  | none => .bad
def kTup (q : SS → R (List D)) : KE := fun S => (q S).bind fun ds S1 => if ds.length ≤ sizeLine then .ok (.sh (.tup ds)) S1 else .bad
def kLst (q : SS → R (List D)) : KE := fun S => (q S).bind fun ds S1 => if ds.length ≤ sizeLine then .ok (.fr (.lst ds)) S1 else .bad
def kBi (f : List D → Option RO) (q : SS → R (List RV)) : KE := fun S => (q S).bind fun rs S1 => prim ((derefs S1 rs).bind f) S1
/-- o.m(..), nothing changes -/
def kBm (f : D → List D → Option RO) (p : KE) (q : SS → R (List RV)) : KE := fun S => (p S).bind fun r S1 => (q S1).bind fun rs S2 => prim ((deref S2 r.vw).bind fun d => (derefs S2 rs).bind fun es => f d es) S2
def isSeqL : D → Bool
  | .lst _ => true
  | _ => false
/-- the slot's object is changed by a built-in method -/
def kMm (ty : D → Bool) (f : D → List D → Option (D × D)) (i : Nat) (q : SS → R (List D)) : KE := fun S => match (S[i]?).bind SV.dat with
  | some d0 => if ty d0 then (q S).bind fun es S1 => (match (S1[i]?).bind SV.mu with
    | some d => (match f d es with
      | some (y, d') => (match setAt S1 i d' with
        | some S2 => .ok (.sh y) S2
        | none => .bad)
      | none => .bad)
    | none => .bad) else .bad
  | none => .bad
def kMd (io : Option Nat) (p : KE) (m : Bool) : SS → R AV := fun S => if m then (match io with
    | some i => if ((S[i]?).bind SV.mu).isSome then .ok (.io i) S else .bad
    | none => .bad) else (kShr p S).bind fun d S1 => .ok (.sh d) S1
def kCall (sg : FSig) (q : List Bool → SS → R (List AV)) : KE := fun S => (q sg.md S).bind fun as S1 => callSem sg as S1
def clsOf : D → Option (Nat × List Str)
  | .obj c ns _ => some (c, ns)
  | _ => none
def avD (S : SS) : AV → Option D
  | .sh d => some d
  | .io i => dAt S i
def kMeth (c : Nat) (m : Str) (sg : FSig) (r : Bool → SS → R AV) (q : List Bool → SS → R (List AV)) : KE := fun S => (r (sg.md.headD false) S).bind fun a S1 => match (avD S1 a).bind clsOf with
  | some (c', ns) => if c' = c ∧ m ∉ ns then (q sg.md.tail S1).bind fun as S2 => callSem sg (a :: as) S2 else .bad
  | none => .bad
/-- C(..): sg is __init__ 's -/
def kMk (c : Nat) (sg : FSig) (q : List Bool → SS → R (List AV)) : KE := fun S => (q sg.md.tail S).bind fun as S1 => match avDs S1 as with
  | none => .bad
  | some ds => if (avIos as).Nodup ∧ sg.md.headD false = true then match sg.m (.obj c [] [] :: ds) with
    | .ok false .non (o :: outs) => (match setIos S1 (avIos as) outs with
      | some S2 => if MutD o then .ok (.fr o) S2 else .bad
      | none => .bad)
    | .exc e (_ :: outs) => (match setIos S1 (avIos as) outs with
      | some S2 => .exc e S2
      | none => .bad)
    | _ => .bad
    else .bad
def fldD (cs : List Nat) (f : Str) : D → Option RO
  | .obj c ns vs => if c ∈ cs ∧ ns.length = vs.length then ((ns.zip vs).lookup f).map .sh else none
  | _ => none
def R.noexc {α : Type} : R α → R α
  | .exc _ _ => .bad
  | r => r
def turnC (elt : KE) (tg : Tg) (ifs : KT) (own : List Nat) (x : D) (S : SS) : R (Option D) := match assign tg x (wipeS S own) with
  | none => .bad
  | some S2 => (ifs S2).bind fun b S3 => if b then (kShr elt S3).bind fun y S5 => .ok (some y) (backS S S5 own) else .ok none (backS S S3 own)
def kComp (elt : KE) (tg : Tg) (it : SS → R (List D × Option Nat)) (ifs : KT) (own : List Nat) : KE := fun S => (it S).bind fun xu S1 =>
  ((loopC (turnC elt tg ifs own) xu.1 [] S1).bind fun ys S2 => .ok (.fr (.lst ys)) (unlock S2 xu.2)).noexc
def kYes : KT := fun S => .ok true S
/-- {a: b} -/
def kDic1 (p q : KE) : KE := fun S => (p S).bind fun r S1 => (kShr q S1).bind fun e S2 => prim ((deref S2 r.vw).bind fun d => dic1D d e) S2
/-- f(.., k = ..) -/
def kCallk (sg : FSig) (ps ks : List Str) (n : Nat) (q o : SS → R (List D)) : KE := fun S => (q S).bind fun ds S1 => (o S1).bind fun es S2 => if ds.length = n ∧ es.length = ks.length then callSem sg ((kwG ps ks ds es).map .sh) S2 else .bad
def rgLst (tp : Bool) (ds : List D) : RV := if tp then .sh (.tup ds) else .fr (.lst ds)
def kLrg (tp : Bool) (it : SS → R (List D × Option Nat)) : KE := fun S => (it S).bind fun xu S1 => if xu.1.length ≤ 16777216 then .ok (rgLst tp xu.1) S1 else .bad
/-- what is walked -/
def kItv (p : KE) : SS → R (List D × Option Nat) := fun S => (p S).bind itemsOf
def rngOk (i j : Int) : Bool := decide (-(2 ^ 62) ≤ i) && decide (i < 2 ^ 62) && decide (-(2 ^ 62) ≤ j) && decide (j < 2 ^ 62)
def kRng1 (p : KE) : SS → R (List D × Option Nat) := fun S => (p S).bind fun r S1 => match deref S1 r.vw with
  | some (.int j) => if rngOk 0 j then .ok (rangeD 0 j.toNat, none) S1 else .bad
  | _ => .bad
def kRng2 (p q : KE) : SS → R (List D × Option Nat) := fun S => (p S).bind fun r S1 => (q S1).bind fun t S2 => match deref S2 r.vw, deref S2 t.vw with
  | some (.int i), some (.int j) => if rngOk i j then .ok (rangeD i (j - i).toNat, none) S2 else .bad
  | _, _ => .bad

structure EP where
  val : KE
  tst : KT
  io : Option Nat := none
structure LP where
  vw : SS → R (List RV)
  sh : SS → R (List D)
  an : Bool → KE
  tn : Bool → KT
  md : List Bool → SS → R (List AV)
def mkp (p : KE) : EP := ⟨p, kTest p, none⟩
def EP.md (p : EP) (m : Bool) : SS → R AV := kMd p.io p.val m

def CL.len : CL → Nat
  | .nil => 0
  | .cons _ l => l.len + 1
  | .star _ l => l.len + 1
def CE.isNoe : CE → Bool
  | .noe => true
  | _ => false
def revD : D → Option RO
  | .lst ds => some (.nw (.lst ds.reverse))
  | _ => none
mutual
def evc : CE → EP
  | .non => mkp (kC .non)
  | .bl b => mkp (kC (.bl b))
  | .int i => mkp (kC (.int i))
  | .str x => mkp (kC (.str x))
  | .var i => ⟨kVar i, kTest (kVar i), some i⟩
  | .glob _ d => mkp (kC d)
  | .bin op a b => mkp (kBin (binD op) (evc a).val (evc b).val)
  | .neg a => mkp (kUn negD (evc a).val)
  | .cmp op a b => mkp (kBin (cmpD op) (evc a).val (evc b).val)
  | .chain op op' a b c => ⟨kVal (kChain (cmpD op) (cmpD op') (evc a).val (evc b).val (evc c).val), kChain (cmpD op) (cmpD op') (evc a).val (evc b).val (evc c).val, none⟩
  | .not a => ⟨kVal (kNot (kTest (evc a).val)), kNot (evc a).tst, none⟩
  | .and_ l => ⟨(evl l).an true, (evl l).tn true, none⟩
  | .or_ l => ⟨(evl l).an false, (evl l).tn false, none⟩
  | .ite c a b => ⟨kIf (evc c).tst (evc a).val (evc b).val, kIfT (evc c).tst (evc a).tst (evc b).tst, none⟩
  | .tup l => mkp (kTup (evl l).sh)
  | .lst l => mkp (kLst (evl l).sh)
  | .dict0 _ => mkp (fun S => .ok (.fr (.dic [] [])) S)
  | .sub a b => mkp (kBin subD (evc a).val (evc b).val)
  | .noe => mkp (kC .non)
  | .slc a lo hi => mkp (kSlc (evc a).val (kPart lo.isNoe (evc lo).val) (kPart hi.isNoe (evc hi).val))
  | .rev a => mkp (kUn revD (evc a).val)
  | .fld a f cs => mkp (kUn (fldD cs f) (evc a).val)
  | .bi b l => mkp (kBi (biD b) (evl l).vw)
  | .bm m a l => mkp (kBm (bmD m) (evc a).val (evl l).vw)
  | .mm m i l => mkp (kMm isSeqL (mmD m) i (evl l).sh)
  | .isi a ts => mkp (kUn (isTs ts) (evc a).val)
  | .call _ sg l => mkp (kCall sg (evl l).md)
  | .callk _ ps sg l ks kl => mkp (kCallk sg ps ks l.len (evl l).sh (evl kl).sh)
  | .dic1 a b => mkp (kDic1 (evc a).val (evc b).val)
  | .lset a => mkp (kUn lsetD (evc a).val)
  | .lrg tp it => mkp (kLrg tp (evi it))
  | .meth c m sg a l => mkp (kMeth c m sg (evc a).md (evl l).md)
  | .mk c _ sg l => mkp (kMk c sg (evl l).md)
  | .comp elt tg it ifs own => mkp (kComp (evc elt).val tg (evi it) ((evl ifs).tn true) own)
def evl : CL → LP
  | .nil => ⟨kNil, kNil, fun _ _ => .bad, fun a => fun S => .ok a S, fun ms => if ms.isEmpty then kNil else fun _ => .bad⟩
  | .cons e .nil => ⟨kCons (kVw (evc e).val) kNil, kCons (kShr (evc e).val) kNil, fun _ => (evc e).val, fun _ => (evc e).tst, fun ms => match ms with
      | [m] => kCons ((evc e).md m) kNil
      | _ => fun _ => .bad⟩
  | .cons e l => ⟨kCons (kVw (evc e).val) (evl l).vw, kCons (kShr (evc e).val) (evl l).sh, fun a => kAndV a (evc e).val ((evl l).an a), fun a => kAndT a (evc e).tst ((evl l).tn a), fun ms => match ms with
      | m :: ms => kCons ((evc e).md m) ((evl l).md ms)
      | [] => fun _ => .bad⟩
  | .star e l => ⟨fun _ => .bad, kStar (evc e).val (evl l).sh, fun _ _ => .bad, fun _ _ => .bad, fun _ _ => .bad⟩
def evi : CI → SS → R (List D × Option Nat)
  | .val e => kItv (evc e).val
  | .rng1 a => kRng1 (evc a).val
  | .rng2 a b => kRng2 (evc a).val (evc b).val
  | .enum a => fun _ => .bad
  | .zip a b => fun _ => .bad
end

/-- a statement's end -/
inductive F where
  | nx (S : SS) | rt (fr : Bool) (d : D) (S : SS) | bk (S : SS) | ct (S : SS) | exc (e : D) (S : SS) | bad
def R.toF {α : Type} : R α → (α → SS → F) → F
  | .ok a S, f => f a S
  | .exc e S, _ => .exc e S
  | .bad, _ => .bad
def F.seq : F → (SS → F) → F
  | .nx S, f => f S
  | r, _ => r
/-- a value that may be stored -/
def cap (rv : RV) (S : SS) : R RV := match rv with
  | .br i => (shr (.br i) S).bind fun d S1 => .ok (.sh d) S1
  | r => .ok r S
def RV.sv : RV → SV
  | .sh d => .sh d
  | .fr d => .ow d
  | .br _ => .no
/-- a name takes a value -/
def bindV (i : Nat) (rv : RV) (S : SS) : F := (cap rv S).toF fun r S1 => if freeAt S1 i then .nx (S1.set i r.sv) else .bad
def asgV (tg : Tg) (rv : RV) (S : SS) : F := match tg with
  | .nm i => bindV i rv S
  | t => (shr rv S).toF fun d S1 => match assign t d S1 with
    | some S2 => .nx S2
    | none => .bad
def parV (i j : Nat) (r t : RV) (S : SS) : F := (cap r S).toF fun r S1 => (cap t S1).toF fun t S2 => if freeAt S2 i && freeAt S2 j && i != j then .nx ((S2.set i r.sv).set j t.sv) else .bad
def retV (rv : RV) (S : SS) : F := match rv with
  | .sh d => .rt false d S
  | .fr d => .rt true d S
  | .br i => match S[i]? with
    | some (.ow d) => .rt true d (S.set i .no)
    | some (.sh d) => .rt false d S
    | _ => .bad
def forF (tg : Tg) (b : SS → F) : List D → SS → F
  | [], S => .nx S
  | x :: xs, S => match assign tg x S with
    | none => .bad
    | some S1 => match b S1 with
      | .nx S2 => forF tg b xs S2
      | .ct S2 => forF tg b xs S2
      | .bk S2 => .nx S2
      | r => r
def whlF (c : KT) (b : SS → F) : Nat → SS → F
  | 0, _ => .bad
  | n + 1, S => (c S).toF fun k S1 => if k then (match b S1 with
      | .nx S2 => whlF c b n S2
      | .ct S2 => whlF c b n S2
      | .bk S2 => .nx S2
      | r => r) else .nx S1
def unlockF (u : Option Nat) : F → F
  | .nx S => .nx (unlock S u)
  | r => r
def setixD (d i e : D) : Option D := match d, i with
  | .lst ds, .int k => (ixN ds.length k).map fun n => .lst (ds.set n e)
  | _, _ => none
mutual
inductive CS where
  | expr (e : CE) | asg (tg : Tg) (e : CE) | par (i j : Nat) (a b : CE) | setix (i : Nat) (ix e : CE) | setf (i : Nat) (f : Str) (c : Nat) (e : CE)
  | ifs (c : CE) (a b : CB) | for_ (tg : Tg) (it : CI) (b : CB) | whl (fuel : Nat) (c : CE) (b : CB) | ret (e : CE) | retn | pass | brk | cnt | never
inductive CB where
  | nil | cons (s : CS) (b : CB)
end
/-- o.f = y: the fields in the order of their first stores -/
def putN (f : Str) : List Str → List Str
  | [] => [f]
  | n :: ns => if n = f then n :: ns else n :: putN f ns
def putD (f : Str) (y : D) : List Str → List D → List D
  | [], _ => [y]
  | n :: ns, v :: vs => if n = f then y :: vs else v :: putD f y ns vs
  | _ :: _, [] => [y]
def setfD (f : Str) (c : Nat) (y : D) : D → Option D
  | .obj c' ns vs => if c' = c ∧ ns.length = vs.length ∧ ns.length < 1000 then some (.obj c' (putN f ns) (putD f y ns vs)) else none
  | _ => none
mutual
def exs : CS → SS → F
  | .expr e, S => ((evc e).val S).toF fun _ S1 => .nx S1
  | .asg tg e, S => ((evc e).val S).toF fun r S1 => asgV tg r S1
  | .par i j a b, S => ((evc a).val S).toF fun r S1 => ((evc b).val S1).toF fun t S2 => parV i j r t S2
  | .setix i ix e, S => ((kShr (evc e).val) S).toF fun y S1 => if ((S1[i]?).bind SV.dat).isSome then ((kVw (evc ix).val) S1).toF fun k S2 => (match (S2[i]?).bind SV.mu, deref S2 k with
      | some d, some n => (match (setixD d n y).bind (setAt S2 i) with
        | some S3 => .nx S3
        | none => .bad)
      | _, _ => .bad) else .bad
  | .setf i f c e, S => ((kShr (evc e).val) S).toF fun y S1 => (match (S1[i]?).bind SV.mu with
      | some d => (match (setfD f c y d).bind (setAt S1 i) with
        | some S2 => .nx S2
        | none => .bad)
      | none => .bad)
  | .ifs c a b, S => ((evc c).tst S).toF fun k S1 => if k then exb a S1 else exb b S1
  | .for_ tg it b, S => (evi it S).toF fun xu S1 => unlockF xu.2 (forF tg (exb b) xu.1 S1)
  | .whl fuel c b, S => whlF (evc c).tst (exb b) fuel S
  | .ret e, S => ((evc e).val S).toF fun r S1 => retV r S1
  | .retn, S => .rt false .non S
  | .pass, S => .nx S
  | .brk, S => .bk S
  | .cnt, S => .ct S
  | .never, S => .bad
def exb : CB → SS → F
  | .nil, S => .nx S
  | .cons s b, S => (exs s S).seq (exb b)
end
end Eng

namespace Eng
open PySem PySem.Spec L2
open PyProof.Rows hiding St

/-- behind an exception: its class, its fields -/
structure XPost (G : Gs) (Av : Addr → Prop) (S : SS) (σ : St) (H : Hp) (e : D) (S' : SS) (cls : Value) (dx : Option Addr) (H' : Hp) : Prop where
  ex : ∃ Av', Post G Av S σ H Av' S' H' ∧ ∃ c ns ds, e = .obj c ns ds ∧ cls = .ref (G.c c) ∧ ∃ a vs, dx = some a ∧ ¬ Av' a ∧ H' a = some (.xd (ns.zip vs)) ∧ ns.length = vs.length ∧ Reps G Av' H' ds vs

section
variable (G : Gs) (W : WX)
def RdE (r : R RV) (Av : Addr → Prop) (S : SS) (σ : St) (H : Hp) (Q : VK) : Prop := match r with
  | .ok rv S' => ∀ v H', EPost G Av S σ H rv S' v H' → Q v H'
  | .exc e S' => ∀ cls d H', XPost G Av S σ H e S' cls d H' → W cls d σ H'
  | .bad => False
def tE (f : KE) : TE := fun σ H Q => ∃ Av S, StOk G Av S σ H ∧ RdE G W (f S) Av S σ H Q
/-- a test -/
def RdT (r : R Bool) (Av : Addr → Prop) (S : SS) (σ : St) (H : Hp) (Q : Bool → Hp → Prop) : Prop := match r with
  | .ok b S' => ∀ Av' H', Post G Av S σ H Av' S' H' → Q b H'
  | .exc e S' => ∀ cls d H', XPost G Av S σ H e S' cls d H' → W cls d σ H'
  | .bad => False
def tT (f : KT) : TT := fun σ H Q => ∃ Av S, StOk G Av S σ H ∧ RdT G W (f S) Av S σ H Q
end

section
variable {G : Gs} {W : WX} {Av Av1 Av2 : Addr → Prop} {S S1 S2 : SS} {σ : St} {H H1 H2 : Hp} {Q : VK}
theorem Post.back_none (p : Post G Av S σ H Av1 S1 H1) {a : Addr} (h : H1 a = none) : H a = none := by
  cases e : H a with
  | none => rfl
  | some o => obtain ⟨o', h'⟩ := p.stay a o e; rw [h'] at h; cases h
theorem EPost.trans {rv : RV} {S2 : SS} {v : V} {H2 : Hp} (p : Post G Av S σ H Av1 S1 H1) (q : EPost G Av1 S1 σ H1 rv S2 v H2) : EPost G Av S σ H rv S2 v H2 := by
  obtain ⟨Av2, P, r⟩ := q.ex
  refine ⟨Av2, p.trans P, ?_⟩
  cases rv with
  | sh d => exact r
  | fr d => obtain ⟨a, h1, h2, h3, h4⟩ := r; exact ⟨a, h1, h2, p.back_none h3, h4⟩
  | br i => exact r
theorem XPost.trans {e : D} {S2 : SS} {c : Value} {d : Option Addr} {H2 : Hp} (p : Post G Av S σ H Av1 S1 H1) (q : XPost G Av1 S1 σ H1 e S2 c d H2) : XPost G Av S σ H e S2 c d H2 := by
  obtain ⟨Av2, P, r⟩ := q.ex
  exact ⟨Av2, p.trans P, r⟩
theorem RdE.trans {r : R RV} (p : Post G Av S σ H Av1 S1 H1) (h : RdE G W r Av S σ H Q) : RdE G W r Av1 S1 σ H1 Q := by
  cases r with
  | ok rv S' => exact fun v H' q => h v H' (q.trans p)
  | exc e S' => exact fun c d H' q => h c d H' (q.trans p)
  | bad => exact h
theorem RdT.trans {r : R Bool} {Q : Bool → Hp → Prop} (p : Post G Av S σ H Av1 S1 H1) (h : RdT G W r Av S σ H Q) : RdT G W r Av1 S1 σ H1 Q := by
  cases r with
  | ok b S' => exact fun Av' H' q => h Av' H' (p.trans q)
  | exc e S' => exact fun c d H' q => h c d H' (q.trans p)
  | bad => exact h
theorem RdE_mono {r : R RV} {Q' : VK} (k : ∀ v H', Q v H' → Q' v H') (h : RdE G W r Av S σ H Q) : RdE G W r Av S σ H Q' := by
  cases r with
  | ok rv S' => exact fun v H' q => k _ _ (h v H' q)
  | exc e S' => exact h
  | bad => exact h
/-- p first, then f -/
theorem tE_bind {p : KE} {f : RV → SS → R RV} {Q' : VK} (st : StOk G Av S σ H) (h : RdE G W ((p S).bind f) Av S σ H Q)
    (k : ∀ rv S1 v H1, EPost G Av S σ H rv S1 v H1 → RdE G W (f rv S1) Av S σ H Q → Q' v H1) : tE G W p σ H Q' := by
  refine ⟨Av, S, st, ?_⟩
  cases e : p S with
  | ok rv S1 => rw [e] at h; exact fun v H1 q => k rv S1 v H1 q h
  | exc x S1 => rw [e] at h; exact h
  | bad => rw [e] at h; exact h
theorem tE_bindT {p : KE} {f : RV → SS → R Bool} {Q : Bool → Hp → Prop} {Q' : VK} (st : StOk G Av S σ H) (h : RdT G W ((p S).bind f) Av S σ H Q)
    (k : ∀ rv S1 v H1, EPost G Av S σ H rv S1 v H1 → RdT G W (f rv S1) Av S σ H Q → Q' v H1) : tE G W p σ H Q' := by
  refine ⟨Av, S, st, ?_⟩
  cases e : p S with
  | ok rv S1 => rw [e] at h; exact fun v H1 q => k rv S1 v H1 q h
  | exc x S1 => rw [e] at h; exact h
  | bad => rw [e] at h; exact h
theorem tT_bind {p : KT} {f : Bool → SS → R RV} {Q' : Bool → Hp → Prop} (st : StOk G Av S σ H) (h : RdE G W ((p S).bind f) Av S σ H Q)
    (k : ∀ b S1 Av1 H1, Post G Av S σ H Av1 S1 H1 → RdE G W (f b S1) Av S σ H Q → Q' b H1) : tT G W p σ H Q' := by
  refine ⟨Av, S, st, ?_⟩
  cases e : p S with
  | ok b S1 => rw [e] at h; exact fun Av1 H1 q => k b S1 Av1 H1 q h
  | exc x S1 => rw [e] at h; exact h
  | bad => rw [e] at h; exact h
theorem tT_bindT {p : KT} {f : Bool → SS → R Bool} {Q Q' : Bool → Hp → Prop} (st : StOk G Av S σ H) (h : RdT G W ((p S).bind f) Av S σ H Q)
    (k : ∀ b S1 Av1 H1, Post G Av S σ H Av1 S1 H1 → RdT G W (f b S1) Av S σ H Q → Q' b H1) : tT G W p σ H Q' := by
  refine ⟨Av, S, st, ?_⟩
  cases e : p S with
  | ok b S1 => rw [e] at h; exact fun Av1 H1 q => k b S1 Av1 H1 q h
  | exc x S1 => rw [e] at h; exact h
  | bad => rw [e] at h; exact h

/-- a view of a value: what may change, or a shared one -/
def Vx (G : Gs) (Av : Addr → Prop) (H : Hp) (d : D) (v : V) : Prop := Vw G Av H d v ∧ (MutD d = false → Rep G Av H d v)
theorem Rep.vx {d : D} {v : V} (h : Rep G Av H d v) : Vx G Av H d v := ⟨h.vw, fun _ => h⟩
/-- a value that is carried, as a view -/
def VOk (G : Gs) (Av : Addr → Prop) (S : SS) (σ : St) (H : Hp) (v : V) (rv : RV) : Prop := match rv with
  | RV.sh d => Rep G Av H d v
  | .fr _ => False
  | .br i => σ[i]? = some (some v) ∧ Live S i
theorem VOk.on {v : V} {rv : RV} (h : VOk G Av S σ H v rv) (st : StOk G Av S σ H) (p : Post G Av S σ H Av1 S1 H1) : VOk G Av1 S1 σ H1 v rv := by
  cases rv with
  | sh d => exact p.rep st h
  | fr d => exact h
  | br i => exact ⟨h.1, p.live i h.2⟩
theorem VOk.vx {v : V} {rv : RV} {d : D} (h : VOk G Av S σ H v rv) (st : StOk G Av S σ H) (e : deref S rv = some d) : Vx G Av H d v := by
  cases rv with
  | sh d' => cases e; exact Rep.vx h
  | fr d' => exact h.elim
  | br i =>
    obtain ⟨v', h1, h2, h3⟩ := st.view (show dAt S i = some d from e)
    rw [h.1] at h1; cases h1
    exact ⟨h2, h3⟩
theorem EPost.vok {rv : RV} {S' : SS} {v : V} {H' : Hp} (st : StOk G Av S σ H) (p : EPost G Av S σ H rv S' v H') : ∃ Av', Post G Av S σ H Av' S' H' ∧ VOk G Av' S' σ H' v rv.vw := by
  obtain ⟨Av', P, q⟩ := (p.view st).ex
  refine ⟨Av', P, ?_⟩
  cases rv with
  | sh d => exact q
  | fr d => exact q
  | br i => exact q

/-- behind an operation -/
def PPost (G : Gs) (Av : Addr → Prop) (H : Hp) (ro : RO) (v : V) (H' : Hp) : Prop := Ext H H' ∧ match ro with
  | .sh d => Rep G Av H' d v
  | .nw d => ∃ p, v = .ref p ∧ H p = none ∧ (∃ o, H' p = some o) ∧ Vw G (fun a => Av a ∨ a = p) H' d v
theorem StOk.ext (st : StOk G Av S σ H) (e : Ext H H1) (s : ∀ a, Av1 a → Av a ∨ H a = none) (hd : ∀ a, Av1 a → ∃ o, H1 a = some o) (hl : ∀ a, Av a → Av1 a) : StOk G Av1 S σ H1 := by
  refine ⟨st.len, hd, fun i d q => ?_, fun i sv d q r => ?_, st.dis⟩
  · obtain ⟨v, h1, h2⟩ := st.sh i d q
    exact ⟨v, h1, h2.mono (fun a o q _ => e a o q) s⟩
  · obtain ⟨p, h1, h2, h3, h4⟩ := st.ow i sv d q r
    exact ⟨p, h1, hl p h2, h3.mono (fun a o q _ => e a o q) s (fun a o _ q => e a o q), h4⟩
theorem Post.ext (st : StOk G Av S σ H) (e : Ext H H1) (s : ∀ a, Av1 a → Av a ∨ H a = none) (hd : ∀ a, Av1 a → ∃ o, H1 a = some o) (hl : ∀ a, Av a → Av1 a) : Post G Av S σ H Av1 S H1 :=
  ⟨fun a o q _ => e a o q, fun a o q => ⟨o, e a o q⟩, s, fun a q _ => hl a q, fun _ q => q, fun _ q => q, fun _ q => q, fun _ d q => ⟨d, q⟩, fun _ _ q => q, st.ext e s hd hl⟩
theorem PPost.e {ro : RO} {v : V} (st : StOk G Av S σ H) (p : PPost G Av H ro v H1) : EPost G Av S σ H ro.rv S v H1 := by
  obtain ⟨e, p⟩ := p
  have dm : ∀ a, Av a → ∃ o, H1 a = some o := fun a q => let ⟨o, h⟩ := st.dom a q; ⟨o, e a o h⟩
  cases ro with
  | sh d => exact ⟨Av, Post.ext st e (fun a q => .inl q) dm (fun a q => q), p⟩
  | nw d =>
    obtain ⟨a, rfl, h1, h2, h3⟩ := p
    cases hm : MutD d with
    | true =>
      have er : (RO.nw d).rv = .fr d := by unfold RO.rv; simp [hm]
      rw [er]
      exact ⟨fun b => Av b ∨ b = a, Post.ext st e (fun b q => q.elim .inl fun z => .inr (z ▸ h1)) (fun b q => q.elim (dm b) fun z => z ▸ h2) (fun b q => .inl q), a, rfl, .inr rfl, h1, h3, hm⟩
    | false =>
      have er : (RO.nw d).rv = .sh d := by unfold RO.rv; simp [hm]
      rw [er]
      refine ⟨Av, Post.ext st e (fun a q => .inl q) dm (fun a q => q), (h3.less fun b q => .inl q).rep fun b z hb => ?_⟩
      cases z
      obtain ⟨o, z⟩ := st.dom _ hb
      rw [h1] at z; cases z
end

/-! ### operations by values -/
/-- what an operation on two values must do -/
def rB (G : Gs) (f : D → D → Option RO) : R2 := fun x y H Q => ∃ (Av : Addr → Prop) (d e : D) (ro : RO), (∀ a, Av a → ∃ o, H a = some o) ∧ Vx G Av H d x ∧ Vx G Av H e y ∧ f d e = some ro ∧ ∀ v H', PPost G Av H ro v H' → Q v H'
def rU1 (G : Gs) (f : D → Option RO) : V → Hp → VK → Prop := fun x H Q => ∃ (Av : Addr → Prop) (d : D) (ro : RO), (∀ a, Av a → ∃ o, H a = some o) ∧ Vx G Av H d x ∧ f d = some ro ∧ ∀ v H', PPost G Av H ro v H' → Q v H'

section
variable {X : Cx} {G : Gs} {W : WX} {a b c : Expr} {pos : Pos} {p q o : KE}
theorem PE_imp {e : Expr} {t t' : TE} (h : PE X e t') (k : ∀ σ H Q, t σ H Q → t' σ H Q) : PE X e t := ⟨fun pins s σ H Q I w => h.run pins s σ H Q I (k σ H Q w)⟩
theorem PT_imp {e : Expr} {t t' : TT} (h : PT X e t') (k : ∀ σ H Q, t σ H Q → t' σ H Q) : PT X e t := ⟨fun pins s σ H Q I w => h.run pins s σ H Q I (k σ H Q w)⟩
theorem prim_some {G : Gs} {W : WX} {Av : Addr → Prop} {S S1 : SS} {σ : St} {H : Hp} {Q : VK} {o : Option RO} (h : RdE G W (prim o S1) Av S σ H Q) : ∃ ro, o = some ro ∧ RdE G W (.ok ro.rv S1) Av S σ H Q := by
  cases o with
  | none => exact h.elim
  | some ro => exact ⟨ro, rfl, h⟩
theorem tri_bin {f : D → D → Option RO} {σ : St} {H : Hp} {Q : VK} (h : tE G W (kBin f p q) σ H Q) : tOp (rB G f) (tE G W p) (tE G W q) σ H Q := by
  obtain ⟨Av, S, st, h⟩ := h
  refine tE_bind st h fun r S1 v H1 P1 h1 => ?_
  obtain ⟨Av1, P1, v1⟩ := P1.vok st
  refine tE_bind P1.st (h1.trans P1) fun t S2 u H2 P2 h2 => ?_
  obtain ⟨Av2, P2, u2⟩ := P2.vok P1.st
  obtain ⟨ro, e, h2⟩ := prim_some (h2.trans P2)
  have v2 := v1.on P1.st P2
  obtain ⟨d, e1, e⟩ := Option.bind_eq_some_iff.mp e
  obtain ⟨d', e2, e⟩ := Option.bind_eq_some_iff.mp e
  exact ⟨Av2, d, d', ro, P2.st.dom, v2.vx P2.st e1, u2.vx P2.st e2, e, fun w H' pp => h2 w H' (pp.e P2.st)⟩
theorem s_bin {op : Operator} (ho : OpR X (binaryOp op) (rB G (binD op))) (ha : PE X a (tE G W p)) (hb : PE X b (tE G W q)) : PE X (.BinOp a op b pos) (tE G W (kBin (binD op) p q)) :=
  PE_imp (pe_op ho ha hb) fun σ H Q => tri_bin
theorem s_cmp {op : CmpOp} (ho : OpR X (compareOp op) (rB G (cmpD op))) (hm : behindInMarks op b = false) (ha : PE X a (tE G W p)) (hb : PE X b (tE G W q)) : PE X (.Compare a [op] [b] pos) (tE G W (kBin (cmpD op) p q)) :=
  PE_imp (pe_cmpR ho ha hb hm) fun σ H Q => tri_bin
end
end Eng

namespace Eng
open PySem PySem.Spec L2
open PyProof.Rows hiding St
section
variable {X : Cx} {G : Gs} {W : WX} {a b c : Expr} {pos : Pos} {p q o : KE} {t u : KT} {k : Nat} {rest : List Expr}

/-! ### constants and names -/
theorem tri_C {d : D} {v : V} (hd : ∀ Av H, Rep G Av H d v) {σ : St} {H : Hp} {Q : VK} (h : tE G W (kC d) σ H Q) : tC v σ H Q := by
  obtain ⟨Av, S, st, h⟩ := h
  exact h v H ⟨Av, Post.refl st, hd Av H⟩
theorem s_non {j} : PE X (.Constant .none j pos) (tE G W (kC .non)) := PE_imp pe_non fun _ _ _ => tri_C (d := .non) (v := .non) fun _ _ => (rfl : V.non = V.non)
theorem s_bl {b : Bool} {j} : PE X (.Constant (.bool b) j pos) (tE G W (kC (.bl b))) := PE_imp pe_bl fun _ _ _ => tri_C (d := .bl b) (v := .bl b) fun _ _ => (rfl : V.bl b = V.bl b)
theorem s_int {i : Int} {j} : PE X (.Constant (.int i) j pos) (tE G W (kC (.int i))) := PE_imp pe_int fun _ _ _ => tri_C (d := .int i) (v := .int i) fun _ _ => (rfl : V.int i = V.int i)
theorem s_str {x : Str} {j} : PE X (.Constant (.str x) j pos) (tE G W (kC (.str x))) := PE_imp pe_str fun _ _ _ => tri_C (d := .str x) (v := .str x) fun _ _ => (rfl : V.str x = V.str x)
theorem s_var {i : Nat} {x : Str} (hN : X.N[i]? = some x) (hv : Vis X.env.scope x) (hd : (x == ("__debug__" : Str)) = false) (hcd : (x == ("__classdict__" : Str)) = false) : PE X (.Name x pos) (tE G W (kVar i)) := by
  refine PE_imp (pe_var hN hv hd hcd) fun σ H Q h => ?_
  obtain ⟨Av, S, st, h⟩ := h
  show ∃ v, σ[i]? = some (some v) ∧ Q v H
  unfold kVar at h
  split at h
  · rename_i d e
    obtain ⟨v, h1, h2⟩ := st.sh i d e
    exact ⟨v, h1, h v H ⟨Av, Post.refl st, h2⟩⟩
  · rename_i s e ne
    split at h
    · rename_i hs
      obtain ⟨d, hd'⟩ := Option.isSome_iff_exists.mp hs
      have hda : dAt S i = some d := by unfold dAt; rw [ne]; exact hd'
      obtain ⟨v, h1, _⟩ := st.view hda
      exact ⟨v, h1, h v H ⟨Av, Post.refl st, h1, s, d, ne, hd'⟩⟩
    · exact h.elim
  · exact h.elim

/-! ### tests -/
theorem tru_vx {Av : Addr → Prop} {H : Hp} {K : PySem.W.Frag} {d : D} {v : V} {k : Bool} (h : Vx G Av H d v) (e : truthD d = some k) : TruV K v H k := by
  cases d with
  | non => cases (show v = .non from h.1); cases e; rfl
  | bl b => cases (show v = .bl b from h.1); cases e; rfl
  | int i => cases (show v = .int i from h.1); cases e; rfl
  | str x =>
    cases (show v = .str x from h.1)
    have e : (if x.length ≤ sizeLine then some ((x.length : Int) != 0) else none) = some k := e
    split at e
    · rename_i hz; cases e; exact ⟨hz, rfl⟩
    · cases e
  | lst ds =>
    obtain ⟨a, vs, h1, h2, h3⟩ := h.1
    subst h1; cases e
    refine .inl ⟨vs, SqL.of h2, ?_⟩
    have := h3.length
    cases vs <;> cases ds <;> simp_all
  | tup ds =>
    obtain ⟨a, vs, h1, h2, h3⟩ := h.1
    subst h1; cases e
    refine .inr (.inl ⟨vs, SqT.of h2, ?_⟩)
    have := h3.length
    cases vs <;> cases ds <;> simp_all
  | dic ks ds => cases e
  | obj c ns ds => cases e
  | scr ds => cases e
theorem tri_test {σ : St} {H : Hp} {Q : Bool → Hp → Prop} (h : tT G W (kTest p) σ H Q) : tE G W p σ H fun x H' => ∃ k, TruV X.K x H' k ∧ Q k H' := by
  obtain ⟨Av, S, st, h⟩ := h
  refine tE_bindT st h fun r S1 v H1 P1 h1 => ?_
  obtain ⟨Av1, P1, v1⟩ := P1.vok st
  have h1 := h1.trans P1
  split at h1
  · rename_i b e
    obtain ⟨d, e1, e2⟩ := Option.bind_eq_some_iff.mp e
    exact ⟨b, tru_vx (v1.vx P1.st e1) e2, h1 Av1 H1 (Post.refl P1.st)⟩
  · exact h1.elim
/-- an expression that is tested by its value -/
theorem s_test (ha : PE X a (tE G W p)) (he : ∀ whole, isTrue a X.env whole = (do let v ← whole; standAt a.pos; holding [v] (truthy v))) : PT X a (tT G W (kTest p)) :=
  PT_imp (pt_truth ha he) fun σ H Q => tri_test
theorem rep_bl {Av : Addr → Prop} {H : Hp} {b : Bool} {v : V} (h : Rep G Av H (.bl b) v) : v = .bl b := h
/-- truths alone -/
def Bv (p : KE) : Prop := ∀ S rv S1, p S = .ok rv S1 → ∃ b, rv = .sh (.bl b)
theorem tri_testB (hb : Bv p) {σ : St} {H : Hp} {Q : Bool → Hp → Prop} (h : tT G W (Eng.kTest p) σ H Q) : tE G W p σ H fun x H' => ∃ k, x = .bl k ∧ Q k H' := by
  obtain ⟨Av, S, st, h⟩ := h
  refine ⟨Av, S, st, ?_⟩
  have h : RdT G W ((p S).bind fun r S1 => match (deref S1 r.vw).bind truthD with
    | some b => .ok b S1
    | none => .bad) Av S σ H Q := h
  cases e : p S with
  | ok rv S1 =>
    obtain ⟨b, rfl⟩ := hb S rv S1 e
    rw [e] at h
    exact fun v H1 ⟨Av1, P, q⟩ => ⟨b, q, h Av1 H1 P⟩
  | exc x S1 => rw [e] at h; exact h
  | bad => rw [e] at h; exact h
theorem bv_bin {f : D → D → Option RO} (hf : ∀ d e ro, f d e = some ro → ∃ b, ro = .sh (.bl b)) : Bv (kBin f p q) := by
  intro S rv S1 h
  unfold kBin at h
  cases e : p S with
  | ok r S2 =>
    rw [e] at h
    have h : (q S2).bind (fun t S3 => prim ((deref S3 r.vw).bind fun d => (deref S3 t.vw).bind fun e => f d e) S3) = .ok rv S1 := h
    cases e2 : q S2 with
    | ok t S3 =>
      rw [e2] at h
      have h : prim ((deref S3 r.vw).bind fun d => (deref S3 t.vw).bind fun e => f d e) S3 = .ok rv S1 := h
      unfold prim at h
      split at h
      · rename_i ro e3
        cases h
        obtain ⟨d, _, e3⟩ := Option.bind_eq_some_iff.mp e3
        obtain ⟨d', _, e3⟩ := Option.bind_eq_some_iff.mp e3
        obtain ⟨b, rfl⟩ := hf _ _ _ e3
        exact ⟨b, rfl⟩
      · cases h
    | exc _ _ => rw [e2] at h; cases h
    | bad => rw [e2] at h; cases h
  | exc _ _ => rw [e] at h; cases h
  | bad => rw [e] at h; cases h
theorem map_bo {α : Type} {o : Option α} {f : α → Bool} {ro : RO} (h : o.map (fun x => bo (f x)) = some ro) : ∃ b, ro = .sh (.bl b) := by
  cases o with
  | none => cases h
  | some x => cases h; exact ⟨_, rfl⟩
theorem cmpD_b : ∀ op d e ro, cmpD op d e = some ro → ∃ b, ro = .sh (.bl b) := by
  intro op d e ro h
  cases op with
  | Eq => exact map_bo (f := fun x => x) h
  | NotEq => exact map_bo h
  | Lt => cases d <;> cases e <;> first | (cases h; exact ⟨_, rfl⟩) | cases h
  | LtE => cases d <;> cases e <;> first | (cases h; exact ⟨_, rfl⟩) | cases h
  | Gt => cases d <;> cases e <;> first | (cases h; exact ⟨_, rfl⟩) | cases h
  | GtE => cases d <;> cases e <;> first | (cases h; exact ⟨_, rfl⟩) | cases h
  | Is => cases e <;> first | (cases h; exact ⟨_, rfl⟩) | (cases d <;> first | (cases h; exact ⟨_, rfl⟩) | cases h) | cases h
  | IsNot => cases e <;> first | (cases h; exact ⟨_, rfl⟩) | (cases d <;> first | (cases h; exact ⟨_, rfl⟩) | cases h) | cases h
  | In => cases e <;> first | exact map_bo (f := fun x => x) h | cases h
  | NotIn => cases e <;> first | exact map_bo h | cases h
theorem s_cmpT {op : CmpOp} (ho : OpR X (compareOp op) (rB G (cmpD op))) (hm : behindInMarks op b = false) (ha : PE X a (tE G W p)) (hb : PE X b (tE G W q)) : PT X (.Compare a [op] [b] pos) (tT G W (Eng.kTest (kBin (cmpD op) p q))) :=
  PT_imp (pt_cmpR ho ha hb hm) fun σ H Q h => tri_bin (tri_testB (bv_bin (cmpD_b op)) h)
/-- a op b op' c -/
theorem boolOf_some {ro : Option RO} {b : Bool} (h : boolOf ro = some b) : ro = some (.sh (.bl b)) := by
  unfold boolOf at h
  split at h
  · cases h; rfl
  · cases h
theorem tri_chain {f g : D → D → Option RO} {σ : St} {H : Hp} {Q : VK} (h : tT G W (kChain f g p q o) σ H fun b H' => Q (.bl b) H') : tChain (rB G f) (rB G g) (tE G W p) (tE G W q) (tE G W o) σ H Q := by
  obtain ⟨Av, S, st, h⟩ := h
  refine tE_bindT st h fun r S1 v H1 P1 h1 => ?_
  obtain ⟨Av1, P1, v1⟩ := P1.vok st
  refine tE_bindT P1.st (h1.trans P1) fun t S2 u H2 P2 h2 => ?_
  obtain ⟨Av2, P2, u2⟩ := P2.vok P1.st
  have v2 := v1.on P1.st P2
  have h2 := h2.trans P2
  have fin : ∀ {b}, boolOf ((deref S2 r.vw).bind fun d => (deref S2 t.vw).bind fun e => f d e) = some b → (∀ H3 Av3, Post G Av2 S2 σ H2 Av3 S2 H3 → if b = true then tE G W o σ H3 fun w' H4 => rB G g u w' H4 Q else Q (.bl false) H3) →
      rB G f v u H2 fun z H3 => ∃ k, z = .bl k ∧ (if k = true then tE G W o σ H3 fun w' H4 => rB G g u w' H4 Q else Q (.bl false) H3) := fun {b} e kk => by
    have e := boolOf_some e
    obtain ⟨d, e1, e⟩ := Option.bind_eq_some_iff.mp e
    obtain ⟨d', e2, e⟩ := Option.bind_eq_some_iff.mp e
    refine ⟨Av2, d, d', _, P2.st.dom, v2.vx P2.st e1, u2.vx P2.st e2, e, fun w H' pp => ⟨b, pp.2, ?_⟩⟩
    obtain ⟨Av3, P3, _⟩ := (pp.e P2.st).ex
    have := kk H' Av3 P3
    cases b with
    | true => exact this
    | false => exact this
  split at h2
  · rename_i e
    refine fin e fun H3 Av3 P3 => ?_
    simp only [if_true]
    refine tE_bindT P3.st (h2.trans P3) fun z S4 w H4 P4 h4 => ?_
    obtain ⟨Av4, P4, w4⟩ := P4.vok P3.st
    have h4 := h4.trans P4
    have u4 := (u2.on P2.st P3).on P3.st P4
    split at h4
    · rename_i b e4
      have e := boolOf_some e4
      obtain ⟨d, e1, e⟩ := Option.bind_eq_some_iff.mp e
      obtain ⟨d', e2, e⟩ := Option.bind_eq_some_iff.mp e
      refine ⟨Av4, d, d', _, P4.st.dom, u4.vx P4.st e1, w4.vx P4.st e2, e, fun w H' pp => ?_⟩
      obtain ⟨Av5, P5, _⟩ := (pp.e P4.st).ex
      have : w = .bl b := pp.2
      subst this
      exact h4 Av5 H' P5
    · exact h4.elim
  · rename_i e
    refine fin e fun H3 Av3 P3 => ?_
    simp only [if_false, Bool.false_eq_true]
    exact h2 Av3 H3 P3
  · exact h2.elim
theorem s_chainT {op op' : CmpOp} (ho : OpR X (compareOp op) (rB G (cmpD op))) (ho' : OpR X (compareOp op') (rB G (cmpD op'))) (hm : lastMarks [op, op'] [b, c] = false) (ha : PE X a (tE G W p)) (hb : PE X b (tE G W q)) (hc : PE X c (tE G W o)) :
    PT X (.Compare a [op, op'] [b, c] pos) (tT G W (kChain (cmpD op) (cmpD op') p q o)) := PT_imp (pt_chain ho ho' ha hb hc hm) fun σ H Q ⟨Av, S, st, h⟩ => tri_chain ⟨Av, S, st, by
    cases e : kChain (cmpD op) (cmpD op') p q o S with
    | ok b S1 => rw [e] at h; exact fun Av' H' P => ⟨b, rfl, h Av' H' P⟩
    | exc x S1 => rw [e] at h; exact h
    | bad => rw [e] at h; exact h⟩
theorem tri_val {σ : St} {H : Hp} {Q : VK} (h : tE G W (kVal t) σ H Q) : tT G W t σ H fun b H' => Q (.bl b) H' := by
  obtain ⟨Av, S, st, h⟩ := h
  refine tT_bind st h fun b S1 Av1 H1 P1 h1 => ?_
  exact h1.trans P1 (.bl b) H1 ⟨Av1, Post.refl P1.st, (rfl : V.bl b = V.bl b)⟩
theorem s_chain {op op' : CmpOp} (ho : OpR X (compareOp op) (rB G (cmpD op))) (ho' : OpR X (compareOp op') (rB G (cmpD op'))) (hm : lastMarks [op, op'] [b, c] = false) (ha : PE X a (tE G W p)) (hb : PE X b (tE G W q)) (hc : PE X c (tE G W o)) :
    PE X (.Compare a [op, op'] [b, c] pos) (tE G W (kVal (kChain (cmpD op) (cmpD op') p q o))) := PE_imp (pe_chain ho ho' ha hb hc hm) fun σ H Q h => tri_chain (tri_val h)

/-! ### not, and, or, if -/
theorem s_notT (ha : PT X a (tT G W t)) : PT X (.UnaryOp .Not a pos) (tT G W (kNot t)) := PT_imp (pt_not ha) fun σ H Q ⟨Av, S, st, h⟩ =>
  tT_bindT st h fun b S1 Av1 H1 P1 h1 => h1.trans P1 Av1 H1 (Post.refl P1.st)
theorem s_not (ha : PE X a (tE G W p)) : PE X (.UnaryOp .Not a pos) (tE G W (kVal (kNot (Eng.kTest p)))) := PE_imp (pe_notT ha) fun σ H Q h => by
  obtain ⟨Av, S, st, h⟩ := tri_val h
  refine tri_test ⟨Av, S, st, ?_⟩
  unfold kNot at h
  cases e : Eng.kTest p S with
  | ok b S1 => rw [e] at h; exact h
  | exc x S1 => rw [e] at h; exact h
  | bad => rw [e] at h; exact h
theorem s_ite (hc : PT X c (tT G W t)) (ha : PE X a (tE G W p)) (hb : PE X b (tE G W q)) : PE X (.IfExp c a b pos) (tE G W (kIf t p q)) := PE_imp (pe_ifExp hc ha hb) fun σ H Q ⟨Av, S, st, h⟩ =>
  tT_bind st h fun k S1 Av1 H1 P1 h1 => by
    have h1 := h1.trans P1
    cases k with
    | true => exact ⟨Av1, S1, P1.st, h1⟩
    | false => exact ⟨Av1, S1, P1.st, h1⟩
theorem s_andT (ha : PT X a (tT G W t)) (hb : PW X (.BoolOp .And (b :: rest) pos) (tT G W u)) : PW X (.BoolOp .And (a :: b :: rest) pos) (tT G W (kAndT true t u)) := by
  refine ⟨fun wh pins s σ H Q I h => (pw_and ha hb).run wh pins s σ H Q I ?_⟩
  obtain ⟨Av, S, st, h⟩ := h
  refine tT_bindT st h fun k S1 Av1 H1 P1 h1 => ?_
  have h1 := h1.trans P1
  cases k with
  | true => exact ⟨Av1, S1, P1.st, h1⟩
  | false => exact h1 Av1 H1 (Post.refl P1.st)
theorem s_orT (ha : PT X a (tT G W t)) (hb : PW X (.BoolOp .Or (b :: rest) pos) (tT G W u)) : PW X (.BoolOp .Or (a :: b :: rest) pos) (tT G W (kAndT false t u)) := by
  refine ⟨fun wh pins s σ H Q I h => (pw_or ha hb).run wh pins s σ H Q I ?_⟩
  obtain ⟨Av, S, st, h⟩ := h
  refine tT_bindT st h fun k S1 Av1 H1 P1 h1 => ?_
  have h1 := h1.trans P1
  cases k with
  | false => exact ⟨Av1, S1, P1.st, h1⟩
  | true => exact h1 Av1 H1 (Post.refl P1.st)
theorem tri_andV {isAnd : Bool} {σ : St} {H : Hp} {Q : VK} (h : tE G W (kAndV isAnd p q) σ H Q) : tE G W p σ H fun x H1 => ∃ k, TruV X.K x H1 k ∧ if k = isAnd then tE G W q σ H1 Q else Q x H1 := by
  obtain ⟨Av, S, st, h⟩ := h
  refine tE_bind st h fun r S1 v H1 P1 h1 => ?_
  have P1v := P1.view st
  obtain ⟨Av1, P1, v1⟩ := P1.vok st
  have h1' := h1.trans P1
  split at h1'
  · rename_i b e
    obtain ⟨d, e1, e2⟩ := Option.bind_eq_some_iff.mp e
    refine ⟨b, tru_vx (v1.vx P1.st e1) e2, ?_⟩
    split
    · rename_i hb
      rw [if_pos hb] at h1'
      exact ⟨Av1, S1, P1.st, h1'⟩
    · rename_i hb
      rw [if_neg hb] at h1'
      refine h1' v H1 ⟨Av1, Post.refl P1.st, ?_⟩
      generalize r.vw = rv at v1
      cases rv with
      | sh d => exact v1
      | fr d => exact v1.elim
      | br i => exact v1
  · exact h1'.elim
theorem s_and (ha : PE X a (tE G W p)) (hb : PE X (.BoolOp .And (b :: rest) pos) (tE G W q)) : PE X (.BoolOp .And (a :: b :: rest) pos) (tE G W (kAndV true p q)) :=
  PE_imp (pe_andT ha hb) fun σ H Q => tri_andV
theorem s_or (ha : PE X a (tE G W p)) (hb : PE X (.BoolOp .Or (b :: rest) pos) (tE G W q)) : PE X (.BoolOp .Or (a :: b :: rest) pos) (tE G W (kAndV false p q)) :=
  PE_imp (pe_orT ha hb) fun σ H Q h => by
    obtain ⟨Av, S, st, h⟩ := tri_andV (X := X) h
    refine ⟨Av, S, st, ?_⟩
    cases e : p S with
    | ok rv S1 =>
      rw [e] at h
      refine fun v H1 P => ?_
      obtain ⟨k, h1, h2⟩ := h v H1 P
      refine ⟨k, h1, ?_⟩
      cases k with
      | true => exact h2
      | false => exact h2
    | exc x S1 => rw [e] at h; exact h
    | bad => rw [e] at h; exact h
end
end Eng

namespace Eng
open PySem PySem.Spec L2
open PyProof.Rows hiding St
section
variable {X : Cx} {G : Gs}

theorem Vx.int {Av : Addr → Prop} {H : Hp} {i : Int} {v : V} (h : Vx G Av H (.int i) v) : v = .int i := h.1
theorem Vx.str {Av : Addr → Prop} {H : Hp} {i : Str} {v : V} (h : Vx G Av H (.str i) v) : v = .str i := h.1
theorem Vx.bl {Av : Addr → Prop} {H : Hp} {i : Bool} {v : V} (h : Vx G Av H (.bl i) v) : v = .bl i := h.1
theorem Vx.non {Av : Addr → Prop} {H : Hp} {v : V} (h : Vx G Av H .non v) : v = .non := h.1
theorem Vx.lst {Av : Addr → Prop} {H : Hp} {ds : List D} {v : V} (h : Vx G Av H (.lst ds) v) : ∃ a vs, v = .ref a ∧ H a = some (.lst vs) ∧ Reps G Av H ds vs := h.1
theorem Vx.tup {Av : Addr → Prop} {H : Hp} {ds : List D} {v : V} (h : Vx G Av H (.tup ds) v) : ∃ a vs, v = .ref a ∧ ¬ Av a ∧ H a = some (.tup vs) ∧ Reps G Av H ds vs := h.2 rfl
theorem Vx.rep {Av : Addr → Prop} {H : Hp} {d : D} {v : V} (h : Vx G Av H d v) (m : MutD d = false) : Rep G Av H d v := h.2 m
/-- a scalar result -/
theorem PPost.val {Av : Addr → Prop} {H : Hp} {d : D} {v : V} (h : Rep G Av H d v) : PPost G Av H (.sh d) v H := ⟨fun _ _ q => q, h⟩
theorem ext_upd {H : Hp} {p : Addr} {o : HO} (n : H p = none) : Ext H (upd H p o) := fun a u q => by rw [upd_ne (ne_of_none q n)]; exact q
/-- children behind a new object: apart from it, too -/
theorem Reps.laid {Av : Addr → Prop} {H : Hp} {ds : List D} {vs : List V} {p : Addr} {o : HO} (n : H p = none) (h : Reps G Av H ds vs) : Reps G (fun a => Av a ∨ a = p) (upd H p o) ds vs :=
  Reps.mono (fun a u q _ => ext_upd n a u q) (fun a q => q.elim .inl fun z => .inr (z ▸ n)) ds h
theorem PPost.lst {Av : Addr → Prop} {H : Hp} {ds : List D} {vs : List V} {p : Addr} (n : H p = none) (h : Reps G Av H ds vs) : PPost G Av H (.nw (.lst ds)) (.ref p) (upd H p (.lst vs)) :=
  ⟨ext_upd n, p, rfl, n, ⟨_, upd_same⟩, p, vs, rfl, upd_same, h.laid n⟩
theorem PPost.tup {Av : Addr → Prop} {H : Hp} {ds : List D} {vs : List V} {p : Addr} (n : H p = none) (h : Reps G Av H ds vs) : PPost G Av H (.nw (.tup ds)) (.ref p) (upd H p (.tup vs)) :=
  ⟨ext_upd n, p, rfl, n, ⟨_, upd_same⟩, p, vs, rfl, upd_same, h.laid n⟩
theorem Reps.flatten {Av : Addr → Prop} {H : Hp} {ds : List D} {vs : List V} (h : Reps G Av H ds vs) : ∀ n, Reps G Av H (List.replicate n ds).flatten (List.replicate n vs).flatten
  | 0 => rfl
  | n + 1 => by simp only [List.replicate_succ, List.flatten_cons]; exact h.append (h.flatten n)
theorem smallB_ok {i : Int} (h : smallB i = true) : -(2 ^ 64) < i ∧ i < 2 ^ 64 := by
  unfold smallB at h
  simpa using h

/-- the form of most proofs: a case of values -/
theorem o_bin {k : Nat} (hr : Room k X.A) (op : Operator) : OpR X (binaryOp op) (rB G (binD op)) := by
  rintro pins s σ H x y v u Q I rx ry ⟨Av, d, e, ro, dm, vd, ve, h, kk⟩
  cases op with
  | Add =>
    cases d with
    | int i =>
      cases e with
      | int j => cases h; cases vd.int; cases ve.int; exact op_add pins s σ H _ _ v u Q I rx ry ⟨i, j, rfl, rfl, kk _ _ (PPost.val (d := .int (i + j)) rfl)⟩
      | _ => cases h
    | str i =>
      cases e with
      | str j =>
        have h : (if i.length + j.length ≤ sizeLine then some (RO.sh (.str (i ++ j))) else none) = some ro := h
        split at h
        · rename_i hz
          cases h; cases vd.str; cases ve.str
          exact op_add_str pins s σ H _ _ v u Q I rx ry ⟨i, j, rfl, rfl, hz, kk _ _ (PPost.val (d := .str (i ++ j)) rfl)⟩
        · cases h
      | _ => cases h
    | lst xs =>
      cases e with
      | lst ys =>
        have h : (if xs.length + ys.length ≤ sizeLine then some (RO.nw (.lst (xs ++ ys))) else none) = some ro := h
        split at h
        · rename_i hz
          cases h
          obtain ⟨a, vs, rfl, ha, ra⟩ := vd.lst
          obtain ⟨b, us, rfl, hb, rb⟩ := ve.lst
          exact op_cat pins s σ H _ _ v u Q I rx ry ⟨a, b, vs, us, rfl, rfl, ha, hb, by rw [ra.length, rb.length]; exact hz, fun p n => kk _ _ (PPost.lst n (ra.append rb))⟩
        · cases h
      | _ => cases h
    | tup xs =>
      cases e with
      | tup ys =>
        have h : (if xs.length + ys.length ≤ sizeLine then (if xs.isEmpty then some (RO.sh (.tup ys)) else if ys.isEmpty then some (.sh (.tup xs)) else some (.nw (.tup (xs ++ ys)))) else none) = some ro := h
        split at h
        · rename_i hz
          obtain ⟨a, vs, rfl, na, ha, ra⟩ := vd.tup
          obtain ⟨b, us, rfl, nb, hb, rb⟩ := ve.tup
          have la := ra.length
          have lb := rb.length
          refine op_catA pins s σ H _ _ v u Q I rx ry ⟨a, b, vs, us, rfl, rfl, SqT.of ha, SqT.of hb, by rw [la, lb]; exact hz, fun z => ?_, fun z z2 => ?_, fun z z2 p n => ?_⟩
          · subst z
            have : xs = [] := by cases xs with | nil => rfl | cons _ _ => cases la
            subst this
            cases h
            exact kk _ _ (PPost.val (ve.rep rfl))
          · subst z2
            have e1 : ys = [] := by cases ys with | nil => rfl | cons _ _ => cases lb
            have e2 : xs.isEmpty = false := by cases xs with | nil => exact absurd (List.length_eq_zero_iff.mp la) z | cons _ _ => rfl
            subst e1
            rw [e2] at h
            cases h
            exact kk _ _ (PPost.val (vd.rep rfl))
          · have e2 : xs.isEmpty = false := by cases xs with | nil => exact absurd (List.length_eq_zero_iff.mp la) z | cons _ _ => rfl
            have e3 : ys.isEmpty = false := by cases ys with | nil => exact absurd (List.length_eq_zero_iff.mp lb) z2 | cons _ _ => rfl
            rw [e2, e3] at h
            cases h
            exact kk _ _ (PPost.tup n (ra.append rb))
        · cases h
      | _ => cases h
    | _ => cases h
  | Sub =>
    cases d with
    | int i =>
      cases e with
      | int j => cases h; cases vd.int; cases ve.int; exact op_sub pins s σ H _ _ v u Q I rx ry ⟨i, j, rfl, rfl, kk _ _ (PPost.val (d := .int (i - j)) rfl)⟩
      | _ => cases h
    | _ => cases h
  | Mult =>
    cases d with
    | int i =>
      cases e with
      | int j =>
        have h : (if smallB i || smallB j then some (RO.sh (.int (i * j))) else none) = some ro := h
        split at h
        · rename_i hz
          cases h; cases vd.int; cases ve.int
          refine op_mul pins s σ H _ _ v u Q I rx ry ⟨i, j, rfl, rfl, ?_, kk _ _ (PPost.val (d := .int (i * j)) rfl)⟩
          rcases Bool.or_eq_true_iff.mp hz with z | z
          · exact .inl (smallB_ok z)
          · exact .inr (smallB_ok z)
        · cases h
      | _ => cases h
    | lst xs =>
      cases e with
      | int j =>
        have h : (if decide (-(2 ^ 63) ≤ j) && decide (j < 2 ^ 63) && decide (xs.length * j.toNat ≤ sizeLine) then some (RO.nw (.lst (List.replicate j.toNat xs).flatten)) else none) = some ro := h
        split at h
        · rename_i hz
          cases h; cases ve.int
          simp only [decide_eq_true_eq, Bool.and_eq_true] at hz
          obtain ⟨a, vs, rfl, ha, ra⟩ := vd.lst
          exact op_rep pins s σ H _ _ v u Q I rx ry ⟨a, j, vs, rfl, rfl, ha, hz.1.1, hz.1.2, by rw [ra.length]; exact hz.2, fun p n => kk _ _ (PPost.lst n (ra.flatten _))⟩
        · cases h
      | _ => cases h
    | _ => cases h
  | FloorDiv =>
    cases d with
    | int i =>
      cases e with
      | int j =>
        have h : (if decide (0 < j) && decide (j.natAbs.log2 < 9000) then some (RO.sh (.int (i / j))) else none) = some ro := h
        split at h
        · rename_i hz
          cases h; cases vd.int; cases ve.int
          simp only [decide_eq_true_eq, Bool.and_eq_true] at hz
          exact op_fdivW pins s σ H _ _ v u Q I rx ry ⟨i, j, rfl, rfl, hz, kk _ _ (PPost.val (d := .int (i / j)) rfl)⟩
        · cases h
      | _ => cases h
    | _ => cases h
  | Mod =>
    cases d with
    | int i =>
      cases e with
      | int j =>
        have h : (if 0 < j then some (RO.sh (.int (i % j))) else none) = some ro := h
        split at h
        · rename_i hz
          cases h; cases vd.int; cases ve.int
          exact op_mod pins s σ H _ _ v u Q I rx ry ⟨i, j, rfl, rfl, hz, kk _ _ (PPost.val (d := .int (i % j)) rfl)⟩
        · cases h
      | _ => cases h
    | _ => cases h
  | Pow =>
    cases d with
    | int i =>
      cases e with
      | int j =>
        have h : (if decide (0 ≤ j) && decide (j ≤ 1000000) && decide (i.natAbs < 2 ^ 64) then some (RO.sh (.int (i ^ j.toNat))) else none) = some ro := h
        split at h
        · rename_i hz
          cases h; cases vd.int; cases ve.int
          simp only [decide_eq_true_eq, Bool.and_eq_true] at hz
          exact op_pow pins s σ H _ _ v u Q I rx ry ⟨i, j, rfl, rfl, ⟨hz.1.1, hz.1.2, hz.2⟩, kk _ _ (PPost.val (d := .int (i ^ j.toNat)) rfl)⟩
        · cases h
      | _ => cases h
    | _ => cases h
  | _ => cases h

mutual
theorem toP_rep {K : PySem.W.Frag} {Av : Addr → Prop} {H : Hp} : ∀ (d : D) {v : V} {p : PyData}, Rep G Av H d v → toP d = some p → Dp K H v p
  | .non, v, p, h, e => by cases (show v = .non from h); cases e; exact .non
  | .bl b, v, p, h, e => by cases (show v = .bl b from h); cases e; exact .bl b
  | .int i, v, p, h, e => by cases (show v = .int i from h); cases e; exact .int i
  | .str x, v, p, h, e => by cases (show v = .str x from h); cases e; exact .str x
  | .lst ds, v, p, h, e => by
    obtain ⟨a, vs, rfl, _, h2, h3⟩ := h
    obtain ⟨ps, e1, rfl⟩ := Option.map_eq_some_iff.mp (show (toPs ds).map PyData.list = some p from e)
    exact .lst (SqL.of h2) (toPs_rep ds h3 e1)
  | .tup ds, v, p, h, e => by
    obtain ⟨a, vs, rfl, _, h2, h3⟩ := h
    obtain ⟨ps, e1, rfl⟩ := Option.map_eq_some_iff.mp (show (toPs ds).map PyData.tuple = some p from e)
    exact .tup (SqT.of h2) (toPs_rep ds h3 e1)
  | .dic _ _, v, p, h, e => by cases e
  | .obj _ _ _, v, p, h, e => by cases e
  | .scr _, v, p, h, e => by cases e
theorem toPs_rep {K : PySem.W.Frag} {Av : Addr → Prop} {H : Hp} : ∀ (ds : List D) {vs : List V} {ps : List PyData}, Reps G Av H ds vs → toPs ds = some ps → DpAll K H vs ps
  | [], vs, ps, h, e => by cases (show vs = [] from h); cases e; exact .nil
  | d :: ds, vs, ps, ⟨v, r, h1, h2, h3⟩, e => by
    subst h1
    obtain ⟨p, e1, e⟩ := Option.bind_eq_some_iff.mp (show (toP d).bind (fun p => (toPs ds).map fun ps => p :: ps) = some ps from e)
    obtain ⟨qs, e2, rfl⟩ := Option.map_eq_some_iff.mp e
    exact .cons (toP_rep d h2 e1) (toPs_rep ds h3 e2)
end
theorem toP_vx {K : PySem.W.Frag} {Av : Addr → Prop} {H : Hp} {d : D} {v : V} {p : PyData} (h : Vx G Av H d v) (e : toP d = some p) : Dp K H v p := by
  cases d with
  | lst ds =>
    obtain ⟨a, vs, rfl, h2, h3⟩ := h.lst
    obtain ⟨ps, e1, rfl⟩ := Option.map_eq_some_iff.mp (show (toPs ds).map PyData.list = some p from e)
    exact .lst (SqL.of h2) (toPs_rep ds h3 e1)
  | dic _ _ => cases e
  | obj _ _ _ => cases e
  | _ => exact toP_rep _ (h.rep rfl) e
theorem eqD_some {d e : D} {b : Bool} (h : eqD d e = some b) : ∃ p q, toP d = some p ∧ toP e = some q ∧ SeqAt.shaped p = true ∧ SeqAt.shaped q = true ∧ b = PyData.eqv p q := by
  unfold eqD at h
  obtain ⟨p, h1, h⟩ := Option.bind_eq_some_iff.mp h
  obtain ⟨q, h2, h⟩ := Option.bind_eq_some_iff.mp h
  split at h
  · rename_i hz
    cases h
    exact ⟨p, q, h1, h2, (Bool.and_eq_true_iff.mp hz).1, (Bool.and_eq_true_iff.mp hz).2, rfl⟩
  · cases h
theorem isNon_vx {Av : Addr → Prop} {H : Hp} {d : D} {v : V} (h : Vx G Av H d v) : decide (v = .non) = isNon d := by
  cases d with
  | non => cases h.non; rfl
  | bl b => cases h.bl; rfl
  | int b => cases h.int; rfl
  | str b => cases h.str; rfl
  | lst ds => obtain ⟨a, vs, rfl, _⟩ := h.lst; rfl
  | tup ds => obtain ⟨a, vs, rfl, _⟩ := h.tup; rfl
  | dic ks ds => obtain ⟨a, vs, rfl, _⟩ := h.1; rfl
  | obj c ks ds => obtain ⟨a, dx, vs, rfl, _⟩ := h.1; rfl
  | scr ds => obtain ⟨a, vs, rfl, _⟩ := h.1; rfl
theorem flat_vx {Av : Addr → Prop} {H : Hp} {d : D} {v : V} (h : Rep G Av H d v) (f : flatD d = true) : flatV v = true := by
  cases d with
  | non => cases (show v = .non from h); rfl
  | bl b => cases (show v = .bl b from h); rfl
  | int b => cases (show v = .int b from h); rfl
  | str b => cases (show v = .str b from h); rfl
  | _ => cases f
theorem eqF_vx {Av : Addr → Prop} {H : Hp} {d e : D} {v u : V} (h : Rep G Av H d v) (q : Rep G Av H e u) (f : flatD d = true) (f' : flatD e = true) : eqV v u = eqF d e := by
  cases d with
  | non => cases (show v = .non from h); cases e with
    | non => cases (show u = .non from q); rfl
    | bl b => cases (show u = .bl b from q); rfl
    | int b => cases (show u = .int b from q); rfl
    | str b => cases (show u = .str b from q); rfl
    | _ => cases f'
  | bl a => cases (show v = .bl a from h); cases e with
    | non => cases (show u = .non from q); rfl
    | bl b => cases (show u = .bl b from q); rfl
    | int b => cases (show u = .int b from q); rfl
    | str b => cases (show u = .str b from q); rfl
    | _ => cases f'
  | int a => cases (show v = .int a from h); cases e with
    | non => cases (show u = .non from q); rfl
    | bl b => cases (show u = .bl b from q); rfl
    | int b => cases (show u = .int b from q); rfl
    | str b => cases (show u = .str b from q); rfl
    | _ => cases f'
  | str a => cases (show v = .str a from h); cases e with
    | non => cases (show u = .non from q); rfl
    | bl b => cases (show u = .bl b from q); rfl
    | int b => cases (show u = .int b from q); rfl
    | str b => cases (show u = .str b from q); rfl
    | _ => cases f'
  | _ => cases f
theorem inFlat_vx {Av : Addr → Prop} {H : Hp} {d : D} {v : V} {ds : List D} {vs : List V} {b : Bool} (h : Vx G Av H d v) (q : Reps G Av H ds vs) (e : inFlat d ds = some b) : flatV v = true ∧ vs.all flatV = true ∧ inV v vs = b := by
  unfold inFlat at e
  split at e
  · rename_i hz
    obtain ⟨f1, f2⟩ := Bool.and_eq_true_iff.mp hz
    cases e
    have h : Rep G Av H d v := h.rep (by cases d <;> first | rfl | cases f1)
    refine ⟨flat_vx h f1, ?_, ?_⟩
    · clear hz
      induction ds generalizing vs with
      | nil => cases (show vs = [] from q); rfl
      | cons e ds ih =>
        obtain ⟨w, r, rfl, h2, h3⟩ := q
        simp only [List.all_cons, Bool.and_eq_true] at f2 ⊢
        exact ⟨flat_vx h2 f2.1, ih h3 f2.2⟩
    · clear hz
      unfold inV
      induction ds generalizing vs with
      | nil => cases (show vs = [] from q); rfl
      | cons e ds ih =>
        obtain ⟨w, r, rfl, h2, h3⟩ := q
        simp only [List.all_cons, Bool.and_eq_true] at f2
        simp only [List.any_cons]
        rw [ih h3 f2.2, eqF_vx h2 h f2.1 f1]
  · cases e
theorem map_some {α : Type} {o : Option α} {f : α → RO} {ro : RO} (h : o.map f = some ro) : ∃ x, o = some x ∧ f x = ro := Option.map_eq_some_iff.mp h
theorem o_cmp {k : Nat} (hr : Room k X.A) (op : CmpOp) : OpR X (compareOp op) (rB G (cmpD op)) := by
  rintro pins s σ H x y v u Q I rx ry ⟨Av, d, e, ro, dm, vd, ve, h, kk⟩
  have blk : ∀ b, PPost G Av H (bo b) (.bl b) H := fun b => PPost.val (d := .bl b) rfl
  cases op with
  | Eq =>
    obtain ⟨b, e1, rfl⟩ := map_some h
    obtain ⟨p, q, h1, h2, h3, h4, rfl⟩ := eqD_some e1
    exact op_eqD hr.units pins s σ H _ _ v u Q I rx ry ⟨p, q, toP_vx vd h1, toP_vx ve h2, h3, h4, kk _ _ (blk _)⟩
  | NotEq =>
    obtain ⟨b, e1, rfl⟩ := map_some h
    obtain ⟨p, q, h1, h2, h3, h4, rfl⟩ := eqD_some e1
    exact op_neD hr.units pins s σ H _ _ v u Q I rx ry ⟨p, q, toP_vx vd h1, toP_vx ve h2, h3, h4, kk _ _ (blk _)⟩
  | Lt =>
    cases d with
    | int i =>
      cases e with
      | int j => cases h; cases vd.int; cases ve.int; exact op_lt pins s σ H _ _ v u Q I rx ry ⟨i, j, rfl, rfl, kk _ _ (blk _)⟩
      | _ => cases h
    | _ => cases h
  | LtE =>
    cases d with
    | int i =>
      cases e with
      | int j => cases h; cases vd.int; cases ve.int; exact op_le pins s σ H _ _ v u Q I rx ry ⟨i, j, rfl, rfl, kk _ _ (blk _)⟩
      | _ => cases h
    | _ => cases h
  | Gt =>
    cases d with
    | int i =>
      cases e with
      | int j => cases h; cases vd.int; cases ve.int; exact op_gt pins s σ H _ _ v u Q I rx ry ⟨i, j, rfl, rfl, kk _ _ (blk _)⟩
      | _ => cases h
    | _ => cases h
  | GtE =>
    cases d with
    | int i =>
      cases e with
      | int j => cases h; cases vd.int; cases ve.int; exact op_ge pins s σ H _ _ v u Q I rx ry ⟨i, j, rfl, rfl, kk _ _ (blk _)⟩
      | _ => cases h
    | _ => cases h
  | Is =>
    cases e with
    | non => cases h; cases ve.non; exact op_isN pins s σ H _ _ v u Q I rx ry ⟨rfl, by rw [isNon_vx vd]; exact kk _ _ (blk _)⟩
    | bl j =>
      cases d with
      | bl i => cases h; cases vd.bl; cases ve.bl; exact op_isBl pins s σ H _ _ v u Q I rx ry ⟨i, j, rfl, rfl, kk _ _ (blk _)⟩
      | _ => cases h
    | _ => cases h
  | IsNot =>
    cases e with
    | non => cases h; cases ve.non; exact op_notN pins s σ H _ _ v u Q I rx ry ⟨rfl, by rw [isNon_vx vd]; exact kk _ _ (blk _)⟩
    | bl j =>
      cases d with
      | bl i => cases h; cases vd.bl; cases ve.bl; exact op_notBl pins s σ H _ _ v u Q I rx ry ⟨i, j, rfl, rfl, kk _ _ (blk _)⟩
      | _ => cases h
    | _ => cases h
  | In =>
    cases e with
    | lst ds =>
      obtain ⟨b, e1, rfl⟩ := map_some h
      obtain ⟨a, vs, rfl, h2, h3⟩ := ve.lst
      obtain ⟨f1, f2, rfl⟩ := inFlat_vx vd h3 e1
      exact op_in_seq pins s σ H _ _ v u Q I rx ry ⟨a, vs, rfl, .inl (SqL.of h2), f1, f2, kk _ _ (blk _)⟩
    | tup ds =>
      obtain ⟨b, e1, rfl⟩ := map_some h
      obtain ⟨a, vs, rfl, _, h2, h3⟩ := ve.tup
      obtain ⟨f1, f2, rfl⟩ := inFlat_vx vd h3 e1
      exact op_in_seq pins s σ H _ _ v u Q I rx ry ⟨a, vs, rfl, .inr (SqT.of h2), f1, f2, kk _ _ (blk _)⟩
    | _ => cases h
  | NotIn =>
    cases e with
    | lst ds =>
      obtain ⟨b, e1, rfl⟩ := map_some h
      obtain ⟨a, vs, rfl, h2, h3⟩ := ve.lst
      obtain ⟨f1, f2, rfl⟩ := inFlat_vx vd h3 e1
      exact op_notIn_seq pins s σ H _ _ v u Q I rx ry ⟨a, vs, rfl, .inl (SqL.of h2), f1, f2, kk _ _ (blk _)⟩
    | tup ds =>
      obtain ⟨b, e1, rfl⟩ := map_some h
      obtain ⟨a, vs, rfl, _, h2, h3⟩ := ve.tup
      obtain ⟨f1, f2, rfl⟩ := inFlat_vx vd h3 e1
      exact op_notIn_seq pins s σ H _ _ v u Q I rx ry ⟨a, vs, rfl, .inr (SqT.of h2), f1, f2, kk _ _ (blk _)⟩
    | _ => cases h
end
end Eng

namespace Eng
open PySem PySem.Spec L2
open PyProof.Rows hiding St

/-! ### lists of values: what each item is, by a relation that lasts -/
abbrev ER (γ : Type) := (Addr → Prop) → SS → St → Hp → γ → V → Prop
def ErD (G : Gs) : ER D := fun Av _ _ H d v => Rep G Av H d v
def ErV (G : Gs) : ER RV := fun Av S σ H r v => VOk G Av S σ H v r
def ErA (G : Gs) : ER AV := fun Av S σ H a v => match a with
  | .sh d => Rep G Av H d v
  | .io i => σ[i]? = some (some v)
def Lasts (G : Gs) {γ : Type} (E : ER γ) : Prop := ∀ {Av Av1 : Addr → Prop} {S S1 : SS} {σ : St} {H H1 : Hp} {x : γ} {v : V}, E Av S σ H x v → StOk G Av S σ H → Post G Av S σ H Av1 S1 H1 → E Av1 S1 σ H1 x v
theorem lastsD {G : Gs} : Lasts G (ErD G) := fun h st P => P.rep st h
theorem lastsV {G : Gs} : Lasts G (ErV G) := fun h st P => VOk.on h st P
theorem lastsA {G : Gs} : Lasts G (ErA G) := fun {_ _ _ _ _ _ _ x _} h st P => by
  cases x with
  | sh d => exact P.rep st h
  | io i => exact h
def Ers {γ : Type} (E : ER γ) (Av : Addr → Prop) (S : SS) (σ : St) (H : Hp) : List γ → List V → Prop
  | [], vs => vs = []
  | x :: xs, vs => ∃ v r, vs = v :: r ∧ E Av S σ H x v ∧ Ers E Av S σ H xs r
theorem Ers.on {G : Gs} {γ : Type} {E : ER γ} (l : Lasts G E) {Av Av1 : Addr → Prop} {S S1 : SS} {σ : St} {H H1 : Hp} (st : StOk G Av S σ H) (P : Post G Av S σ H Av1 S1 H1) : ∀ {xs : List γ} {vs : List V}, Ers E Av S σ H xs vs → Ers E Av1 S1 σ H1 xs vs
  | [], _, h => h
  | _ :: _, _, ⟨v, r, h1, h2, h3⟩ => ⟨v, r, h1, l h2 st P, Ers.on (E := E) l st P h3⟩
theorem Ers.reps {G : Gs} {Av : Addr → Prop} {S : SS} {σ : St} {H : Hp} : ∀ {ds : List D} {vs : List V}, Ers (ErD G) Av S σ H ds vs → Reps G Av H ds vs
  | [], _, h => h
  | _ :: _, _, ⟨v, r, h1, h2, h3⟩ => ⟨v, r, h1, h2, h3.reps⟩

section
variable (G : Gs) (W : WX)
def Rd1 {γ : Type} (E : ER γ) (r : R γ) (Av : Addr → Prop) (S : SS) (σ : St) (H : Hp) (Q : VK) : Prop := match r with
  | .ok x S' => ∀ Av' v H', Post G Av S σ H Av' S' H' → E Av' S' σ H' x v → Q v H'
  | .exc e S' => ∀ cls d H', XPost G Av S σ H e S' cls d H' → W cls d σ H'
  | .bad => False
def t1 {γ : Type} (E : ER γ) (f : SS → R γ) : TE := fun σ H Q => ∃ Av S, StOk G Av S σ H ∧ Rd1 G W E (f S) Av S σ H Q
def RdL {γ : Type} (E : ER γ) (r : R (List γ)) (Av : Addr → Prop) (S : SS) (σ : St) (H : Hp) (Q : List V → Hp → Prop) : Prop := match r with
  | .ok xs S' => ∀ Av' vs H', Post G Av S σ H Av' S' H' → Ers E Av' S' σ H' xs vs → Q vs H'
  | .exc e S' => ∀ cls d H', XPost G Av S σ H e S' cls d H' → W cls d σ H'
  | .bad => False
def tL {γ : Type} (E : ER γ) (f : SS → R (List γ)) : TA := fun σ H Q => ∃ Av S, StOk G Av S σ H ∧ RdL G W E (f S) Av S σ H Q
end
section
variable {X : Cx} {G : Gs} {W : WX} {γ : Type} {E : ER γ} {e : Expr} {es : List Expr} {pos : Pos} {p : KE}
theorem PA_imp {t t' : TA} (h : PA X es t') (k : ∀ σ H Q, t σ H Q → t' σ H Q) : PA X es t := ⟨fun ps pins s σ H Q I w => h.run ps pins s σ H Q I (k σ H Q w)⟩
theorem s_nil : PA X [] (tL G W E kNil) := PA_imp pa_nil fun σ H Q ⟨Av, S, st, h⟩ => h Av [] H (Post.refl st) rfl
theorem RdL.trans {r : R (List γ)} {Av Av1 : Addr → Prop} {S S1 : SS} {σ : St} {H H1 : Hp} {Q : List V → Hp → Prop} (P : Post G Av S σ H Av1 S1 H1) (h : RdL G W E r Av S σ H Q) : RdL G W E r Av1 S1 σ H1 Q := by
  cases r with
  | ok rv S' => exact fun Av' vs H' q r => h Av' vs H' (P.trans q) r
  | exc e S' => exact fun c d H' q => h c d H' (q.trans P)
  | bad => exact h
theorem t1_bindL {f : SS → R γ} {g : γ → SS → R (List γ)} {Av : Addr → Prop} {S : SS} {σ : St} {H : Hp} {Q : List V → Hp → Prop} {Q' : VK} (st : StOk G Av S σ H) (h : RdL G W E ((f S).bind g) Av S σ H Q)
    (k : ∀ x S1 Av1 v H1, Post G Av S σ H Av1 S1 H1 → E Av1 S1 σ H1 x v → RdL G W E (g x S1) Av S σ H Q → Q' v H1) : t1 G W E f σ H Q' := by
  refine ⟨Av, S, st, ?_⟩
  cases e : f S with
  | ok x S1 => rw [e] at h; exact fun Av1 v H1 P q => k x S1 Av1 v H1 P q h
  | exc x S1 => rw [e] at h; exact h
  | bad => rw [e] at h; exact h
theorem tL_bindL {f : SS → R (List γ)} {g : List γ → SS → R (List γ)} {Av : Addr → Prop} {S : SS} {σ : St} {H : Hp} {Q Q' : List V → Hp → Prop} (st : StOk G Av S σ H) (h : RdL G W E ((f S).bind g) Av S σ H Q)
    (k : ∀ xs S1 Av1 vs H1, Post G Av S σ H Av1 S1 H1 → Ers E Av1 S1 σ H1 xs vs → RdL G W E (g xs S1) Av S σ H Q → Q' vs H1) : tL G W E f σ H Q' := by
  refine ⟨Av, S, st, ?_⟩
  cases e : f S with
  | ok x S1 => rw [e] at h; exact fun Av1 v H1 P q => k x S1 Av1 v H1 P q h
  | exc x S1 => rw [e] at h; exact h
  | bad => rw [e] at h; exact h
theorem s_cons {f : SS → R γ} {g : SS → R (List γ)} (l : Lasts G E) (ha : PE X e (t1 G W E f)) (hr : PA X es (tL G W E g)) (hs : starEach (e :: es) X.env = (false, eval e X.env) :: starEach es X.env) : PA X (e :: es) (tL G W E (kCons f g)) :=
  PA_imp (pa_cons ha hr hs) fun σ H Q ⟨Av, S, st, h⟩ => by
    refine t1_bindL st h fun x S1 Av1 v H1 P1 e1 h1 => ?_
    refine tL_bindL P1.st (h1.trans P1) fun xs S2 Av2 vs H2 P2 e2 h2 => ?_
    exact h2.trans P2 Av2 (v :: vs) H2 (Post.refl P2.st) ⟨v, vs, rfl, l e1 P1.st P2, e2⟩
/-- an expression: its value shared, a view, an argument -/
theorem s_shr (h : PE X e (tE G W p)) : PE X e (t1 G W (ErD G) (kShr p)) := PE_imp h fun σ H Q ⟨Av, S, st, w⟩ => by
  refine ⟨Av, S, st, ?_⟩
  unfold kShr at w
  cases e1 : p S with
  | ok rv S1 =>
    rw [e1] at w
    have w : Rd1 G W (ErD G) (shr rv S1) Av S σ H Q := w
    intro v H1 P
    cases e2 : shr rv S1 with
    | ok d S2 =>
      rw [e2] at w
      obtain ⟨Av', P', q⟩ := (P.shared st e2).ex
      exact w Av' v H1 P' q
    | exc x S2 => exact (shr_exc e2).elim
    | bad => rw [e2] at w; exact w.elim
  | exc x S1 => rw [e1] at w; exact w
  | bad => rw [e1] at w; exact w
theorem s_vw (h : PE X e (tE G W p)) : PE X e (t1 G W (ErV G) (kVw p)) := PE_imp h fun σ H Q ⟨Av, S, st, w⟩ => by
  refine ⟨Av, S, st, ?_⟩
  unfold kVw at w
  cases e1 : p S with
  | ok rv S1 =>
    rw [e1] at w
    intro v H1 P
    obtain ⟨Av', P', q⟩ := P.vok st
    exact w Av' v H1 P' q
  | exc x S1 => rw [e1] at w; exact w
  | bad => rw [e1] at w; exact w
theorem s_mdF {io : Option Nat} (h : PE X e (tE G W p)) : PE X e (t1 G W (ErA G) (kMd io p false)) := PE_imp (s_shr h) fun σ H Q ⟨Av, S, st, w⟩ => by
  refine ⟨Av, S, st, ?_⟩
  have w : Rd1 G W (ErA G) ((kShr p S).bind fun d S1 => .ok (.sh d) S1) Av S σ H Q := w
  cases e1 : kShr p S with
  | ok d S1 => rw [e1] at w; exact w
  | exc x S1 => rw [e1] at w; exact w
  | bad => rw [e1] at w; exact w
theorem s_mdT {i : Nat} (h : PE X e (tVar i)) : PE X e (t1 G W (ErA G) (kMd (some i) p true)) := PE_imp h fun σ H Q ⟨Av, S, st, w⟩ => by
  have w : Rd1 G W (ErA G) (if ((S[i]?).bind SV.mu).isSome then .ok (AV.io i) S else .bad) Av S σ H Q := w
  split at w
  · rename_i hs
    obtain ⟨d, hd⟩ := Option.isSome_iff_exists.mp hs
    obtain ⟨sv, h1, h2⟩ := Option.bind_eq_some_iff.mp hd
    obtain ⟨a, h3, h4, h5, h6⟩ := st.ow i sv d h1 (sv.mu_rt h2)
    exact ⟨.ref a, h3, w Av (.ref a) H (Post.refl st) h3⟩
  · exact w.elim

/-! ### displays -/
theorem s_star {g : SS → R (List D)} (ha : PE X e (tE G W p)) (hr : PA X es (tL G W (ErD G) g)) : PA X (.Starred e pos :: es) (tL G W (ErD G) (kStar p g)) :=
  PA_imp (StX.pa_star ha hr) fun σ H Q ⟨Av, S, st, h⟩ => by
    have h : RdL G W (ErD G) ((p S).bind fun r S1 => match (deref S1 r.vw).bind seqOf with
      | some xs => (g S1).bind fun ys S2 => .ok (xs ++ ys) S2
      | none => .bad) Av S σ H Q := h
    refine ⟨Av, S, st, ?_⟩
    cases e1 : p S with
    | ok rv S1 =>
      rw [e1] at h
      have h : RdL G W (ErD G) (match (deref S1 rv.vw).bind seqOf with
        | some xs => (g S1).bind fun ys S2 => .ok (xs ++ ys) S2
        | none => .bad) Av S σ H Q := h
      intro v H1 P
      obtain ⟨Av1, P1, v1⟩ := P.vok st
      have h := h.trans P1
      split at h
      · rename_i xs e2
        obtain ⟨d, e3, e4⟩ := Option.bind_eq_some_iff.mp e2
        have key : ∃ a vs, v = .ref a ∧ (SqT X.K H1 a vs ∨ SqL X.K H1 a vs) ∧ Reps G Av1 H1 xs vs := by
          have vx := v1.vx P1.st e3
          cases d with
          | lst ds => cases e4; obtain ⟨a, vs, h1, h2, h3⟩ := vx.lst; exact ⟨a, vs, h1, .inr (SqL.of h2), h3⟩
          | tup ds => cases e4; obtain ⟨a, vs, h1, _, h2, h3⟩ := vx.tup; exact ⟨a, vs, h1, .inl (SqT.of h2), h3⟩
          | _ => cases e4
        obtain ⟨a, vs, rfl, hq, hv⟩ := key
        refine ⟨a, vs, rfl, hq, ?_⟩
        refine tL_bindL P1.st h fun ys S2 Av2 us H2 P2 e2 h2 => ?_
        refine h2.trans P2 Av2 (vs ++ us) H2 (Post.refl P2.st) ?_
        have r1 := P2.reps P1.st hv
        have r2 := e2.reps.append (ds := ys) (es := []) (us := []) rfl
        have r3 := r1.append e2.reps
        clear h h2 r1 r2
        generalize xs ++ ys = zs at r3
        generalize vs ++ us = ws at r3
        induction zs generalizing ws with
        | nil => exact r3
        | cons z zs ih => obtain ⟨w, r, h1, h2, h3⟩ := r3; exact ⟨w, r, h1, h2, ih r h3⟩
      · exact h.elim
    | exc x S1 => rw [e1] at h; exact h
    | bad => rw [e1] at h; exact h
theorem s_tup {g : SS → R (List D)} {k : Nat} (h : PA X es (tL G W (ErD G) g)) : PE X (.Tuple es k pos) (tE G W (kTup g)) := PE_imp (pe_tup h) fun σ H Q ⟨Av, S, st, w⟩ => by
  have w : RdE G W ((g S).bind fun ds S1 => if ds.length ≤ sizeLine then .ok (.sh (.tup ds)) S1 else .bad) Av S σ H Q := w
  refine ⟨Av, S, st, ?_⟩
  cases e1 : g S with
  | ok ds S1 =>
    rw [e1] at w
    intro Av1 vs H1 P1 r
    have w : RdE G W (if ds.length ≤ sizeLine then .ok (.sh (.tup ds)) S1 else .bad) Av S σ H Q := w
    have r := r.reps
    split at w
    · rename_i hz
      refine ⟨by rw [r.length]; exact hz, fun p n => ?_⟩
      refine w.trans P1 _ _ (PPost.e (ro := .nw (.tup ds)) P1.st (PPost.tup n r))
    · exact w.elim
  | exc x S1 => rw [e1] at w; exact w
  | bad => rw [e1] at w; exact w
theorem s_lst {g : SS → R (List D)} (h : PA X es (tL G W (ErD G) g)) : PE X (.List es pos) (tE G W (kLst g)) := PE_imp (pe_lst h) fun σ H Q ⟨Av, S, st, w⟩ => by
  have w : RdE G W ((g S).bind fun ds S1 => if ds.length ≤ sizeLine then .ok (.fr (.lst ds)) S1 else .bad) Av S σ H Q := w
  refine ⟨Av, S, st, ?_⟩
  cases e1 : g S with
  | ok ds S1 =>
    rw [e1] at w
    intro Av1 vs H1 P1 r
    have w : RdE G W (if ds.length ≤ sizeLine then .ok (.fr (.lst ds)) S1 else .bad) Av S σ H Q := w
    have r := r.reps
    split at w
    · rename_i hz
      refine ⟨by rw [r.length]; exact hz, fun p n => ?_⟩
      refine w.trans P1 _ _ (PPost.e (ro := .nw (.lst ds)) P1.st (PPost.lst n r))
    · exact w.elim
  | exc x S1 => rw [e1] at w; exact w
  | bad => rw [e1] at w; exact w
end
end Eng

namespace Eng
open PySem PySem.Spec L2
open PyProof.Rows hiding St
section
variable {X : Cx} {G : Gs} {W : WX} {a b c e : Expr} {es : List Expr} {pos p2 pp : Pos} {p q o : KE} {x : Str}

theorem atI_reps {Av : Addr → Prop} {H : Hp} {ds : List D} {vs : List V} {i : Int} {d : D} (h : Reps G Av H ds vs) (e : ixD ds i = some d) : ∃ v, atI vs i = some v ∧ Rep G Av H d v := by
  unfold ixD atI at *
  rw [h.length]
  obtain ⟨j, h1, h2⟩ := Option.bind_eq_some_iff.mp e
  rw [h1]
  exact h.get' h2
theorem s_sub (hs : PlainIx b) (ha : PE X a (tE G W p)) (hb : PE X b (tE G W q)) : PE X (.Subscript a b pos) (tE G W (kBin subD p q)) :=
  PE_imp (pe_ix ix_seq ha hb hs) fun σ H Q h => by
    obtain ⟨Av, S, st, h⟩ := tri_bin h
    refine ⟨Av, S, st, ?_⟩
    revert h
    refine RdE_mono fun v H1 h => ?_
    obtain ⟨Av1, S1, st1, h⟩ := h
    refine ⟨Av1, S1, st1, ?_⟩
    revert h
    refine RdE_mono fun u H2 h => ?_
    obtain ⟨Av, d, e, ro, dm, vd, ve, h, kk⟩ := h
    cases e with
    | int i =>
      cases ve.int
      cases d with
      | lst ds =>
        obtain ⟨d', e1, rfl⟩ := map_some (show (ixD ds i).map RO.sh = some ro from h)
        obtain ⟨l, vs, rfl, h1, h2⟩ := vd.lst
        obtain ⟨v', h3, h4⟩ := atI_reps h2 e1
        exact .inl ⟨l, vs, i, v', rfl, rfl, SqL.of h1, h3, kk _ _ (PPost.val h4)⟩
      | tup ds =>
        obtain ⟨d', e1, rfl⟩ := map_some (show (ixD ds i).map RO.sh = some ro from h)
        obtain ⟨l, vs, rfl, _, h1, h2⟩ := vd.tup
        obtain ⟨v', h3, h4⟩ := atI_reps h2 e1
        exact .inr (.inl ⟨l, vs, i, v', rfl, rfl, SqT.of h1, h3, kk _ _ (PPost.val h4)⟩)
      | str x =>
        have h : (if x.length ≤ sizeLine then (atI x.cps.toList i).map fun c => RO.sh (.str ⟨#[c]⟩) else none) = some ro := h
        split at h
        · rename_i hz
          obtain ⟨c, e1, rfl⟩ := map_some h
          cases vd.str
          exact .inr (.inr ⟨x, i, c, rfl, rfl, hz, e1, kk _ _ (PPost.val (d := .str ⟨#[c]⟩) rfl)⟩)
        · cases h
      | _ => cases h
    | _ => cases d <;> cases h

/-! ### one value -/
theorem tri_un {f : D → Option RO} {σ : St} {H : Hp} {Q : VK} (h : tE G W (kUn f p) σ H Q) : tE G W p σ H fun x H1 => rU1 G f x H1 Q := by
  obtain ⟨Av, S, st, h⟩ := h
  refine tE_bind st h fun r S1 v H1 P1 h1 => ?_
  obtain ⟨Av1, P1, v1⟩ := P1.vok st
  obtain ⟨ro, e, h1⟩ := prim_some (h1.trans P1)
  obtain ⟨d, e1, e⟩ := Option.bind_eq_some_iff.mp e
  exact ⟨Av1, d, ro, P1.st.dom, v1.vx P1.st e1, e, fun w H' pp => h1 w H' (pp.e P1.st)⟩
theorem tE_mono {σ : St} {H : Hp} {Q Q' : VK} (k : ∀ v H', Q v H' → Q' v H') (h : tE G W p σ H Q) : tE G W p σ H Q' := by
  obtain ⟨Av, S, st, h⟩ := h
  exact ⟨Av, S, st, RdE_mono k h⟩
theorem s_neg (ha : PE X a (tE G W p)) : PE X (.UnaryOp .USub a pos) (tE G W (kUn negD p)) := PE_imp (pe_un un_neg ha) fun σ H Q h => by
  refine tE_mono (fun v H1 h => ?_) (tri_un h)
  obtain ⟨Av, d, ro, dm, vd, h, kk⟩ := h
  cases d with
  | int i => cases h; cases vd.int; exact ⟨i, rfl, kk _ _ (PPost.val (d := .int (-i)) rfl)⟩
  | _ => cases h
theorem s_rev {k : Nat} {p1 p3 : Pos} (ha : PE X a (tE G W p)) : PE X (.Subscript a (.Slice none none (some (.UnaryOp .USub (.Constant (.int 1) k p1) p2)) p3) pos) (tE G W (kUn revD p)) := PE_imp (pe_revL ha) fun σ H Q h => by
  refine tE_mono (fun v H1 h => ?_) (tri_un h)
  obtain ⟨Av, d, ro, dm, vd, h, kk⟩ := h
  cases d with
  | lst ds =>
    cases h
    obtain ⟨l, vs, rfl, h1, h2⟩ := vd.lst
    exact ⟨l, vs, rfl, SqL.of h1, fun p n => kk _ _ (PPost.lst n h2.reverse)⟩
  | _ => cases h

/-! ### slices -/
/-- a part of a slice -/
def PartOf (X : Cx) (G : Gs) (W : WX) (o : Option Expr) (noe : Bool) (q : KE) : Prop := match o with
  | none => noe = true
  | some e => noe = false ∧ PE X e (tE G W q)
def tOp1 (G : Gs) (W : WX) (noe : Bool) (q : KE) : TO := if noe then tNoPart else tPart (tE G W q)
theorem PartOf.po {o : Option Expr} {noe : Bool} (h : PartOf X G W o noe q) : PO X o (tOp1 G W noe q) := by
  unfold tOp1
  cases o with
  | none => obtain rfl := (show noe = true from h); exact po_none
  | some e => obtain ⟨rfl, h⟩ := h; exact po_some h
theorem part_bind {noe : Bool} {q : KE} {f : Option Int → SS → R RV} {Av : Addr → Prop} {S : SS} {σ : St} {H : Hp} {Q : VK} {Q' : Option Int → Hp → Prop} (st : StOk G Av S σ H) (h : RdE G W ((kPart noe q S).bind f) Av S σ H Q)
    (k : ∀ l S1 Av1 H1, Post G Av S σ H Av1 S1 H1 → RdE G W (f l S1) Av1 S1 σ H1 Q → Q' l H1) : tOp1 G W noe q σ H Q' := by
  unfold tOp1
  unfold kPart at h
  cases noe with
  | true => exact k none S Av H (Post.refl st) h
  | false =>
    simp only [Bool.false_eq_true, if_false] at h ⊢
    refine ⟨Av, S, st, ?_⟩
    cases e : q S with
    | ok r S1 =>
      rw [e] at h
      have h : RdE G W ((match r with
        | .sh (.int i) => R.ok (some i) S1
        | _ => .bad).bind f) Av S σ H Q := h
      intro v H1 P
      split at h
      · rename_i i _
        obtain ⟨Av1, P1, e1⟩ := P.ex
        cases (show v = .int i from e1)
        exact ⟨i, rfl, k (some i) S1 Av1 H1 P1 (h.trans P1)⟩
      · exact h.elim
    | exc x S1 => rw [e] at h; exact h
    | bad => rw [e] at h; exact h
theorem s_slc {lo hi : Option Expr} {nl nh : Bool} (ha : PE X a (tE G W p)) (hl : PartOf X G W lo nl q) (hh : PartOf X G W hi nh o) (hK : X.K = G.K) : PE X (.Subscript a (.Slice lo hi none p2) pos) (tE G W (kSlc p (kPart nl q) (kPart nh o))) := by
  refine PE_imp (pe_slice ((sl_list (X := X)).or ((sl_tupA (X := X)).or sl_str)) ha hl.po hh.po) fun σ H Q h => ?_
  obtain ⟨Av, S, st, h⟩ := h
  refine tE_bind st h fun r S1 v H1 P1 h1 => ?_
  obtain ⟨Av1, P1, v1⟩ := P1.vok st
  refine part_bind P1.st (h1.trans P1) fun l S2 Av2 H2 P2 h2 => ?_
  refine part_bind P2.st h2 fun h' S3 Av3 H3 P3 h3 => ?_
  obtain ⟨ro, e, h3⟩ := prim_some h3
  obtain ⟨d, e1, e⟩ := Option.bind_eq_some_iff.mp e
  have vd := ((v1.on P1.st P2).on P2.st P3).vx P3.st e1
  have kk : ∀ {u H'}, PPost G Av3 H3 ro u H' → Q u H' := fun {u H'} pp => h3 u H' (pp.e P3.st)
  cases d with
  | lst ds =>
    cases e
    obtain ⟨l', vs, rfl, g1, g2⟩ := vd.lst
    refine .inl ⟨l', vs, rfl, SqL.of g1, fun p n => ?_⟩
    have : Reps G Av3 H3 (cutD ds l h') (cutV vs l h') := by unfold cutD cutV; rw [g2.length]; exact (g2.drop _).take _
    exact kk (PPost.lst n this)
  | scr ds =>
    cases e
    obtain ⟨l', vs, rfl, g1, g2⟩ := vd.1
    refine .inl ⟨l', vs, rfl, by rw [hK]; exact g1.sq, fun p n => ?_⟩
    have : Reps G Av3 H3 (cutD ds l h') (cutV vs l h') := by unfold cutD cutV; rw [g2.length]; exact (g2.drop _).take _
    exact kk (PPost.lst n this)
  | tup ds =>
    obtain ⟨l', vs, rfl, na, g1, g2⟩ := vd.tup
    have e : (if HT.sIx ds.length 0 l = 0 ∧ HT.sIx ds.length ds.length h' = ds.length then some (RO.sh (.tup ds)) else some (.nw (.tup (cutD ds l h')))) = some ro := e
    refine .inr (.inl ⟨l', vs, rfl, SqT.of g1, fun z => ?_, fun z p n => ?_⟩)
    · rw [g2.length] at z
      rw [if_pos z] at e
      cases e
      exact kk (PPost.val (vd.rep rfl))
    · rw [g2.length] at z
      rw [if_neg z] at e
      cases e
      have : Reps G Av3 H3 (cutD ds l h') (cutV vs l h') := by unfold cutD cutV; rw [g2.length]; exact (g2.drop _).take _
      exact kk (PPost.tup n this)
  | str x =>
    have e : (if x.length ≤ sizeLine then some (RO.sh (.str (cutS x l h'))) else none) = some ro := e
    split at e
    · rename_i hz
      cases e
      cases vd.str
      exact .inr (.inr ⟨x, rfl, hz, kk (PPost.val (d := .str (cutS x l h')) rfl)⟩)
    · cases e
  | _ => cases e

/-! ### built-in functions by values -/
def Vxs (G : Gs) (Av : Addr → Prop) (H : Hp) : List D → List V → Prop
  | [], vs => vs = []
  | d :: ds, vs => ∃ v r, vs = v :: r ∧ Vx G Av H d v ∧ Vxs G Av H ds r
theorem Ers.vxs {Av : Addr → Prop} {S : SS} {σ : St} {H : Hp} (st : StOk G Av S σ H) : ∀ {rs : List RV} {vs : List V} {ds : List D}, Ers (ErV G) Av S σ H rs vs → derefs S rs = some ds → Vxs G Av H ds vs
  | [], vs, ds, h, e => by cases e; exact h
  | r :: rs, vs, ds, ⟨v, u, h1, h2, h3⟩, e => by
    obtain ⟨d, e1, e⟩ := Option.bind_eq_some_iff.mp (show (deref S r).bind (fun d => (derefs S rs).map fun ds => d :: ds) = some ds from e)
    obtain ⟨es, e2, rfl⟩ := Option.map_eq_some_iff.mp e
    exact ⟨v, u, h1, VOk.vx h2 st e1, Ers.vxs st h3 e2⟩
def rBI (G : Gs) (f : List D → Option RO) : List V → Hp → VK → Prop := fun vs H Q => ∃ (Av : Addr → Prop) (ds : List D) (ro : RO), (∀ a, Av a → ∃ o, H a = some o) ∧ Vxs G Av H ds vs ∧ f ds = some ro ∧ ∀ v H', PPost G Av H ro v H' → Q v H'
theorem tri_bi {f : List D → Option RO} {g : SS → R (List RV)} {σ : St} {H : Hp} {Q : VK} (h : tE G W (kBi f g) σ H Q) : tL G W (ErV G) g σ H fun vs H1 => rBI G f vs H1 Q := by
  obtain ⟨Av, S, st, h⟩ := h
  refine ⟨Av, S, st, ?_⟩
  unfold kBi at h
  cases e : g S with
  | ok rs S1 =>
    rw [e] at h
    have h : RdE G W (prim ((derefs S1 rs).bind f) S1) Av S σ H Q := h
    intro Av1 vs H1 P1 r1
    obtain ⟨ro, e1, h⟩ := prim_some (h.trans P1)
    obtain ⟨ds, e2, e3⟩ := Option.bind_eq_some_iff.mp e1
    exact ⟨Av1, ds, ro, P1.st.dom, r1.vxs P1.st e2, e3, fun w H' pp => h w H' (pp.e P1.st)⟩
  | exc x S1 => rw [e] at h; exact h
  | bad => rw [e] at h; exact h
end
end Eng

namespace Eng
open PySem PySem.Spec L2
open PyProof.Rows hiding St
section
variable {X : Cx} {G : Gs} {W : WX} {a b c e : Expr} {es : List Expr} {pos p2 pp : Pos} {p q o : KE} {x : Str}

def BI.nm : BI → String
  | .len => "len" | .int => "int" | .abs => "abs" | .bool => "bool" | .str => "str" | .repr => "repr" | .list => "list" | .tuple => "tuple" | .sorted => "sorted"
  | .sum => "sum" | .min => "min" | .max => "max" | .any => "any" | .all => "all" | .dict => "dict"
def BI.isTy : BI → Bool
  | .int => true | .bool => true | .str => true | .list => true | .tuple => true | .dict => true
  | _ => false
def BI.val (b : BI) : Value := if b.isTy then .type b.nm else .builtin b.nm
theorem BI.boot (b : BI) : bootBuiltins (Str.ofString b.nm) = some b.val := by cases b <;> decide +kernel
theorem BI.nn (b : BI) : Str.ofString b.nm ≠ "__name__" := by cases b <;> decide +kernel
theorem BI.nd (b : BI) : (Str.ofString b.nm == ("__debug__" : Str)) = false := by cases b <;> decide +kernel

theorem one_vx {Av : Addr → Prop} {H : Hp} {d : D} {vs : List V} (h : Vxs G Av H [d] vs) : ∃ v, vs = [v] ∧ Vx G Av H d v := by
  obtain ⟨v, r, h1, h2, h3⟩ := h
  cases (show r = [] from h3)
  exact ⟨v, h1, h2⟩
theorem allB_reps {Av : Addr → Prop} {H : Hp} : ∀ {ds : List D} {bs : List Bool} {vs : List V}, allB ds = some bs → Reps G Av H ds vs → vs = bs.map V.bl
  | [], bs, vs, e, h => by cases e; exact h
  | d :: ds, bs, vs, e, ⟨v, r, h1, h2, h3⟩ => by
    cases d with
    | bl b =>
      obtain ⟨cs, e1, rfl⟩ := Option.map_eq_some_iff.mp (show (allB ds).map (fun bs => b :: bs) = some bs from e)
      rw [h1, allB_reps e1 h3, show v = .bl b from h2]; rfl
    | _ => cases e
theorem allI_reps {Av : Addr → Prop} {H : Hp} : ∀ {ds : List D} {bs : List Int} {vs : List V}, allI ds = some bs → Reps G Av H ds vs → vs = bs.map V.int
  | [], bs, vs, e, h => by cases e; exact h
  | d :: ds, bs, vs, e, ⟨v, r, h1, h2, h3⟩ => by
    cases d with
    | int b =>
      obtain ⟨cs, e1, rfl⟩ := Option.map_eq_some_iff.mp (show (allI ds).map (fun bs => b :: bs) = some bs from e)
      rw [h1, allI_reps e1 h3, show v = .int b from h2]; rfl
    | _ => cases e
mutual
theorem toP_hasDict : ∀ (d : D) {p : PyData}, toP d = some p → p.hasDict = false
  | .non, p, e => by cases e; rfl
  | .bl b, p, e => by cases e; rfl
  | .int b, p, e => by cases e; rfl
  | .str b, p, e => by cases e; rfl
  | .lst ds, p, e => by
    obtain ⟨ps, e1, rfl⟩ := Option.map_eq_some_iff.mp (show (toPs ds).map PyData.list = some p from e)
    exact toPs_hasDict ds e1
  | .tup ds, p, e => by
    obtain ⟨ps, e1, rfl⟩ := Option.map_eq_some_iff.mp (show (toPs ds).map PyData.tuple = some p from e)
    exact toPs_hasDict ds e1
  | .dic _ _, p, e => by cases e
  | .obj _ _ _, p, e => by cases e
  | .scr _, p, e => by cases e
theorem toPs_hasDict : ∀ (ds : List D) {ps : List PyData}, toPs ds = some ps → PyData.hasDictAll ps = false
  | [], ps, e => by cases e; rfl
  | d :: ds, ps, e => by
    obtain ⟨p, e1, e⟩ := Option.bind_eq_some_iff.mp (show (toP d).bind (fun p => (toPs ds).map fun ps => p :: ps) = some ps from e)
    obtain ⟨qs, e2, rfl⟩ := Option.map_eq_some_iff.mp e
    simp only [PyData.hasDictAll, toP_hasDict d e1, toPs_hasDict ds e2, Bool.or_self]
end
theorem o_repr {k : Nat} (hr : Room k X.A) (hg : X.A.guards = some []) : CallR X (.builtin "repr") (fun vs H Q => ∃ v p, vs = [v] ∧ Dp X.K H v p ∧ PyData.showable p = true ∧ p.shown.length ≤ sizeLine ∧ p.depth ≤ 60 ∧ p.hasDict = false ∧ Q (.str p.shown) H) := by
  rintro pins s σ H vs us Q I r ⟨v, p, rfl, hd, h1, h2, h3, h4, q⟩
  obtain ⟨u, rfl, rv⟩ := vals1 r
  obtain ⟨as, rd⟩ := Dp.reads I p v u hd rv
  have un := hr.units
  cases hd with
  | non => cases rv; exact PySem.P.repr_of_none ⟨.str "None", H, I.tok _, ⟨_, rfl⟩, q⟩
  | bl b => cases rv; exact PySem.P.repr_of_bool ⟨.str (if b then "True" else "False"), H, I.tok _, ⟨_, rfl⟩, q⟩
  | int i =>
    obtain ⟨t, rfl⟩ := rv
    exact PySem.P.repr_of_int (by simpa [PyData.showable] using h1) ⟨.str (toString i), H, I.tok _, ⟨_, rfl⟩, q⟩
  | str x =>
    obtain ⟨t, rfl⟩ := rv
    exact PySem.P.repr_of_str ⟨.str (reprText x), H, I.tok _, ⟨_, rfl⟩, q⟩ (hsz := h2)
  | @lst a xs ds hs ha =>
    cases rv
    exact repr_of_reads' rd h1 (fun z => by rw [h4] at z; cases z) hg (by omega) (fun _ _ e => e) (fun h' u tk kp => ⟨.str _, H, I.kept kp, ⟨_, rfl⟩, q⟩) h2
  | @tup a xs ds hs ha =>
    cases rv
    exact repr_of_reads' rd h1 (fun z => by rw [h4] at z; cases z) hg (by omega) (fun _ _ e => e) (fun h' u tk kp => ⟨.str _, H, I.kept kp, ⟨_, rfl⟩, q⟩) h2

/-! ### dicts of keys that are ints and texts -/
theorem kV_rep {Av : Addr → Prop} {H : Hp} {d : D} {k : Key} {v : V} (e : keyD d = some k) (h : Rep G Av H d v) : v = L2.kV k ∧ d = kD k := by
  cases d with
  | int i => cases e; exact ⟨h, rfl⟩
  | str x => cases e; exact ⟨h, rfl⟩
  | _ => cases e
theorem rep_kV {Av : Addr → Prop} {H : Hp} (k : Key) : Rep G Av H (kD k) (L2.kV k) := by cases k <;> exact (rfl : _ = _)
/-- the pairs of a dict -/
def KR (G : Gs) (Av : Addr → Prop) (H : Hp) : List (Key × D) → List (Key × V) → Prop
  | [], q => q = []
  | p :: ps, q => ∃ v r, q = (p.1, v) :: r ∧ Rep G Av H p.2 v ∧ KR G Av H ps r
theorem KR.keys {Av : Addr → Prop} {H : Hp} : ∀ {ps : List (Key × D)} {q : List (Key × V)}, KR G Av H ps q → q.map (·.1) = ps.map (·.1)
  | [], q, h => by rw [show q = [] from h]; rfl
  | p :: ps, q, ⟨v, r, e, _, h⟩ => by rw [e, List.map_cons, List.map_cons, KR.keys h]
theorem KR.reps {Av : Addr → Prop} {H : Hp} : ∀ {ps : List (Key × D)} {q : List (Key × V)}, KR G Av H ps q → Reps G Av H (ps.map (·.2)) (q.map (·.2))
  | [], q, h => by rw [show q = [] from h]; rfl
  | p :: ps, q, ⟨v, r, e, hv, h⟩ => by rw [e]; exact ⟨v, _, rfl, hv, KR.reps h⟩
theorem KR.append {Av : Addr → Prop} {H : Hp} {ps' : List (Key × D)} {q' : List (Key × V)} (h' : KR G Av H ps' q') : ∀ {ps : List (Key × D)} {q : List (Key × V)}, KR G Av H ps q → KR G Av H (ps ++ ps') (q ++ q')
  | [], q, h => by rw [show q = [] from h]; exact h'
  | p :: ps, q, ⟨v, r, e, hv, h⟩ => by rw [e]; exact ⟨v, _, rfl, hv, KR.append h' h⟩
theorem KR.any {Av : Addr → Prop} {H : Hp} {k : Key} : ∀ {ps : List (Key × D)} {q : List (Key × V)}, KR G Av H ps q → (q.any fun kv => decide (kv.1 = k)) = ps.any fun kv => decide (kv.1 = k)
  | [], q, h => by rw [show q = [] from h]; rfl
  | p :: ps, q, ⟨v, r, e, hv, h⟩ => by rw [e, List.any_cons, List.any_cons, KR.any h]
theorem KR.chg {Av : Addr → Prop} {H : Hp} {k : Key} {d : D} {v : V} (hd : Rep G Av H d v) : ∀ {ps : List (Key × D)} {q : List (Key × V)}, KR G Av H ps q → KR G Av H (ps.map fun kv => if kv.1 = k then (kv.1, d) else kv) (q.map fun kv => if kv.1 = k then (kv.1, v) else kv)
  | [], q, h => by rw [show q = [] from h]; rfl
  | p :: ps, q, ⟨w, r, e, hv, h⟩ => by
    rw [e, List.map_cons, List.map_cons]
    by_cases z : p.1 = k
    · rw [if_pos z, if_pos z]; exact ⟨v, _, rfl, hd, KR.chg hd h⟩
    · rw [if_neg z, if_neg z]; exact ⟨w, _, rfl, hv, KR.chg hd h⟩
theorem KR.put {Av : Addr → Prop} {H : Hp} {k : Key} {d : D} {v : V} {ps : List (Key × D)} {q : List (Key × V)} (h : KR G Av H ps q) (hd : Rep G Av H d v) : KR G Av H (putG ps k d) (L2.putK q k v) := by
  unfold putG L2.putK
  rw [h.any]
  split
  · exact h.chg hd
  · exact KR.append (show KR G Av H [(k, d)] [(k, v)] from ⟨v, [], rfl, hd, rfl⟩) h
theorem KR.merge {Av : Addr → Prop} {H : Hp} : ∀ {ms : List (Key × D)} {mq : List (Key × V)} {ps : List (Key × D)} {q : List (Key × V)}, KR G Av H ms mq → KR G Av H ps q → KR G Av H (mergeG ps ms) (L2.mergeK q mq)
  | [], mq, ps, q, hm, h => by rw [show mq = [] from hm]; exact h
  | m :: ms, mq, ps, q, ⟨v, r, e, hv, hm⟩, h => by
    rw [e]
    show KR G Av H (mergeG (putG ps m.1 m.2) ms) (L2.mergeK (L2.putK q m.1 v) r)
    exact KR.merge hm (h.put hv)
theorem zip_fs {α β : Type} : ∀ l : List (α × β), (l.map (·.1)).zip (l.map (·.2)) = l
  | [] => rfl
  | (a, b) :: r => by rw [List.map_cons, List.map_cons, List.zip_cons_cons, zip_fs r]
theorem KR.dic {Av : Addr → Prop} {H : Hp} {ps : List (Key × D)} {q : List (Key × V)} {p : Addr} (n : H p = none) (h : KR G Av H ps q) : PPost G Av H (.nw (dicG ps)) (.ref p) (upd H p (.dK q)) :=
  ⟨ext_upd n, p, rfl, n, ⟨_, upd_same⟩, p, q.map (·.2), rfl, .inl ⟨q.map (·.1), by rw [h.keys, List.map_map]; rfl, by rw [List.length_map, List.length_map], by rw [zip_fs]; exact upd_same⟩, h.reps.laid n⟩
theorem pairs_of {K : PySem.W.Frag} {Av : Addr → Prop} {H : Hp} : ∀ {ds : List D} {ms : List (Key × D)} {vs : List V}, pairsD ds = some ms → Reps G Av H ds vs → ∃ (ps : List Addr) (kvs : List (Key × V)), vs = ps.map V.ref ∧ Paired (fun p kv => SqT K H p [L2.kV kv.1, kv.2]) ps kvs ∧ KR G Av H ms kvs
  | [], ms, vs, e, h => by cases e; exact ⟨[], [], h, .nil, rfl⟩
  | d :: ds, ms, vs, e, ⟨v, r, e1, hv, h⟩ => by
    obtain ⟨p, e2, e⟩ := Option.bind_eq_some_iff.mp (show (pairD d).bind (fun p => (pairsD ds).map fun ps => p :: ps) = some ms from e)
    obtain ⟨ms', e3, rfl⟩ := Option.map_eq_some_iff.mp e
    obtain ⟨ps, kvs, h1, h2, h3⟩ := pairs_of (K := K) e3 h
    cases d with
    | tup xs =>
      match xs, e2, hv with
      | [k, y], e2, hv =>
        obtain ⟨kk, e4, rfl⟩ := Option.map_eq_some_iff.mp (show (keyD k).map (fun k => (k, y)) = some p from e2)
        obtain ⟨a, ws, rfl, _, g1, g2⟩ := hv
        obtain ⟨u, _, rfl, q1, u2, _, rfl, q2, q3⟩ := g2
        cases q3
        obtain ⟨rfl, _⟩ := kV_rep e4 q1
        exact ⟨a :: ps, (kk, u2) :: kvs, by rw [e1, h1]; rfl, .cons (SqT.of g1) h2, u2, kvs, rfl, q2, h3⟩
    | _ => cases e2
theorem keys_of : ∀ {ds : List D} {kk : List Key}, keysD ds = some kk → ds = kk.map kD
  | [], kk, e => by cases e; rfl
  | d :: ds, kk, e => by
    obtain ⟨p, e2, e⟩ := Option.bind_eq_some_iff.mp (show (keyD d).bind (fun p => (keysD ds).map fun ps => p :: ps) = some kk from e)
    obtain ⟨ms', e3, rfl⟩ := Option.map_eq_some_iff.mp e
    rw [List.map_cons, ← keys_of e3]
    cases d with
    | int i => cases e2; rfl
    | str x => cases e2; rfl
    | _ => cases e2
theorem zip_keys : ∀ (ks : List Key) (ws : List V), ks.length = ws.length → (ks.zip ws).map (fun kv => L2.kV kv.1) = ks.map L2.kV
  | [], _, _ => rfl
  | k :: ks, [], h => by cases h
  | k :: ks, w :: ws, h => by
    rw [List.zip_cons_cons, List.map_cons, List.map_cons, zip_keys ks ws (by simpa using h)]
theorem kD_inj {a b : Key} (h : kD a = kD b) : a = b := by
  cases a <;> cases b <;> first | (cases h; rfl) | (cases h)
theorem kDs_inj : ∀ {a b : List Key}, a.map kD = b.map kD → a = b
  | [], [], _ => rfl
  | a :: as, b :: bs, h => by
    rw [List.map_cons, List.map_cons] at h
    injection h with h1 h2
    rw [kD_inj h1, kDs_inj h2]
  | [], _ :: _, h => by cases h
  | _ :: _, [], h => by cases h
theorem reps_keys {Av : Addr → Prop} {H : Hp} : ∀ kk : List Key, Reps G Av H (kk.map kD) (kk.map L2.kV)
  | [] => rfl
  | k :: kk => ⟨L2.kV k, kk.map L2.kV, rfl, rep_kV k, reps_keys kk⟩

theorem o_bi {k : Nat} (hr : Room k X.A) (hg : X.A.guards = some []) (hc : X.calm = true) (bi : BI) : CallR X bi.val (rBI G (biD bi)) := by
  rintro pins s σ H vs us Q I r ⟨Av, ds, ro, dm, vx, h, kk⟩
  obtain ⟨d, rfl⟩ : ∃ d, ds = [d] := by
    cases ds with
    | nil => cases h
    | cons d ds =>
      cases ds with
      | nil => exact ⟨d, rfl⟩
      | cons e ds => cases h
  have h : bi1 bi d = some ro := h
  obtain ⟨v, rfl, vd⟩ := one_vx vx
  have blk : ∀ b, PPost G Av H (bo b) (.bl b) H := fun b => PPost.val (d := .bl b) rfl
  cases bi with
  | len =>
    obtain ⟨n, e, rfl⟩ := map_some (show (lenD d).map (fun n : Nat => RO.sh (.int (n : Int))) = some ro from h)
    have fin : PPost G Av H (.sh (.int n)) (.int n) H := PPost.val (d := .int n) rfl
    cases d with
    | lst ds =>
      cases e
      obtain ⟨a, ws, rfl, h1, h2⟩ := vd.lst
      exact call_len pins s σ H _ us Q I r ⟨.ref a, ds.length, rfl, .inl ⟨ws, SqL.of h1, h2.length.symm⟩, kk _ _ fin⟩
    | tup ds =>
      cases e
      obtain ⟨a, ws, rfl, _, h1, h2⟩ := vd.tup
      exact call_len pins s σ H _ us Q I r ⟨.ref a, ds.length, rfl, .inr ⟨ws, SqT.of h1, h2.length.symm⟩, kk _ _ fin⟩
    | str x =>
      have e : (if x.length ≤ sizeLine then some x.length else none) = some n := e
      split at e
      · rename_i hz
        cases e
        cases vd.str
        exact call_len pins s σ H _ us Q I r ⟨.str x, x.length, rfl, ⟨hz, rfl⟩, kk _ _ fin⟩
      · cases e
    | _ => cases e
  | int =>
    cases d with
    | int i => cases h; cases vd.int; exact call_int1 pins s σ H _ us Q I r (.inl ⟨i, rfl, kk _ _ (PPost.val (d := .int i) rfl)⟩)
    | bl b => cases h; cases vd.bl; exact call_int1 pins s σ H _ us Q I r (.inr ⟨b, rfl, kk _ _ (PPost.val (d := .int (if b then 1 else 0)) rfl)⟩)
    | _ => cases h
  | abs =>
    cases d with
    | int i => cases h; cases vd.int; exact call_abs pins s σ H _ us Q I r ⟨i, rfl, kk _ _ (PPost.val (d := .int (if i < 0 then -i else i)) rfl)⟩
    | _ => cases h
  | bool =>
    cases d with
    | int i => cases h; cases vd.int; exact call_bool1 pins s σ H _ us Q I r (.inl ⟨i, rfl, kk _ _ (blk _)⟩)
    | bl b => cases h; cases vd.bl; exact call_bool1 pins s σ H _ us Q I r (.inr ⟨b, rfl, kk _ _ (blk _)⟩)
    | _ => cases h
  | str =>
    cases d with
    | int i =>
      have h : (if i.natAbs.log2 < 1920 then some (RO.sh (.str (toString i))) else none) = some ro := h
      split at h
      · rename_i hz
        cases h; cases vd.int
        exact call_str_int pins s σ H _ us Q I r ⟨i, rfl, hz, kk _ _ (PPost.val (d := .str (toString i)) rfl)⟩
      · cases h
    | _ => cases h
  | repr =>
    obtain ⟨p, e1, h⟩ := Option.bind_eq_some_iff.mp (show reprD d = some ro from h)
    split at h
    · rename_i hz
      cases h
      simp only [decide_eq_true_eq, Bool.and_eq_true] at hz
      exact o_repr hr hg pins s σ H _ us Q I r ⟨v, p, rfl, toP_vx vd e1, hz.1.1, hz.1.2, hz.2, toP_hasDict d e1, kk _ _ (PPost.val (d := .str p.shown) rfl)⟩
    · cases h
  | list =>
    cases d with
    | lst ds =>
      cases h
      obtain ⟨a, ws, rfl, h1, h2⟩ := vd.lst
      exact call_list_of pins s σ H _ us Q I r ⟨a, ws, rfl, .inl (SqL.of h1), fun p n => kk _ _ (PPost.lst n h2)⟩
    | tup ds =>
      cases h
      obtain ⟨a, ws, rfl, _, h1, h2⟩ := vd.tup
      exact call_list_of pins s σ H _ us Q I r ⟨a, ws, rfl, .inr (SqT.of h1), fun p n => kk _ _ (PPost.lst n h2)⟩
    | dic ks ds =>
      have h : (if ks.length = ds.length then (keysD ks).map fun _ => RO.nw (.lst ks) else none) = some ro := h
      split at h
      · rename_i hl
        obtain ⟨kk', e1, rfl⟩ := Option.map_eq_some_iff.mp h
        have ek := keys_of e1
        obtain ⟨a, ws, rfl, h1, h2⟩ := vd.1
        rcases h1 with ⟨kk2, g1, g2, g3⟩ | ⟨kk2, g1, g2, g3⟩
        · have : kk' = kk2 := kDs_inj (ek.symm.trans g1)
          subst this
          refine call_listD hc pins s σ H _ us Q I r ⟨a, _, rfl, .inl g3, fun p n => ?_⟩
          rw [zip_keys kk' ws g2]
          exact kk _ _ (PPost.lst n (ek ▸ reps_keys kk'))
        · rw [g1] at ek
          cases kk2 with
          | nil => exact absurd rfl g2.2
          | cons x xs => cases kk' with
            | nil => cases ek
            | cons y ys =>
              rw [List.map_cons, List.map_cons] at ek
              injection ek with ek _
              cases y <;> cases ek
      · cases h
    | _ => cases h
  | dict =>
    cases d with
    | lst ds =>
      obtain ⟨ms, e, rfl⟩ := map_some (show (pairsD ds).map (fun ps => RO.nw (dicG (mergeG [] ps))) = some ro from h)
      obtain ⟨a, ws, rfl, h1, h2⟩ := vd.lst
      obtain ⟨ps, kvs, rfl, g2, g3⟩ := pairs_of (K := X.K) e h2
      exact call_dictP hc pins s σ H _ us Q I r ⟨a, ps, kvs, rfl, SqL.of h1, g2, fun p n => kk _ _ (KR.dic n (KR.merge g3 (show KR G Av H [] [] from rfl)))⟩
    | _ => cases h
  | tuple =>
    cases d with
    | lst ds =>
      cases h
      obtain ⟨a, ws, rfl, h1, h2⟩ := vd.lst
      exact call_tuple_of pins s σ H _ us Q I r ⟨a, ws, rfl, .inl ⟨SqL.of h1, fun p n => kk _ _ (PPost.tup n h2)⟩⟩
    | tup ds =>
      cases h
      obtain ⟨a, ws, rfl, _, h1, h2⟩ := vd.tup
      exact call_tuple_of pins s σ H _ us Q I r ⟨a, ws, rfl, .inr ⟨SqT.of h1, kk _ _ (PPost.val (vd.rep rfl))⟩⟩
    | _ => cases h
  | sum =>
    cases d with
    | lst ds =>
      obtain ⟨is, e, rfl⟩ := map_some (show (allI ds).map (fun is => RO.sh (.int is.sum)) = some ro from h)
      obtain ⟨a, ws, rfl, h1, h2⟩ := vd.lst
      cases allI_reps e h2
      exact cr_sum hc pins s σ H _ us Q I r ⟨a, is, rfl, SqL.of h1, kk _ _ (PPost.val (d := .int is.sum) rfl)⟩
    | _ => cases h
  | all =>
    cases d with
    | lst ds =>
      obtain ⟨is, e, rfl⟩ := map_some (show (allB ds).map (fun bs => bo (bs.all id)) = some ro from h)
      obtain ⟨a, ws, rfl, h1, h2⟩ := vd.lst
      cases allB_reps e h2
      exact cr_all hc pins s σ H _ us Q I r ⟨a, is, rfl, SqL.of h1, kk _ _ (blk _)⟩
    | _ => cases h
  | any =>
    cases d with
    | lst ds =>
      obtain ⟨is, e, rfl⟩ := map_some (show (allB ds).map (fun bs => bo (bs.any id)) = some ro from h)
      obtain ⟨a, ws, rfl, h1, h2⟩ := vd.lst
      cases allB_reps e h2
      exact cr_any hc pins s σ H _ us Q I r ⟨a, is, rfl, SqL.of h1, kk _ _ (blk _)⟩
    | _ => cases h
  | _ => cases d <;> cases h
theorem s_bi {k : Nat} {g : SS → R (List RV)} {pn : Pos} (bi : BI) (hr : Room k X.A) (hgd : X.A.guards = some []) (hc : X.calm = true) (hg : Gl X (Str.ofString bi.nm)) (hm : X.mg (Str.ofString bi.nm) = none) (ha : PA X (e :: es) (tL G W (ErV G) g))
    (he : starEach (e :: es) X.env = (false, eval e X.env) :: starEach es X.env) (hpl : (backTo pos (starEach es X.env)).any (·.1) = false) :
    PE X (.Call (.Name (Str.ofString bi.nm) pn) (e :: es) [] pos) (tE G W (kBi (biD bi) g)) := by
  have key : PE X (.Call (.Name (Str.ofString bi.nm) pn) (e :: es) [] pos) (tCB (rBI G (biD bi)) (tL G W (ErV G) g)) := by
    have ho := o_bi (G := G) hr hgd hc bi
    have hb := bi.boot
    unfold BI.val at ho hb
    split at ho
    · rename_i z
      rw [if_pos z] at hb
      exact pe_callTy ho hg hm hb ha bi.nn bi.nd he hpl
    · rename_i z
      rw [if_neg z] at hb
      exact pe_callB ho hg hm hb ha bi.nn bi.nd he hpl
  exact PE_imp key fun σ H Q h => tri_bi h
end
end Eng

namespace Eng
open PySem PySem.Spec L2
open PyProof.Rows hiding St

/-! ### slots given other values -/
theorem freeAt_get {S : SS} {i : Nat} (h : freeAt S i = true) : ∃ s, S[i]? = some s ∧ (s = .no ∨ (∃ d, s = .sh d) ∨ ∃ d, s = .ow d) := by
  unfold freeAt at h
  split at h
  · exact ⟨_, by assumption, .inl rfl⟩
  · exact ⟨_, by assumption, .inr (.inl ⟨_, rfl⟩)⟩
  · exact ⟨_, by assumption, .inr (.inr ⟨_, rfl⟩)⟩
  · cases h

/-- behind a statement -/
structure SPost (G : Gs) (Av : Addr → Prop) (S : SS) (σ : St) (H : Hp) (Av' : Addr → Prop) (S' : SS) (σ' : St) (H' : Hp) : Prop where
  frame : ∀ a o, H a = some o → ¬ Root S σ a → H' a = some o
  stay : ∀ a o, H a = some o → ∃ o', H' a = some o'
  sub : ∀ a, Av' a → Av a ∨ H a = none
  held : ∀ a, Av a → ¬ Root S σ a → Av' a
  roots : ∀ a, Root S' σ' a → Root S σ a ∨ H a = none
  ios : ∀ (i : Nat) d, S[i]? = some (.io d) → (∃ d', S'[i]? = some (.io d')) ∧ σ'[i]? = σ[i]?
  lks : ∀ (i : Nat) d, S[i]? = some (.lk d) → S'[i]? = some (.lk d) ∧ σ'[i]? = σ[i]?
  st : StOk G Av' S' σ' H'

section
variable {G : Gs} {Av Av1 Av2 : Addr → Prop} {S S1 S2 : SS} {σ σ1 σ2 : St} {H H1 H2 : Hp}
theorem Post.s (p : Post G Av S σ H Av1 S1 H1) : SPost G Av S σ H Av1 S1 σ H1 :=
  ⟨p.frame, p.stay, p.sub, p.held, fun a r => .inl (p.root r), fun i d q => ⟨p.ios i d q, rfl⟩, fun i d q => ⟨p.lks i d q, rfl⟩, p.st⟩
theorem SPost.back_none (p : SPost G Av S σ H Av1 S1 σ1 H1) {a : Addr} (h : H1 a = none) : H a = none := by
  cases e : H a with
  | none => rfl
  | some o => obtain ⟨o', h'⟩ := p.stay a o e; rw [h'] at h; cases h
theorem SPost.trans (st : StOk G Av S σ H) (p : SPost G Av S σ H Av1 S1 σ1 H1) (q : SPost G Av1 S1 σ1 H1 Av2 S2 σ2 H2) : SPost G Av S σ H Av2 S2 σ2 H2 := by
  have nr : ∀ {a o}, H a = some o → ¬ Root S σ a → ¬ Root S1 σ1 a := fun {a o} h n r => (p.roots a r).elim n fun z => by rw [h] at z; cases z
  refine ⟨fun a o h n => q.frame a o (p.frame a o h n) (nr h n), fun a o h => let ⟨o', h'⟩ := p.stay a o h; q.stay a o' h', fun a h => ?_, fun a h n => ?_, fun a r => ?_, fun i d h => ?_, fun i d h => ?_, q.st⟩
  · rcases q.sub a h with h | h
    · exact p.sub a h
    · exact .inr (p.back_none h)
  · refine q.held a (p.held a h n) fun r => ?_
    rcases p.roots a r with z | z
    · exact n z
    · obtain ⟨o, z'⟩ := st.dom a h
      rw [z] at z'; cases z'
  · rcases q.roots a r with z | z
    · exact p.roots a z
    · exact .inr (p.back_none z)
  · obtain ⟨⟨d', h1⟩, e1⟩ := p.ios i d h
    obtain ⟨h2, e2⟩ := q.ios i d' h1
    exact ⟨h2, e2.trans e1⟩
  · obtain ⟨h1, e1⟩ := p.lks i d h
    obtain ⟨h2, e2⟩ := q.lks i d h1
    exact ⟨h2, e2.trans e1⟩

/-- a slot that is free takes a shared value -/
theorem StOk.put (st : StOk G Av S σ H) {i : Nat} {d : D} {v : V} (hf : freeAt S i = true) (hv : Rep G Av H d v) : SPost G Av S σ H Av (S.set i (.sh d)) (σ.set i (some v)) H := by
  obtain ⟨s, hs, hk⟩ := freeAt_get hf
  have hi : i < S.length := (List.getElem?_eq_some_iff.mp hs).1
  have hiσ : i < σ.length := by rw [← st.len]; exact hi
  have hol : ∀ j, Holds (S.set i (.sh d)) j → Holds S j ∧ j ≠ i := fun j ⟨s, e, q, r⟩ => by
    rcases get_set_cases q with ⟨_, rfl⟩ | ⟨z, q⟩
    · cases r
    · exact ⟨⟨s, e, q, r⟩, z⟩
  have atE : ∀ {j a}, j ≠ i → At (σ.set i (some v)) j a → At σ j a := fun {j a} n h => by
    have h : (σ.set i (some v))[j]? = some (some (.ref a)) := h
    rw [set_ne n] at h; exact h
  have ni : ∀ (j : Nat) e, S[j]? = some (.io e) ∨ S[j]? = some (.lk e) → j ≠ i := fun j e h z => by
    subst z
    rw [hs] at h
    rcases hk with rfl | ⟨x, rfl⟩ | ⟨x, rfl⟩ <;> (rcases h with h | h <;> cases h)
  refine ⟨fun a o q _ => q, fun a o q => ⟨o, q⟩, fun a q => .inl q, fun a q _ => q, fun a ⟨j, ⟨s, e, q, r⟩, ha⟩ => ?_, fun j e q => ⟨⟨e, ?_⟩, ?_⟩, fun j e q => ⟨?_, ?_⟩, ?_⟩
  · obtain ⟨⟨s', e', q', r'⟩, n⟩ := hol j ⟨s, e, q, s.mu_rt r⟩
    rw [set_ne n] at q
    exact .inl ⟨j, ⟨s, e, q, r⟩, atE n ha⟩
  · rw [set_ne (ni j e (.inl q))]; exact q
  · rw [set_ne (ni j e (.inl q))]
  · rw [set_ne (ni j e (.inr q))]; exact q
  · rw [set_ne (ni j e (.inr q))]
  · refine ⟨by rw [List.length_set, List.length_set]; exact st.len, st.dom, fun j e q => ?_, fun j s e q r => ?_, fun j k a h1 h2 h3 h4 => st.dis j k a (hol j h1).1 (hol k h2).1 (atE (hol j h1).2 h3) (atE (hol k h2).2 h4)⟩
    · rcases get_set_cases q with ⟨rfl, z⟩ | ⟨z, q⟩
      · cases z
        exact ⟨v, by rw [List.getElem?_set_self hiσ], hv⟩
      · rw [set_ne z]; exact st.sh j e q
    · obtain ⟨_, n⟩ := hol j ⟨s, e, q, r⟩
      rw [set_ne n] at q
      obtain ⟨p, h1, h2⟩ := st.ow j s e q r
      exact ⟨p, by show (σ.set i (some v))[j]? = _; rw [set_ne n]; exact h1, h2⟩
/-- .. a fresh one, which it owns then -/
theorem StOk.putO (st : StOk G Av S σ H) {i : Nat} {d : D} {p : Addr} (hf : freeAt S i = true) (hv : Vw G Av H d (.ref p)) (hm : MutD d = true) (hp : Av p) (hn : ∀ j, Holds S j → ¬ At σ j p) :
    StOk G Av (S.set i (.ow d)) (σ.set i (some (.ref p))) H ∧ (∀ a, Root (S.set i (.ow d)) (σ.set i (some (.ref p))) a → Root S σ a ∨ a = p) ∧
    (∀ (j : Nat) e, S[j]? = some (.io e) ∨ S[j]? = some (.lk e) → (S.set i (.ow d))[j]? = S[j]? ∧ (σ.set i (some (.ref p)))[j]? = σ[j]?) := by
  obtain ⟨s, hs, hk⟩ := freeAt_get hf
  have hi : i < S.length := (List.getElem?_eq_some_iff.mp hs).1
  have hiσ : i < σ.length := by rw [← st.len]; exact hi
  have hol : ∀ j, Holds (S.set i (.ow d)) j → j ≠ i → Holds S j := fun j ⟨s, e, q, r⟩ n => by
    rw [set_ne n] at q
    exact ⟨s, e, q, r⟩
  have atE : ∀ {j a}, j ≠ i → At (σ.set i (some (.ref p))) j a → At σ j a := fun {j a} n h => by
    have h : (σ.set i (some (.ref p)))[j]? = some (some (.ref a)) := h
    rw [set_ne n] at h; exact h
  have atI : ∀ {a}, At (σ.set i (some (.ref p))) i a → a = p := fun {a} h => by
    have h : (σ.set i (some (.ref p)))[i]? = some (some (.ref a)) := h
    rw [List.getElem?_set_self hiσ] at h
    cases h; rfl
  refine ⟨⟨by rw [List.length_set, List.length_set]; exact st.len, st.dom, fun j e q => ?_, fun j s e q r => ?_, fun j k a h1 h2 h3 h4 => ?_⟩, fun a ⟨j, ⟨s, e, q, r⟩, ha⟩ => ?_, fun j e h => ?_⟩
  · rcases get_set_cases q with ⟨rfl, z⟩ | ⟨z, q⟩
    · cases z
    · rw [set_ne z]; exact st.sh j e q
  · by_cases n : j = i
    · subst n
      rw [List.getElem?_set_self hi] at q
      cases q; cases r
      exact ⟨p, by show (σ.set j (some (.ref p)))[j]? = _; rw [List.getElem?_set_self hiσ], hp, hv, hm⟩
    · rw [set_ne n] at q
      obtain ⟨p', h1, h2⟩ := st.ow j s e q r
      exact ⟨p', by show (σ.set i (some (.ref p)))[j]? = _; rw [set_ne n]; exact h1, h2⟩
  · by_cases n : j = i
    · by_cases m : k = i
      · exact n.trans m.symm
      · subst n
        cases atI h3
        exact absurd (atE m h4) (hn k (hol k h2 m))
    · by_cases m : k = i
      · subst m
        cases atI h4
        exact absurd (atE n h3) (hn j (hol j h1 n))
      · exact st.dis j k a (hol j h1 n) (hol k h2 m) (atE n h3) (atE m h4)
  · by_cases n : j = i
    · subst n; exact .inr (atI ha)
    · rw [set_ne n] at q
      exact .inl ⟨j, ⟨s, e, q, r⟩, atE n ha⟩
  · have n : j ≠ i := fun z => by
      subst z
      rw [hs] at h
      rcases hk with rfl | ⟨x, rfl⟩ | ⟨x, rfl⟩ <;> (rcases h with h | h <;> cases h)
    exact ⟨set_ne n, set_ne n⟩
end
end Eng

namespace Eng
open PySem PySem.Spec L2
open PyProof.Rows hiding St
section
variable {G : Gs} {Av Av1 Av2 : Addr → Prop} {S S1 S2 : SS} {σ σ1 σ2 : St} {H H1 H2 : Hp}

/-! ### targets -/
def Tg.slots : Tg → List Nat
  | .nm i => [i]
  | .nil => []
  | .cons a b => a.slots ++ b.slots
  | .tup l => l.slots
theorem SPost.refl (st : StOk G Av S σ H) : SPost G Av S σ H Av S σ H := (Post.refl st).s
def Only (σ σ' : St) (l : List Nat) : Prop := σ'.length = σ.length ∧ ∀ j, j ∉ l → σ'[j]? = σ[j]?
/-- the slots of S' behind S: shared ones at l -/
def OnlyS (S S' : SS) (l : List Nat) : Prop := S'.length = S.length ∧ ∀ j, (j ∉ l → S'[j]? = S[j]?) ∧ (S'[j]? = S[j]? ∨ ∃ d, S'[j]? = some (.sh d))
def tG (G : Gs) (tg : Tg) : TG := fun v σ H Q => ∃ Av S d S', StOk G Av S σ H ∧ Rep G Av H d v ∧ assign tg d S = some S' ∧ ∀ σ', SPost G Av S σ H Av S' σ' H → Only σ σ' tg.slots → OnlyS S S' tg.slots → Q σ' H
def tGs (G : Gs) (tg : Tg) : TGs := fun vs σ H Q => ∃ Av S ds S', StOk G Av S σ H ∧ Reps G Av H ds vs ∧ assign.assigns tg ds S = some S' ∧ ∀ σ', SPost G Av S σ H Av S' σ' H → Only σ σ' tg.slots → OnlyS S S' tg.slots → Q σ' H
variable {X : Cx} {W : WX} {e : Expr} {es : List Expr} {pos : Pos}
theorem g_name {i : Nat} {x : Str} (hN : X.N.Nodup) (hi : X.N[i]? = some x) (hx : Loc X.env.scope x) (hf : X.fn x = true ∨ X.env.scope.names.lookup x = some .local) : PG X (.Name x pos) (tG G (.nm i)) :=
  ⟨fun pins s σ H v u Q I r h => (pg_name hN hi hx hf).run pins s σ H v u Q I r (by
    obtain ⟨Av, S, d, S', st, hv, e, k⟩ := h
    have e : (if freeAt S i then some (S.set i (.sh d)) else none) = some S' := e
    split at e
    · rename_i hz
      cases e
      refine k _ (st.put hz hv) ⟨List.length_set, fun j n => set_ne fun z => n (by simp [Tg.slots, z])⟩ ⟨List.length_set, fun j => ⟨fun n => set_ne fun z => n (by simp [Tg.slots, z]), ?_⟩⟩
      by_cases z : j = i
      · subst z
        obtain ⟨s, hs, _⟩ := freeAt_get hz
        exact .inr ⟨d, set_eq hs⟩
      · exact .inl (set_ne z)
    · cases e)⟩
theorem g_tup {k : Nat} {l : Tg} {n : Nat} (hc : X.calm = true) (h : PGs X es (tGs G l)) (hn : (assignEach es X.env).length = n) (hl : ∀ ds S S', assign.assigns l ds S = some S' → ds.length = n) (hst : (assignEach es X.env).findIdx? (·.1) = none) : PG X (.Tuple es k pos) (tG G (.tup l)) :=
  ⟨fun pins s σ H v u Q I r h' => (pg_tup hc h hn hst).run pins s σ H v u Q I r (by
    obtain ⟨Av, S, d, S', st, hv, e, k⟩ := h'
    cases d with
    | tup ds =>
      obtain ⟨a, vs, rfl, h1, h2, h3⟩ := hv
      exact ⟨a, vs, rfl, SqT.of h2, by rw [h3.length]; exact hl _ _ _ e, Av, S, ds, S', st, h3, e, k⟩
    | _ => cases e)⟩
theorem g_nil : PGs X [] (tGs G .nil) :=
  ⟨fun pins s σ H vs us Q I r h => pgs_nil.run pins s σ H vs us Q I r (by
    obtain ⟨Av, S, ds, S', st, hv, e, k⟩ := h
    cases ds with
    | nil => cases e; exact ⟨hv, k σ (.refl st) ⟨rfl, fun _ _ => rfl⟩ ⟨rfl, fun _ => ⟨fun _ => rfl, .inl rfl⟩⟩⟩
    | cons _ _ => cases e)⟩
theorem g_cons {a b : Tg} (h1 : PG X e (tG G a)) (h2 : PGs X es (tGs G b)) (hs : (assignEach (e :: es) X.env).map (·.2) = PySem.assign e X.env :: (assignEach es X.env).map (·.2)) : PGs X (e :: es) (tGs G (.cons a b)) :=
  ⟨fun pins s σ H vs us Q I r h => (pgs_cons h1 h2 hs).run pins s σ H vs us Q I r (by
    obtain ⟨Av, S, ds, S', st, hv, e, k⟩ := h
    cases ds with
    | nil => cases e
    | cons d ds =>
      obtain ⟨v, r', rfl, hd, hds⟩ := hv
      obtain ⟨S1, e1, e2⟩ := Option.bind_eq_some_iff.mp (show (assign a d S).bind (assign.assigns b ds) = some S' from e)
      refine ⟨v, r', rfl, Av, S, d, S1, st, hd, e1, fun σ1 P1 o1 s1 => ⟨Av, S1, ds, S', P1.st, hds, e2, fun σ2 P2 o2 s2 => k σ2 (SPost.trans st P1 P2) ⟨o2.1.trans o1.1, fun j n => ?_⟩ ⟨s2.1.trans s1.1, fun j => ⟨fun n => ?_, ?_⟩⟩⟩⟩
      · simp only [Tg.slots, List.mem_append, not_or] at n
        rw [o2.2 j n.2, o1.2 j n.1]
      · simp only [Tg.slots, List.mem_append, not_or] at n
        rw [(s2.2 j).1 n.2, (s1.2 j).1 n.1]
      · rcases (s2.2 j).2 with z | z
        · rw [z]; exact (s1.2 j).2
        · exact .inr z)⟩
def Tg.len : Tg → Nat
  | .nil => 0
  | .cons _ b => b.len + 1
  | _ => 0
theorem assigns_len' : ∀ {l : Tg} {ds : List D} {S S' : SS}, assign.assigns l ds S = some S' → ds.length = l.len
  | .nil, ds, S, S', h => by
    cases ds with
    | nil => rfl
    | cons _ _ => cases h
  | .cons a b, ds, S, S', h => by
    cases ds with
    | nil => cases h
    | cons d ds =>
      obtain ⟨S1, _, e2⟩ := Option.bind_eq_some_iff.mp (show (assign a d S).bind (assign.assigns b ds) = some S' from h)
      show ds.length + 1 = b.len + 1
      rw [assigns_len' e2]
  | .nm _, ds, S, S', h => by cases ds <;> cases h
  | .tup _, ds, S, S', h => by cases ds <;> cases h

/-! ### a block's slots -/
theorem wipeS_length (S : SS) : ∀ l, (wipeS S l).length = S.length
  | [] => rfl
  | v :: vs => by unfold wipeS; rw [List.length_set, wipeS_length S vs]
theorem wipeS_out {S : SS} {j : Nat} : ∀ {l}, j ∉ l → (wipeS S l)[j]? = S[j]?
  | [], _ => rfl
  | v :: vs, n => by
    unfold wipeS
    rw [set_ne fun z => n (by simp [z])]
    exact wipeS_out fun z => n (by simp [z])
theorem wipeS_in {S : SS} {j : Nat} {s : SV} : ∀ {l}, j ∈ l → (wipeS S l)[j]? = some s → s = .no
  | v :: vs, h, e => by
    unfold wipeS at e
    rcases get_set_cases e with ⟨_, z⟩ | ⟨z, e⟩
    · exact z
    · exact wipeS_in ((List.mem_cons.mp h).resolve_left z) e
theorem wipe_out {σ : St} {j : Nat} : ∀ {l}, j ∉ l → (wipe σ l)[j]? = σ[j]?
  | [], _ => rfl
  | v :: vs, n => by
    unfold wipe
    rw [set_ne fun z => n (by simp [z])]
    exact wipe_out fun z => n (by simp [z])
theorem backS_length (T S : SS) : ∀ l, (backS T S l).length = S.length
  | [] => rfl
  | v :: vs => by unfold backS; rw [List.length_set, backS_length T S vs]
theorem backS_out {T S : SS} {j : Nat} : ∀ {l}, j ∉ l → (backS T S l)[j]? = S[j]?
  | [], _ => rfl
  | v :: vs, n => by
    unfold backS
    rw [set_ne fun z => n (by simp [z])]
    exact backS_out fun z => n (by simp [z])
theorem backS_in {T S : SS} {j : Nat} (hl : T.length = S.length) : ∀ {l}, j ∈ l → (backS T S l)[j]? = T[j]?
  | v :: vs, h => by
    unfold backS
    by_cases z : j = v
    · subst z
      by_cases hj : j < S.length
      · rw [List.getElem?_set_self (by rw [backS_length]; exact hj)]
        rw [List.getElem?_eq_getElem (by rw [hl]; exact hj)]; rfl
      · rw [List.getElem?_eq_none (by rw [List.length_set, backS_length]; omega), List.getElem?_eq_none (by omega)]
    · rw [set_ne z]
      exact backS_in hl ((List.mem_cons.mp h).resolve_left z)
theorem wipe_only {σ σ' : St} {own l : List Nat} (o : Only (wipe σ own) σ' l) (hs : ∀ j ∈ l, j ∈ own) : wipe σ' own = wipe σ own := by
  apply List.ext_getElem?
  intro j
  by_cases h : j ∈ own
  · have key : ∀ (τ : St) (vs : List Nat), j ∈ vs → j < τ.length → (wipe τ vs)[j]? = some none := by
      intro τ vs
      induction vs with
      | nil => intro h; cases h
      | cons v vs ih =>
        intro h hl
        unfold wipe
        by_cases z : j = v
        · subst z
          rw [List.getElem?_set_self (by rw [wipe_length]; exact hl)]
        · rw [set_ne z]
          exact ih ((List.mem_cons.mp h).resolve_left z) hl
    have ll : σ'.length = σ.length := o.1.trans (wipe_length σ own)
    by_cases hj : j < σ.length
    · rw [key σ' own h (by omega), key σ own h hj]
    · rw [List.getElem?_eq_none (by rw [wipe_length]; omega), List.getElem?_eq_none (by rw [wipe_length]; omega)]
  · rw [wipe_out h, o.2 j fun z => h (hs j z)]
/-- into a block -/
theorem StOk.inner (st : StOk G Av S σ H) (own : List Nat) : StOk G Av (wipeS S own) (wipe σ own) H := by
  have hol : ∀ {j s}, (wipeS S own)[j]? = some s → s ≠ .no → j ∉ own ∧ S[j]? = some s := fun {j s} e n => by
    by_cases h : j ∈ own
    · exact absurd (wipeS_in h e) n
    · exact ⟨h, by rw [wipeS_out h] at e; exact e⟩
  have hol2 : ∀ {j}, Holds (wipeS S own) j → Holds S j ∧ j ∉ own := fun {j} ⟨s, d, q, r⟩ => by
    obtain ⟨h, e⟩ := hol q (by rintro rfl; cases r)
    exact ⟨⟨s, d, e, r⟩, h⟩
  have at' : ∀ {j a}, j ∉ own → At (wipe σ own) j a → At σ j a := fun {j a} n h => by
    have h : (wipe σ own)[j]? = some (some (.ref a)) := h
    rw [wipe_out n] at h; exact h
  refine ⟨by rw [wipeS_length, wipe_length]; exact st.len, st.dom, fun j d q => ?_, fun j s d q r => ?_, fun i j p h1 h2 h3 h4 => st.dis i j p (hol2 h1).1 (hol2 h2).1 (at' (hol2 h1).2 h3) (at' (hol2 h2).2 h4)⟩
  · obtain ⟨h, e⟩ := hol q (by intro z; cases z)
    rw [wipe_out h]; exact st.sh j d e
  · obtain ⟨h, e⟩ := hol q (by rintro rfl; cases r)
    obtain ⟨p, h1, h2⟩ := st.ow j s d e r
    exact ⟨p, by show (wipe σ own)[j]? = _; rw [wipe_out h]; exact h1, h2⟩
/-- out of a block: what stood in its slots stands there again -/
theorem Post.outer (st : StOk G Av S σ H) {own : List Nat} {S2 S5 : SS} {Av5 : Addr → Prop} {H5 : Hp} (e : Ext H H2)
    (o : Only (wipe σ own) σ2 own) (os : OnlyS (wipeS S own) S2 own) (st2 : StOk G Av S2 σ2 H2) (P : Post G Av S2 σ2 H2 Av5 S5 H5) : Post G Av S σ H Av5 (backS S S5 own) H5 := by
  have l2 : S2.length = S.length := os.1.trans (wipeS_length S own)
  have l5 : S5.length = S.length := by
    have h1 := P.st.len; have h2 := st2.len
    omega
  have σo : ∀ {j}, j ∉ own → σ2[j]? = σ[j]? := fun {j} n => by rw [o.2 j n, wipe_out n]
  have So : ∀ {j}, j ∉ own → S2[j]? = S[j]? := fun {j} n => by rw [(os.2 j).1 n, wipeS_out n]
  have S2no : ∀ {j s d}, j ∈ own → S2[j]? = some s → s.rt ≠ some d := fun {j s d} h q r => by
    rcases (os.2 j).2 with z | ⟨d', z⟩
    · rw [z] at q; have := wipeS_in h q; subst this; cases r
    · rw [z] at q; cases q; cases r
  have h2own : ∀ {j}, Holds S2 j → j ∉ own := fun {j} ⟨s, d, q, r⟩ h => S2no h q r
  have root2 : ∀ {a}, Root S2 σ2 a → Root S σ a := fun {a} ⟨j, ⟨s, d, q, r⟩, ha⟩ => by
    have n := h2own ⟨s, d, q, s.mu_rt r⟩
    refine ⟨j, ⟨s, d, by rw [← So n]; exact q, r⟩, ?_⟩
    show σ[j]? = _
    rw [← σo n]; exact ha
  have bin : ∀ {j}, j ∈ own → (backS S S5 own)[j]? = S[j]? := fun {j} h => backS_in l5.symm h
  have bout : ∀ {j}, j ∉ own → (backS S S5 own)[j]? = S5[j]? := fun {j} h => backS_out h
  have atσ : ∀ {j a}, j ∉ own → (At σ2 j a ↔ At σ j a) := fun {j a} n => by unfold At; rw [σo n]
  -- a root of S in the block's own slots is held
  have ownroot : ∀ {j p}, j ∈ own → Holds S j → At σ j p → ¬ Root S2 σ2 p := fun {j p} h hh ha ⟨k, hk, ak⟩ => by
    have n := h2own hk.holds
    obtain ⟨s, d, q, r⟩ := hk
    have : k = j := st.dis k j p ⟨s, d, by rw [← So n]; exact q, s.mu_rt r⟩ hh ((atσ n).mp ak) ha
    subst this
    exact n h
  have nonew : ∀ {a o}, H a = some o → H2 a = some o := fun {a o} h => e a o h
  refine ⟨fun a o q n => P.frame a o (e a o q) fun r => n (root2 r), fun a o q => P.stay a o (e a o q), fun a q => ?_, fun a q n => P.held a q fun r => n (root2 r), fun j h => ?_, fun j h => ?_, fun j h => ?_, fun j d h => ?_, fun j d h => ?_, ?_⟩
  · rcases P.sub a q with z | z
    · exact .inl z
    · refine .inr ?_
      cases z' : H a with
      | none => rfl
      | some o => rw [e a o z'] at z; cases z
  · by_cases m : j ∈ own
    · obtain ⟨s, d, q, r⟩ := h; rw [bin m] at q; exact ⟨s, d, q, r⟩
    · obtain ⟨s, d, q, r⟩ := h
      rw [bout m] at q
      obtain ⟨s', d', q', r'⟩ := P.roots j ⟨s, d, q, r⟩
      exact ⟨s', d', by rw [← So m]; exact q', r'⟩
  · by_cases m : j ∈ own
    · obtain ⟨s, d, q, r⟩ := h; rw [bin m] at q; exact ⟨s, d, q, r⟩
    · obtain ⟨s, d, q, r⟩ := h
      rw [bout m] at q
      obtain ⟨s', d', q', r'⟩ := P.holds j ⟨s, d, q, r⟩
      exact ⟨s', d', by rw [← So m]; exact q', r'⟩
  · by_cases m : j ∈ own
    · obtain ⟨s, d, q, r⟩ := h; exact ⟨s, d, by rw [bin m]; exact q, r⟩
    · obtain ⟨s, d, q, r⟩ := h
      obtain ⟨s', d', q', r'⟩ := P.live j ⟨s, d, by rw [So m]; exact q, r⟩
      exact ⟨s', d', by rw [bout m]; exact q', r'⟩
  · by_cases m : j ∈ own
    · exact ⟨d, by rw [bin m]; exact h⟩
    · obtain ⟨d', q⟩ := P.ios j d (by rw [So m]; exact h)
      exact ⟨d', by rw [bout m]; exact q⟩
  · by_cases m : j ∈ own
    · rw [bin m]; exact h
    · rw [bout m]; exact P.lks j d (by rw [So m]; exact h)
  · have frame' : ∀ a o, H a = some o → ¬ Av a → H5 a = some o := fun a o q n => P.frame a o (e a o q) fun r => n (r.av st2)
    have sub' : ∀ a, Av5 a → Av a ∨ H a = none := fun a q => by
      rcases P.sub a q with z | z
      · exact .inl z
      · refine .inr ?_
        cases z' : H a with
        | none => rfl
        | some o => rw [e a o z'] at z; cases z
    have hol : ∀ {j}, Holds (backS S S5 own) j → (j ∈ own ∧ Holds S j) ∨ (j ∉ own ∧ Holds S5 j ∧ Holds S j) := fun {j} ⟨s, d, q, r⟩ => by
      by_cases m : j ∈ own
      · rw [bin m] at q; exact .inl ⟨m, s, d, q, r⟩
      · rw [bout m] at q
        obtain ⟨s', d', q', r'⟩ := P.holds j ⟨s, d, q, r⟩
        exact .inr ⟨m, ⟨s, d, q, r⟩, s', d', by rw [← So m]; exact q', r'⟩
    refine ⟨by rw [backS_length, l5]; exact st.len, P.st.dom, fun j d q => ?_, fun j s d q r => ?_, fun i j p h1 h2 h3 h4 => ?_⟩
    · by_cases m : j ∈ own
      · rw [bin m] at q
        obtain ⟨v, h1, h2⟩ := st.sh j d q
        exact ⟨v, h1, h2.mono frame' sub'⟩
      · rw [bout m] at q
        rw [← σo m]; exact P.st.sh j d q
    · by_cases m : j ∈ own
      · rw [bin m] at q
        obtain ⟨p, h1, h2, h3, h4⟩ := st.ow j s d q r
        have nr := ownroot m ⟨s, d, q, r⟩ h1
        exact ⟨p, h1, P.held p h2 nr, h3.mono frame' sub' fun a o z q => by cases z; exact P.frame _ o (e _ o q) nr, h4⟩
      · rw [bout m] at q
        obtain ⟨p, h1, h2⟩ := P.st.ow j s d q r
        exact ⟨p, (atσ m).mp h1, h2⟩
    · have a1 := hol h1
      have a2 := hol h2
      exact st.dis i j p (a1.elim (·.2) (·.2.2)) (a2.elim (·.2) (·.2.2)) h3 h4
end
end Eng

namespace Eng
open PySem PySem.Spec L2
open PyProof.Rows hiding St
section
variable {G : Gs} {Av Av1 Av2 : Addr → Prop} {S S1 S2 : SS} {σ σ1 σ2 : St} {H H1 H2 : Hp} {Dd : Addr} {o : HO}

/-- an object that no slot has is written -/
theorem Vw.touch {d : D} {v : V} (h : Vw G Av H d v) (hD : Av Dd) (n : v ≠ .ref Dd) : Vw G Av (upd H Dd o) d v :=
  h.mono (fun a u q na => by rw [upd_ne (b := a) (fun z : a = Dd => na (z ▸ hD))]; exact q) (fun a q => .inl q) fun a u e q => by rw [upd_ne (b := a) (fun z : a = Dd => n (by rw [e, z]))]; exact q
theorem Rep.touch {d : D} {v : V} (h : Rep G Av H d v) (hD : Av Dd) : Rep G Av (upd H Dd o) d v :=
  h.mono (fun a u q na => by rw [upd_ne (b := a) (fun z : a = Dd => na (z ▸ hD))]; exact q) fun a q => .inl q
theorem Reps.touch {d : List D} {v : List V} (h : Reps G Av H d v) (hD : Av Dd) : Reps G Av (upd H Dd o) d v :=
  Reps.mono (fun a u q na => by rw [upd_ne (b := a) (fun z : a = Dd => na (z ▸ hD))]; exact q) (fun a q => .inl q) d h
theorem StOk.touch (st : StOk G Av S σ H) (hD : Av Dd) (n : ∀ i, Holds S i → ¬ At σ i Dd) : StOk G Av S σ (upd H Dd o) := by
  refine ⟨st.len, fun a q => ?_, fun i d q => ?_, fun i s d q r => ?_, st.dis⟩
  · by_cases z : a = Dd
    · subst z; exact ⟨o, upd_same⟩
    · rw [upd_ne z]; exact st.dom a q
  · obtain ⟨v, h1, h2⟩ := st.sh i d q
    exact ⟨v, h1, h2.touch hD⟩
  · obtain ⟨p, h1, h2, h3, h4⟩ := st.ow i s d q r
    exact ⟨p, h1, h2, h3.touch hD fun z => n i ⟨s, d, q, r⟩ (by cases z; exact h1), h4⟩
theorem Post.touch (st : StOk G Av S σ H) (P : Post G Av S σ H Av1 S1 H1) (hn : H Dd = none) (hD : Av1 Dd) : Post G Av S σ H Av1 S1 (upd H1 Dd o) := by
  have ne : ∀ {a u}, H a = some u → a ≠ Dd := fun {a u} h z => by rw [z, hn] at h; cases h
  refine ⟨fun a u q n => by rw [upd_ne (ne q)]; exact P.frame a u q n, fun a u q => ?_, P.sub, P.held, P.roots, P.holds, P.live, P.ios, P.lks, P.st.touch hD (P.new_apart st hn)⟩
  rw [upd_ne (ne q)]; exact P.stay a u q

/-! ### what is walked -/
structure Wk (G : Gs) (J : It) (ds : List D) (Stay : (Addr → Prop) → SS → St → Hp → Prop) : Prop where
  go : ∀ Av S σ H i, Stay Av S σ H → i < ds.length → J.go i H
  stop : ∀ Av S σ H i, Stay Av S σ H → ds.length ≤ i → J.stop i H
  yld : ∀ Av S σ H i x H' d, Stay Av S σ H → J.yld i H x H' → ds[i]? = some d → Ext H H' ∧ Rep G Av H' d x
  keep : ∀ Av S σ H Av' S' σ' H', StOk G Av S σ H → SPost G Av S σ H Av' S' σ' H' → Stay Av S σ H → Stay Av' S' σ' H'
  touch : ∀ Av S σ H D o, Stay Av S σ H → Av D → (∀ i, Holds S i → ¬ At σ i D) → Stay Av S σ (upd H D o)

variable (G : Gs) (W : WX)
def RdI (r : R (List D × Option Nat)) (Av : Addr → Prop) (S : SS) (σ : St) (H : Hp) (Rr : It → Hp → Prop) : Prop := match r with
  | .ok xu S' => ∀ Av' H' J Stay, Post G Av S σ H Av' S' H' → Wk G J xu.1 Stay → Stay Av' S' σ H' → (∀ i, xu.2 = some i → (∃ d, S[i]? = some (.ow d)) ∧ ∃ d, S'[i]? = some (.lk d)) → Rr J H'
  | .exc e S' => ∀ cls d H', XPost G Av S σ H e S' cls d H' → W cls d σ H'
  | .bad => False
def tI (f : SS → R (List D × Option Nat)) : TI := fun σ H Rr => ∃ Av S, StOk G Av S σ H ∧ RdI G W (f S) Av S σ H Rr
end
section
variable {G : Gs} {W : WX} {Av Av1 Av2 : Addr → Prop} {S S1 S2 : SS} {σ σ1 σ2 : St} {H H1 H2 : Hp} {Dd : Addr}

theorem Post.unlock {u : Option Nat} (P : Post G Av S σ H Av1 S1 H1) (hu : ∀ i, u = some i → ∃ d, S[i]? = some (.ow d)) : Post G Av S σ H Av1 (unlock S1 u) H1 := by
  cases u with
  | none => exact P
  | some i =>
    obtain ⟨d0, h0⟩ := hu i rfl
    show Post G Av S σ H Av1 (match S1[i]? with | some (.lk d) => S1.set i (.ow d) | _ => S1) H1
    split
    · rename_i d e
      have hl : i < S1.length := (List.getElem?_eq_some_iff.mp e).1
      have get : ∀ {j s}, (S1.set i (.ow d))[j]? = some s → (j = i ∧ s = .ow d) ∨ (j ≠ i ∧ S1[j]? = some s) := fun q => get_set_cases q
      have hol : ∀ {j}, Holds (S1.set i (.ow d)) j → Holds S1 j := fun {j} ⟨s, d', q, r⟩ => by
        rcases get q with ⟨rfl, rfl⟩ | ⟨_, q⟩
        · exact ⟨_, d, e, rfl⟩
        · exact ⟨s, d', q, r⟩
      refine ⟨P.frame, P.stay, P.sub, P.held, fun j ⟨s, d', q, r⟩ => ?_, fun j h => P.holds j (hol h), fun j h => ?_, fun j d' h => ?_, fun j d' h => ?_, ⟨by rw [List.length_set]; exact P.st.len, P.st.dom, fun j d' q => ?_, fun j s d' q r => ?_, fun j k p h1 h2 => P.st.dis j k p (hol h1) (hol h2)⟩⟩
      · rcases get q with ⟨rfl, rfl⟩ | ⟨_, q⟩
        · exact ⟨_, d0, h0, rfl⟩
        · exact P.roots j ⟨s, d', q, r⟩
      · by_cases z : j = i
        · subst z; exact ⟨_, d, by rw [List.getElem?_set_self hl], rfl⟩
        · obtain ⟨s, d', q, r⟩ := P.live j h
          exact ⟨s, d', by rw [set_ne z]; exact q, r⟩
      · have z : j ≠ i := fun z => by subst z; rw [h0] at h; cases h
        rw [set_ne z]; exact P.ios j d' h
      · have z : j ≠ i := fun z => by subst z; rw [h0] at h; cases h
        rw [set_ne z]; exact P.lks j d' h
      · rcases get q with ⟨_, z⟩ | ⟨_, q⟩
        · cases z
        · exact P.st.sh j d' q
      · rcases get q with ⟨rfl, rfl⟩ | ⟨_, q⟩
        · cases r; exact P.st.ow j _ d e rfl
        · exact P.st.ow j s d' q r
    · exact P

/-- [elt for tg in it if ..] -/
theorem tri_comp {elt : KE} {tg : Tg} {it : SS → R (List D × Option Nat)} {ifs : KT} {own : List Nat} {Q : VK} (hs : ∀ j ∈ tg.slots, j ∈ own) (h : tE G W (kComp elt tg it ifs own) σ H Q) :
    tLc (tI G W it) (tG G tg) (tT G (fun _ _ _ _ => False) ifs) (tE G (fun _ _ _ _ => False) elt) own σ H Q := by
  obtain ⟨Av, S, st, h⟩ := h
  refine ⟨Av, S, st, ?_⟩
  unfold kComp at h
  cases ei : it S with
  | bad => rw [ei] at h; exact h
  | exc x S1 => rw [ei] at h; exact h
  | ok xu S1 =>
    rw [ei] at h
    have h : RdE G W (((loopC (turnC elt tg ifs own) xu.1 [] S1).bind fun ys S2 => .ok (.fr (.lst ys)) (unlock S2 xu.2)).noexc) Av S σ H Q := h
    intro Av1 H1 J Stay P1 wk stay hu Dd hD
    obtain ⟨ys, S2, el, h⟩ : ∃ ys S2, loopC (turnC elt tg ifs own) xu.1 [] S1 = .ok ys S2 ∧ RdE G W (.ok (.fr (.lst ys)) (unlock S2 xu.2)) Av S σ H Q := by
      cases e : loopC (turnC elt tg ifs own) xu.1 [] S1 with
      | ok ys S2 => rw [e] at h; exact ⟨ys, S2, rfl, h⟩
      | exc x S2 => rw [e] at h; exact h.elim
      | bad => rw [e] at h; exact h.elim
    generalize hn : xu.1.length = n
    let Wf : Nat → Nat → Hp → Prop := fun i m H => m = n - i ∧ i ≤ n ∧ ∃ Avi Si acc us, Post G Av1 S1 σ H1 Avi Si H ∧ Stay Avi Si σ H ∧ Avi Dd ∧ H Dd = some (.lst us) ∧ Reps G Avi H acc us ∧ loopC (turnC elt tg ifs own) (xu.1.drop i) acc Si = .ok ys S2
    refine ⟨Wf, ⟨n, ?_⟩, ?_⟩
    · -- the start
      have st1 := P1.st
      have Pe : Post G Av1 S1 σ H1 (fun a => Av1 a ∨ a = Dd) S1 (upd H1 Dd (.lst [])) := Post.ext st1 (ext_upd hD) (fun b q => q.elim .inl fun z => .inr (z ▸ hD)) (fun b q => q.elim (fun z => let ⟨o, w⟩ := st1.dom b z; ⟨o, ext_upd hD b o w⟩) fun z => ⟨.lst [], by rw [z]; exact upd_same⟩) fun b q => .inl q
      exact ⟨by omega, Nat.zero_le _, _, S1, [], [], Pe, wk.keep _ _ _ _ _ _ _ _ st1 Pe.s stay, .inr rfl, upd_same, rfl, el⟩
    · rintro i m Hi ⟨rfl, hi, Avi, Si, acc, us, Pi, si, aD, hDu, ru, li⟩
      by_cases hlt : i < n
      · -- a turn
        obtain ⟨d, hd⟩ : ∃ d, xu.1[i]? = some d := ⟨xu.1[i]'(by omega), List.getElem?_eq_getElem _⟩
        have hdrop : xu.1.drop i = d :: xu.1.drop (i + 1) := by
          rw [List.drop_eq_getElem_cons (by omega)]
          congr 1
          have := List.getElem?_eq_some_iff.mp hd
          exact this.2
        rw [hdrop] at li
        have li : (turnC elt tg ifs own d Si).bind (fun y S' => match y with
          | some y => if acc.length < sizeLine then loopC (turnC elt tg ifs own) (xu.1.drop (i + 1)) (acc ++ [y]) S' else .bad
          | none => loopC (turnC elt tg ifs own) (xu.1.drop (i + 1)) acc S') = .ok ys S2 := li
        refine .inr ⟨wk.go _ _ _ _ i si (by omega), Wf (i + 1) (n - (i + 1)), fun H' w => ⟨n - (i + 1), by omega, w⟩, fun x H' y => ?_⟩
        obtain ⟨eH, rx⟩ := wk.yld _ _ _ _ i x H' d si y hd
        have sti := Pi.st
        have stH : StOk G Avi Si σ H' := sti.ext eH (fun a q => .inl q) (fun a q => let ⟨o, w⟩ := sti.dom a q; ⟨o, eH a o w⟩) fun a q => q
        cases ea : assign tg d (wipeS Si own) with
        | none =>
          have : turnC elt tg ifs own d Si = .bad := by unfold turnC; rw [ea]
          rw [this] at li; cases li
        | some S2' =>
          have et : turnC elt tg ifs own d Si = (ifs S2').bind fun b S3 => if b then (kShr elt S3).bind fun y S5 => .ok (some y) (backS Si S5 own) else .ok none (backS Si S3 own) := by unfold turnC; rw [ea]
          rw [et] at li
          refine ⟨Avi, wipeS Si own, d, S2', stH.inner own, rx, ea, fun σ2 Ps on os => ⟨wipe_only on hs, ?_⟩⟩
          have on' : L2.St → True := fun _ => trivial
          have onO : Only (wipe σ own) σ2 own := ⟨on.1, fun j nj => on.2 j fun z => nj (hs j z)⟩
          have osO : OnlyS (wipeS Si own) S2' own := ⟨os.1, fun j => ⟨fun nj => (os.2 j).1 fun z => nj (hs j z), (os.2 j).2⟩⟩
          refine ⟨Avi, S2', Ps.st, ?_⟩
          cases ef : ifs S2' with
          | bad => rw [ef] at li; cases li
          | exc x S3 => rw [ef] at li; cases li
          | ok b S3 =>
            rw [ef] at li
            intro Av3 H3 P3
            cases b with
            | false =>
              simp only [if_false, Bool.false_eq_true]
              have li : loopC (turnC elt tg ifs own) (xu.1.drop (i + 1)) acc (backS Si S3 own) = .ok ys S2 := li
              have Po := Post.outer sti eH onO osO Ps.st P3
              have Pn := Pi.trans Po
              have nr : ¬ Root Si σ Dd := fun ⟨k, hk, ak⟩ => Pi.new_apart P1.st hD k hk.holds ak
              exact ⟨rfl, by omega, Av3, _, acc, us, Pn, wk.keep _ _ _ _ _ _ _ _ sti Po.s si, Po.held Dd aD nr, Po.frame Dd _ hDu nr, Po.reps sti ru, li⟩
            | true =>
              simp only [if_true]
              have li : ((kShr elt S3).bind fun y S5 => R.ok (some y) (backS Si S5 own)).bind (fun y S' => match y with
                | some y => if acc.length < sizeLine then loopC (turnC elt tg ifs own) (xu.1.drop (i + 1)) (acc ++ [y]) S' else .bad
                | none => loopC (turnC elt tg ifs own) (xu.1.drop (i + 1)) acc S') = .ok ys S2 := li
              refine ⟨Av3, S3, P3.st, ?_⟩
              cases ee : elt S3 with
              | bad => unfold kShr at li; rw [ee] at li; cases li
              | exc x S4 => unfold kShr at li; rw [ee] at li; cases li
              | ok rv S4 =>
                intro v H4 P4
                cases es : shr rv S4 with
                | bad => unfold kShr at li; rw [ee] at li; simp only [R.bind] at li; rw [es] at li; cases li
                | exc x S5 => exact (shr_exc es).elim
                | ok y' S5 =>
                  unfold kShr at li; rw [ee] at li
                  simp only [R.bind] at li
                  rw [es] at li
                  obtain ⟨Av5, P5, r5⟩ := (P4.shared P3.st es).ex
                  have Po := Post.outer sti eH onO osO Ps.st (P3.trans P5)
                  have nr : ¬ Root Si σ Dd := fun ⟨k, hk, ak⟩ => Pi.new_apart P1.st hD k hk.holds ak
                  have Pn := Pi.trans Po
                  have li : (if acc.length < sizeLine then loopC (turnC elt tg ifs own) (xu.1.drop (i + 1)) (acc ++ [y']) (backS Si S5 own) else .bad) = .ok ys S2 := li
                  have aD5 := Po.held Dd aD nr
                  split at li
                  · rename_i hz
                    refine ⟨us, Po.frame Dd _ hDu nr, by rw [ru.length]; exact hz, rfl, by omega, Av5, _, acc ++ [y'], us ++ [v], Pn.touch P1.st hD aD5, wk.touch _ _ _ _ _ _ (wk.keep _ _ _ _ _ _ _ _ sti Po.s si) aD5 (Pn.new_apart P1.st hD), aD5, upd_same, (Reps.snoc (Po.reps sti ru) r5).touch aD5, li⟩
                  · cases li
      · -- the end
        have e : i = n := by omega
        subst e
        refine .inl ⟨wk.stop _ _ _ _ i si (by omega), ?_⟩
        rw [List.drop_eq_nil_of_le (by omega)] at li
        cases li
        have hu' : ∀ i, xu.2 = some i → ∃ d, S[i]? = some (.ow d) := fun i e => (hu i e).1
        have Pf := (P1.trans Pi).unlock hu'
        refine h (.ref Dd) Hi ⟨Avi, Pf, Dd, rfl, aD, P1.back_none hD, ⟨Dd, us, rfl, hDu, ru⟩, rfl⟩
end
end Eng

namespace Eng
open PySem PySem.Spec L2
open PyProof.Rows hiding St
section
variable {X : Cx} {G : Gs} {W : WX} {e l a b : Expr} {tg : Expr} {p q : KE} {pos pp : Pos}
/-- a list or a tuple that is walked -/
def iSeq (K : PySem.W.Frag) (tl : TE) : TI := fun σ H R => tl σ H fun x H1 => ∃ a, x = .ref a ∧ (((∃ xs, SqL K H1 a xs) ∧ R (Itl K a) H1) ∨ ((∃ xs, SqT K H1 a xs) ∧ R (Itt K a) H1))
theorem pi_seq {tl : TE} (hl : PE X l tl) : PI X tg l (iSeq X.K tl) := by
  constructor
  intro pins s σ H R inv want
  refine thn (hl.run pins s σ H _ inv want) ?_
  rintro v s1 ⟨x, H1, inv1, rel, a, rfl, both⟩
  cases rel
  -- a new object walks it
  have new : ∀ b ∈ [s1.heap.objs.size], FpOk X pins H1 b := by
    intro b mem
    cases List.mem_singleton.mp mem
    exact inv1.fpOk Nat.le.refl (inv1.hok.fresh Nat.le.refl)
  have keep : ∀ (o : Obj) (b : Addr) (u : Obj), s1.heap.get? b = some u → (s1.heap.push o).get? b = some u := fun o _ _ e => Heap.get?_push_of_some o e
  cases both with
  | inl z =>
    obtain ⟨its, _, at_a, _⟩ := inv1.list z.1.choose_spec
    exact wpAny_pyIter_list at_a.isList ⟨_, _, _, Itl X.K a, H1, rfl, inv1.kept (t' := s1.toks) (keep _), turn_list a _, ⟨_, Heap.get?_push_size _ rfl, rfl, rfl⟩, new, z.2⟩
  | inr z =>
    obtain ⟨its, _, at_a, _⟩ := inv1.tuple z.1.choose_spec
    exact wpAny_pyIter_tuple (show s1.heap.IsTuple a its.toArray from at_a) ⟨_, _, _, Itt X.K a, H1, rfl, inv1.kept (t' := s1.toks) (keep _), turn_tuple a _, ⟨_, Heap.get?_push_size _ rfl, rfl, rfl⟩, new, z.2⟩
theorem PI_imp {w w' : TI} (h : PI X tg e w') (k : ∀ σ H R, w σ H R → w' σ H R) : PI X tg e w := ⟨fun pins s σ H R I q => h.run pins s σ H R I (k σ H R q)⟩

/-- a shared list, tuple -/
theorem wk_lst (K : PySem.W.Frag) (ds : List D) (a : Addr) (vs : List V) : Wk G (Itl K a) ds (fun Av S σ H => ¬ Av a ∧ H a = some (.lst vs) ∧ Reps G Av H ds vs) where
  go := fun Av S σ H i ⟨_, h, r⟩ hi => by
    have := r.length
    exact ⟨vs, vs[i]'(by omega), SqL.of h, List.getElem?_eq_getElem _⟩
  stop := fun Av S σ H i ⟨_, h, r⟩ hi => ⟨vs, SqL.of h, by rw [r.length]; exact hi⟩
  yld := fun Av S σ H i x H' d ⟨_, h, r⟩ hy hd => by
    obtain ⟨rfl, hy⟩ := hy
    obtain ⟨v, h1, h2⟩ := r.get' hd
    have := hy vs (SqL.of h)
    rw [h1] at this; cases this
    exact ⟨fun _ _ q => q, h2⟩
  keep := fun Av S σ H Av' S' σ' H' st P ⟨n, h, r⟩ => by
    refine ⟨fun z => (P.sub a z).elim n (fun z => by rw [h] at z; cases z), P.frame a _ h fun z => n (z.av st), Reps.mono (fun b o q m => P.frame b o q fun z => m (z.av st)) P.sub ds r⟩
  touch := fun Av S σ H D o ⟨n, h, r⟩ hD _ => ⟨n, by rw [upd_ne (b := a) fun z : a = D => n (z ▸ hD)]; exact h, r.touch hD⟩
theorem wk_tup (K : PySem.W.Frag) (ds : List D) (a : Addr) (vs : List V) : Wk G (Itt K a) ds (fun Av S σ H => ¬ Av a ∧ H a = some (.tup vs) ∧ Reps G Av H ds vs) where
  go := fun Av S σ H i ⟨_, h, r⟩ hi => by
    have := r.length
    exact ⟨vs, vs[i]'(by omega), SqT.of h, List.getElem?_eq_getElem _⟩
  stop := fun Av S σ H i ⟨_, h, r⟩ hi => ⟨vs, SqT.of h, by rw [r.length]; exact hi⟩
  yld := fun Av S σ H i x H' d ⟨_, h, r⟩ hy hd => by
    obtain ⟨rfl, hy⟩ := hy
    obtain ⟨v, h1, h2⟩ := r.get' hd
    have := hy vs (SqT.of h)
    rw [h1] at this; cases this
    exact ⟨fun _ _ q => q, h2⟩
  keep := fun Av S σ H Av' S' σ' H' st P ⟨n, h, r⟩ => by
    refine ⟨fun z => (P.sub a z).elim n (fun z => by rw [h] at z; cases z), P.frame a _ h fun z => n (z.av st), Reps.mono (fun b o q m => P.frame b o q fun z => m (z.av st)) P.sub ds r⟩
  touch := fun Av S σ H D o ⟨n, h, r⟩ hD _ => ⟨n, by rw [upd_ne (b := a) fun z : a = D => n (z ▸ hD)]; exact h, r.touch hD⟩
/-- a slot's list, locked -/
theorem wk_lk (K : PySem.W.Frag) (ds : List D) (a : Addr) (vs : List V) (i0 : Nat) : Wk G (Itl K a) ds (fun Av S σ H => S[i0]? = some (.lk (.lst ds)) ∧ At σ i0 a ∧ H a = some (.lst vs) ∧ Reps G Av H ds vs) where
  go := fun Av S σ H i ⟨_, _, h, r⟩ hi => by
    have := r.length
    exact ⟨vs, vs[i]'(by omega), SqL.of h, List.getElem?_eq_getElem _⟩
  stop := fun Av S σ H i ⟨_, _, h, r⟩ hi => ⟨vs, SqL.of h, by rw [r.length]; exact hi⟩
  yld := fun Av S σ H i x H' d ⟨_, _, h, r⟩ hy hd => by
    obtain ⟨rfl, hy⟩ := hy
    obtain ⟨v, h1, h2⟩ := r.get' hd
    have := hy vs (SqL.of h)
    rw [h1] at this; cases this
    exact ⟨fun _ _ q => q, h2⟩
  keep := fun Av S σ H Av' S' σ' H' st P ⟨h0, h1, h, r⟩ => by
    obtain ⟨k1, k2⟩ := P.lks i0 _ h0
    have nr : ¬ Root S σ a := fun ⟨j, hj, aj⟩ => by
      have e := st.dis j i0 a hj.holds ⟨_, _, h0, rfl⟩ aj h1
      subst e
      obtain ⟨s, d, q, m⟩ := hj
      rw [h0] at q; cases q; cases m
    exact ⟨k1, by show σ'[i0]? = _; rw [k2]; exact h1, P.frame a _ h nr, Reps.mono (fun b o q m => P.frame b o q fun z => m (z.av st)) P.sub ds r⟩
  touch := fun Av S σ H D o ⟨h0, h1, h, r⟩ hD hn => ⟨h0, h1, by rw [upd_ne (b := a) fun z : a = D => hn i0 ⟨_, _, h0, rfl⟩ (z ▸ h1)]; exact h, r.touch hD⟩
theorem rangeD_length (lo : Int) : ∀ n, (rangeD lo n).length = n
  | 0 => rfl
  | n + 1 => by unfold rangeD; rw [List.length_append, rangeD_length lo n]; rfl
theorem rangeD_get (lo : Int) : ∀ (n i : Nat), i < n → (rangeD lo n)[i]? = some (.int (lo + i))
  | 0, i, h => absurd h (Nat.not_lt_zero i)
  | n + 1, i, h => by
    unfold rangeD
    by_cases z : i < n
    · rw [List.getElem?_append_left (by rw [rangeD_length]; exact z)]; exact rangeD_get lo n i z
    · have : i = n := by omega
      subst this
      rw [List.getElem?_append_right (by rw [rangeD_length]; exact Nat.le_refl _), rangeD_length, Nat.sub_self]; rfl
theorem wk_rng (lo : Int) (n : Nat) : Wk G (Itr lo n) (rangeD lo n) (fun _ _ _ _ => True) where
  go := fun Av S σ H i _ hi => by rw [rangeD_length] at hi; exact hi
  stop := fun Av S σ H i _ hi => by rw [rangeD_length] at hi; exact hi
  yld := fun Av S σ H i x H' d _ hy hd => by
    obtain ⟨rfl, rfl⟩ := hy
    have hi : i < n := by
      have := (List.getElem?_eq_some_iff.mp hd).1
      rwa [rangeD_length] at this
    rw [rangeD_get lo n i hi] at hd
    cases hd
    exact ⟨fun _ _ q => q, (rfl : V.int (lo + i) = _)⟩
  keep := fun _ _ _ _ _ _ _ _ _ _ _ => True.intro
  touch := fun _ _ _ _ _ _ _ _ _ => True.intro

/-- an owned slot's list is locked -/
theorem Post.lock {Av : Addr → Prop} {S : SS} {σ : St} {H : Hp} (st : StOk G Av S σ H) {i : Nat} {d : D} (h : S[i]? = some (.ow d)) : Post G Av S σ H Av (S.set i (.lk d)) H := by
  have hl : i < S.length := (List.getElem?_eq_some_iff.mp h).1
  have get : ∀ {j s}, (S.set i (.lk d))[j]? = some s → (j = i ∧ s = .lk d) ∨ (j ≠ i ∧ S[j]? = some s) := fun q => get_set_cases q
  have hol : ∀ {j}, Holds (S.set i (.lk d)) j → Holds S j := fun {j} ⟨s, d', q, r⟩ => by
    rcases get q with ⟨rfl, rfl⟩ | ⟨_, q⟩
    · exact ⟨_, d, h, rfl⟩
    · exact ⟨s, d', q, r⟩
  refine ⟨fun a o q _ => q, fun a o q => ⟨o, q⟩, fun a q => .inl q, fun a q _ => q, fun j ⟨s, d', q, r⟩ => ?_, fun j q => hol q, fun j q => ?_, fun j d' q => ⟨d', ?_⟩, fun j d' q => ?_, ⟨by rw [List.length_set]; exact st.len, st.dom, fun j d' q => ?_, fun j s d' q r => ?_, fun j k p h1 h2 => st.dis j k p (hol h1) (hol h2)⟩⟩
  · rcases get q with ⟨_, rfl⟩ | ⟨_, q⟩
    · cases r
    · exact ⟨s, d', q, r⟩
  · by_cases z : j = i
    · subst z; exact ⟨_, d, by rw [List.getElem?_set_self hl], rfl⟩
    · obtain ⟨s, d', q, r⟩ := q
      exact ⟨s, d', by rw [set_ne z]; exact q, r⟩
  · rw [set_ne (fun z => by subst z; rw [h] at q; cases q)]; exact q
  · rw [set_ne (fun z => by subst z; rw [h] at q; cases q)]; exact q
  · rcases get q with ⟨_, z⟩ | ⟨_, q⟩
    · cases z
    · exact st.sh j d' q
  · rcases get q with ⟨rfl, rfl⟩ | ⟨_, q⟩
    · cases r; exact st.ow j _ d h rfl
    · exact st.ow j s d' q r
theorem i_val (hl : PE X l (tE G W p)) : PI X tg l (tI G W (kItv p)) := PI_imp (pi_seq hl) fun σ H R ⟨Av, S, st, h⟩ => by
  refine ⟨Av, S, st, ?_⟩
  unfold kItv at h
  cases e : p S with
  | bad => rw [e] at h; exact h
  | exc x S1 => rw [e] at h; exact h
  | ok rv S1 =>
    rw [e] at h
    have h : RdI G W (itemsOf rv S1) Av S σ H R := h
    intro v H1 P
    obtain ⟨Av1, P1, v1⟩ := P.vok st
    have none_u : ∀ {ds : List D} (i : Nat), (ds, (Option.none : Option Nat)).2 = some i → (∃ d, S[i]? = some (.ow d)) ∧ ∃ d, S1[i]? = some (.lk d) := fun i z => nomatch z
    cases rv with
    | sh d =>
      cases d with
      | lst ds =>
        obtain ⟨a, vs, rfl, n, h1, h2⟩ := v1
        exact ⟨a, rfl, .inl ⟨⟨vs, SqL.of h1⟩, h Av1 H1 _ _ P1 (wk_lst X.K ds a vs) ⟨n, h1, h2⟩ none_u⟩⟩
      | tup ds =>
        obtain ⟨a, vs, rfl, n, h1, h2⟩ := v1
        exact ⟨a, rfl, .inr ⟨⟨vs, SqT.of h1⟩, h Av1 H1 _ _ P1 (wk_tup X.K ds a vs) ⟨n, h1, h2⟩ none_u⟩⟩
      | _ => exact h.elim
    | fr d =>
      cases d with
      | lst ds =>
        obtain ⟨a, vs, rfl, n, h1, h2⟩ := (show Rep G Av1 H1 (.lst ds) v from v1)
        exact ⟨a, rfl, .inl ⟨⟨vs, SqL.of h1⟩, h Av1 H1 _ _ P1 (wk_lst X.K ds a vs) ⟨n, h1, h2⟩ none_u⟩⟩
      | _ => exact h.elim
    | br i =>
      obtain ⟨g1, g2⟩ := v1
      have h : RdI G W (Eng.lock S1 i) Av S σ H R := h
      unfold Eng.lock at h
      split at h
      · rename_i ds e1
        obtain ⟨a, k1, k2, ⟨a', vs, k3, k4, k5⟩, _⟩ := P1.st.ow i _ _ e1 rfl
        cases k3
        rw [show σ[i]? = some (some (.ref a)) from k1] at g1; cases g1
        have P2 := P1.trans (Post.lock P1.st e1)
        obtain ⟨s0, d0, q0, m0⟩ := P1.roots i ⟨_, _, e1, rfl⟩
        have hS : ∃ d, S[i]? = some (.ow d) := by
          cases s0 with
          | ow d => exact ⟨d, q0⟩
          | io d => obtain ⟨d', z⟩ := P1.ios i d q0; rw [e1] at z; cases z
          | _ => cases m0
        refine ⟨a, rfl, .inl ⟨⟨vs, SqL.of k4⟩, h Av1 H1 _ _ P2 (wk_lk X.K ds a vs i) ⟨set_eq e1, k1, k4, k5⟩ fun j z => ?_⟩⟩
        cases z
        exact ⟨hS, _, set_eq e1⟩
      · rename_i ds e1
        obtain ⟨v', k1, k2⟩ := P1.st.sh i _ e1
        rw [g1] at k1; cases k1
        obtain ⟨a, vs, rfl, n, h1, h2⟩ := k2
        exact ⟨a, rfl, .inl ⟨⟨vs, SqL.of h1⟩, h Av1 H1 _ _ P1 (wk_lst X.K ds a vs) ⟨n, h1, h2⟩ none_u⟩⟩
      · rename_i ds e1
        obtain ⟨v', k1, k2⟩ := P1.st.sh i _ e1
        rw [g1] at k1; cases k1
        obtain ⟨a, vs, rfl, n, h1, h2⟩ := k2
        exact ⟨a, rfl, .inr ⟨⟨vs, SqT.of h1⟩, h Av1 H1 _ _ P1 (wk_tup X.K ds a vs) ⟨n, h1, h2⟩ none_u⟩⟩
      · rename_i ds e1
        obtain ⟨a, k1, k2, ⟨a', vs, k3, k4, k5⟩, _⟩ := P1.st.ow i _ _ e1 rfl
        cases k3
        rw [show σ[i]? = some (some (.ref a)) from k1] at g1; cases g1
        exact ⟨a, rfl, .inl ⟨⟨vs, SqL.of k4⟩, h Av1 H1 _ _ P1 (wk_lk X.K ds a vs i) ⟨e1, k1, k4, k5⟩ none_u⟩⟩
      · exact h.elim
theorem rngOk_some {i j : Int} (h : rngOk i j = true) : -(2 ^ 62) ≤ i ∧ i < 2 ^ 62 ∧ -(2 ^ 62) ≤ j ∧ j < 2 ^ 62 := by
  unfold rngOk at h
  simp only [decide_eq_true_eq, Bool.and_eq_true] at h
  exact ⟨h.1.1.1, h.1.1.2, h.1.2, h.2⟩
theorem i_rng1 (hg : Gl X "range") (hm : X.mg "range" = none) (ha : PE X a (tE G W p)) (hs : starEach [a] X.env = [(false, eval a X.env)]) : PI X tg (.Call (.Name "range" pp) [a] [] pos) (tI G W (kRng1 p)) :=
  PI_imp (pi_range1 hg hm (pa_cons ha pa_nil hs) hs) fun σ H R ⟨Av, S, st, h⟩ => by
    refine ⟨Av, S, st, ?_⟩
    unfold kRng1 at h
    cases e : p S with
    | bad => rw [e] at h; exact h
    | exc x S1 => rw [e] at h; exact h
    | ok rv S1 =>
      rw [e] at h
      have h : RdI G W (match deref S1 rv.vw with
        | some (.int j) => if rngOk 0 j then Eng.R.ok (rangeD 0 j.toNat, none) S1 else .bad
        | _ => .bad) Av S σ H R := h
      intro v H1 P
      obtain ⟨Av1, P1, v1⟩ := P.vok st
      split at h
      · rename_i j ej
        split at h
        · rename_i hz
          obtain ⟨z1, z2, z3, z4⟩ := rngOk_some hz
          cases (v1.vx P1.st ej).int
          exact ⟨j, rfl, z3, z4, h Av1 H1 _ _ P1 (wk_rng 0 j.toNat) True.intro fun i z => nomatch z⟩
        · exact h.elim
      · exact h.elim
theorem i_rng2 (hg : Gl X "range") (hm : X.mg "range" = none) (ha : PE X a (tE G W p)) (hb : PE X b (tE G W q)) (hs : starEach [a, b] X.env = [(false, eval a X.env), (false, eval b X.env)]) (hs2 : starEach [b] X.env = [(false, eval b X.env)]) :
    PI X tg (.Call (.Name "range" pp) [a, b] [] pos) (tI G W (kRng2 p q)) :=
  PI_imp (pi_range2 hg hm (pa_cons ha (pa_cons hb pa_nil hs2) (by rw [hs, hs2])) hs hs2) fun σ H R ⟨Av, S, st, h⟩ => by
    refine ⟨Av, S, st, ?_⟩
    unfold kRng2 at h
    cases e : p S with
    | bad => rw [e] at h; exact h
    | exc x S1 => rw [e] at h; exact h
    | ok rv S1 =>
      rw [e] at h
      intro v H1 P
      obtain ⟨Av1, P1, v1⟩ := P.vok st
      refine ⟨Av1, S1, P1.st, ?_⟩
      have h : RdI G W ((q S1).bind fun t S2 => match deref S2 rv.vw, deref S2 t.vw with
        | some (.int i), some (.int j) => if rngOk i j then Eng.R.ok (rangeD i (j - i).toNat, none) S2 else .bad
        | _, _ => .bad) Av S σ H R := h
      cases e2 : q S1 with
      | bad => rw [e2] at h; exact h
      | exc x S2 => rw [e2] at h; exact fun c d H' z => h c d H' (z.trans P1)
      | ok t S2 =>
        rw [e2] at h
        intro u H2 Q2
        obtain ⟨Av2, P2, u2⟩ := Q2.vok P1.st
        have h : RdI G W (match deref S2 rv.vw, deref S2 t.vw with
          | some (.int i), some (.int j) => if rngOk i j then Eng.R.ok (rangeD i (j - i).toNat, none) S2 else .bad
          | _, _ => .bad) Av S σ H R := h
        split at h
        · rename_i i j ei ej
          split at h
          · rename_i hz
            obtain ⟨z1, z2, z3, z4⟩ := rngOk_some hz
            cases ((v1.on P1.st P2).vx P2.st ei).int
            cases (u2.vx P2.st ej).int
            exact ⟨i, j, rfl, ⟨z1, z2, z3, z4⟩, h Av2 H2 _ _ (P1.trans P2) (wk_rng i (j - i).toNat) True.intro fun i z => nomatch z⟩
          · exact h.elim
        · exact h.elim
end
end Eng

namespace Eng
open PySem PySem.Spec L2
open PyProof.Rows hiding St

/-! ### an owned object changes -/
section
variable {G : Gs} {Av Av1 Av2 : Addr → Prop} {S S1 S2 S' : SS} {σ σ1 σ2 : St} {H H1 H2 : Hp}
theorem setAt_get {i : Nat} {d : D} (e : setAt S i d = some S') : (∃ s, (S[i]? = some s ∧ s.mu.isSome = true) ∧ ((∃ d0, s = .ow d0 ∧ S' = S.set i (.ow d)) ∨ (∃ d0, s = .io d0 ∧ S' = S.set i (.io d)))) := by
  unfold setAt at e
  split at e
  · rename_i d0 h; cases e; exact ⟨_, ⟨h, rfl⟩, .inl ⟨d0, rfl, rfl⟩⟩
  · rename_i d0 h; cases e; exact ⟨_, ⟨h, rfl⟩, .inr ⟨d0, rfl, rfl⟩⟩
  · cases e
theorem Post.mutate (st : StOk G Av S σ H) {i : Nat} {d' : D} {p : Addr} {o : HO} (e : setAt S i d' = some S') (hp : At σ i p) (hv : Vw G Av (upd H p o) d' (.ref p)) (hm : MutD d' = true) : Post G Av S σ H Av S' (upd H p o) := by
  obtain ⟨s, ⟨hs, hmu⟩, hk⟩ := setAt_get e
  obtain ⟨d0, hmu⟩ := Option.isSome_iff_exists.mp hmu
  have own : Owns S i := ⟨s, d0, hs, hmu⟩
  obtain ⟨p', h1, hAv, _⟩ := st.ow i s d0 hs (s.mu_rt hmu)
  cases h1.inj hp
  obtain ⟨s', e', rt', mu', io'⟩ : ∃ s', S' = S.set i s' ∧ s'.rt = some d' ∧ s'.mu = some d' ∧ ((∃ x, s = .io x) → ∃ x, s' = .io x) := by
    rcases hk with ⟨x, rfl, rfl⟩ | ⟨x, rfl, rfl⟩
    · exact ⟨_, rfl, rfl, rfl, fun ⟨_, z⟩ => nomatch z⟩
    · exact ⟨_, rfl, rfl, rfl, fun _ => ⟨_, rfl⟩⟩
  subst e'
  have nlk : ∀ x, s ≠ .lk x := fun x z => by subst z; cases hmu
  have root : Root S σ p := ⟨i, own, hp⟩
  have ne : ∀ {a}, ¬ Root S σ a → a ≠ p := fun n z => n (z ▸ root)
  have get : ∀ {j x}, (S.set i s')[j]? = some x → (j = i ∧ x = s') ∨ (j ≠ i ∧ S[j]? = some x) := fun q => get_set_cases q
  have hol : ∀ {j}, Holds (S.set i s') j → Holds S j := fun {j} ⟨x, y, q, r⟩ => by
    rcases get q with ⟨rfl, _⟩ | ⟨_, q⟩
    · exact own.holds
    · exact ⟨x, y, q, r⟩
  have keep : ∀ {d v}, Rep G Av H d v → Rep G Av (upd H p o) d v := fun h => h.touch hAv
  refine ⟨fun a u q n => by rw [upd_ne (ne n)]; exact q, fun a u q => ?_, fun a q => .inl q, fun a q _ => q, fun j ⟨x, y, q, r⟩ => ?_, fun j h => hol h, fun j h => ?_, fun j x q => ?_, fun j x q => ?_, ⟨by rw [List.length_set]; exact st.len, fun a q => ?_, fun j x q => ?_, fun j x y q r => ?_, fun j k a h1 h2 => st.dis j k a (hol h1) (hol h2)⟩⟩
  · by_cases z : a = p
    · subst z; exact ⟨o, upd_same⟩
    · exact ⟨u, by rw [upd_ne z]; exact q⟩
  · rcases get q with ⟨rfl, _⟩ | ⟨_, q⟩
    · exact own
    · exact ⟨x, y, q, r⟩
  · by_cases z : j = i
    · subst z; exact ⟨s', d', set_eq hs, s'.rt_dat rt'⟩
    · obtain ⟨x, y, q, r⟩ := h; exact ⟨x, y, by rw [set_ne z]; exact q, r⟩
  · by_cases z : j = i
    · subst z
      rw [hs] at q; cases q
      obtain ⟨x', rfl⟩ := io' ⟨x, rfl⟩
      exact ⟨x', set_eq hs⟩
    · exact ⟨x, by rw [set_ne z]; exact q⟩
  · have z : j ≠ i := fun z => by subst z; rw [hs] at q; cases q; exact nlk x rfl
    rw [set_ne z]; exact q
  · by_cases z : a = p
    · subst z; exact ⟨o, upd_same⟩
    · rw [upd_ne z]; exact st.dom a q
  · rcases get q with ⟨_, z⟩ | ⟨_, q⟩
    · subst z; cases rt'
    · obtain ⟨v, h1, h2⟩ := st.sh j x q
      exact ⟨v, h1, keep h2⟩
  · by_cases z : j = i
    · subst z
      rw [set_eq hs] at q; cases q
      rw [rt'] at r; cases r
      exact ⟨p, hp, hAv, hv, hm⟩
    · rw [set_ne z] at q
      obtain ⟨a, h1, h2, h3, h4⟩ := st.ow j x y q r
      exact ⟨a, h1, h2, h3.touch hAv fun w => z (st.dis j i p ⟨x, y, q, r⟩ own.holds (by cases w; exact h1) hp), h4⟩

/-! ### a value that is carried, to be stored -/
def CVOk (G : Gs) (Av : Addr → Prop) (S : SS) (σ : St) (H : Hp) (v : V) (rv : RV) : Prop := match rv with
  | RV.sh d => Rep G Av H d v
  | .fr d => ∃ p, v = .ref p ∧ Av p ∧ (∀ i, Holds S i → ¬ At σ i p) ∧ Vw G Av H d v ∧ MutD d = true
  | .br _ => False
theorem CVOk.on {v : V} {rv : RV} (h : CVOk G Av S σ H v rv) (st : StOk G Av S σ H) (P : Post G Av S σ H Av1 S1 H1) : CVOk G Av1 S1 σ H1 v rv := by
  cases rv with
  | sh d => exact P.rep st h
  | fr d =>
    obtain ⟨p, rfl, h1, h2, h3, h4⟩ := h
    have nr : ¬ Root S σ p := fun ⟨i, hi, ai⟩ => h2 i hi.holds ai
    exact ⟨p, rfl, P.held p h1 nr, fun i hi => h2 i (P.holds i hi), P.vw st h3 fun a e => by cases e; exact nr, h4⟩
  | br i => exact h.elim
/-- it is stored in a free slot -/
theorem CVOk.put {v : V} {rv : RV} {i : Nat} (h : CVOk G Av S σ H v rv) (st : StOk G Av S σ H) (hf : freeAt S i = true) : StOk G Av (S.set i rv.sv) (σ.set i (some v)) H ∧ (∀ a, Root (S.set i rv.sv) (σ.set i (some v)) a → Root S σ a ∨ (v = .ref a ∧ ∃ d, rv = .fr d)) ∧
    (∀ (j : Nat) e, S[j]? = some (.io e) ∨ S[j]? = some (.lk e) → (S.set i rv.sv)[j]? = S[j]? ∧ (σ.set i (some v))[j]? = σ[j]?) := by
  have ni : ∀ (j : Nat) e, S[j]? = some (.io e) ∨ S[j]? = some (.lk e) → j ≠ i := fun j e h z => by
    subst z
    obtain ⟨s, hs, hk⟩ := freeAt_get hf
    rw [hs] at h
    rcases hk with rfl | ⟨x, rfl⟩ | ⟨x, rfl⟩ <;> (rcases h with h | h <;> cases h)
  cases rv with
  | sh d =>
    have P := st.put hf h
    have hfr : ∀ a o, H a = some o → H a = none → False := fun a o z w => by rw [z] at w; cases w
    refine ⟨P.st, fun a r => ?_, fun j e z => ⟨set_ne (ni j e z), set_ne (ni j e z)⟩⟩
    rcases P.roots a r with z | z
    · exact .inl z
    · obtain ⟨o, w⟩ := P.st.dom a (r.av P.st)
      exact (hfr a o w z).elim
  | fr d =>
    obtain ⟨p, rfl, h1, h2, h3, h4⟩ := h
    obtain ⟨q1, q2, q3⟩ := st.putO hf h3 h4 h1 h2
    exact ⟨q1, fun a r => (q2 a r).imp id fun z => ⟨by rw [z], d, rfl⟩, q3⟩
  | br j => exact h.elim
end
section
variable {G : Gs} {W : WX} {Av Av1 Av2 : Addr → Prop} {S S1 S2 S' : SS} {σ σ1 σ2 : St} {H H1 H2 : Hp} {D : Ends}
theorem EPost.cap {rv r : RV} {v : V} (st : StOk G Av S σ H) (p : EPost G Av S σ H rv S1 v H1) (e : Eng.cap rv S1 = .ok r S2) : ∃ Av', Post G Av S σ H Av' S2 H1 ∧ CVOk G Av' S2 σ H1 v r := by
  cases rv with
  | sh d => cases e; obtain ⟨Av', P, q⟩ := p.ex; exact ⟨Av', P, q⟩
  | fr d =>
    cases e
    obtain ⟨Av', P, a, rfl, h1, h2, h3, h4⟩ := p.ex
    exact ⟨Av', P, a, rfl, h1, P.new_apart st h2, h3, h4⟩
  | br i =>
    cases es : shr (.br i) S1 with
    | ok d S3 =>
      have e : (shr (.br i) S1).bind (fun d S1 => .ok (.sh d) S1) = R.ok r S2 := e
      rw [es] at e
      cases e
      obtain ⟨Av', P, q⟩ := (p.shared st es).ex
      exact ⟨Av', P, q⟩
    | exc x S3 => exact (shr_exc es).elim
    | bad =>
      have e : (shr (.br i) S1).bind (fun d S1 => .ok (.sh d) S1) = R.ok r S2 := e
      rw [es] at e; cases e
theorem cap_exc {rv : RV} {S S' : SS} {e : Eng.D} : Eng.cap rv S ≠ .exc e S' := by
  cases rv with
  | sh d => exact fun h => nomatch h
  | fr d => exact fun h => nomatch h
  | br i =>
    intro h
    have h : (shr (.br i) S).bind (fun d S1 => .ok (RV.sh d) S1) = R.exc e S' := h
    cases es : shr (.br i) S with
    | ok d S3 => rw [es] at h; cases h
    | exc x S3 => exact (shr_exc es).elim
    | bad => rw [es] at h; cases h

/-! ### what a statement does -/
/-- behind a raise -/
structure SXPost (G : Gs) (Av : Addr → Prop) (S : SS) (σ : St) (H : Hp) (e : Eng.D) (S' : SS) (σ' : St) (cls : Value) (dx : Option Addr) (H' : Hp) : Prop where
  ex : ∃ Av', SPost G Av S σ H Av' S' σ' H' ∧ ∃ c ns ds, e = .obj c ns ds ∧ cls = .ref (G.c c) ∧ ∃ a vs, dx = some a ∧ ¬ Av' a ∧ H' a = some (.xd (ns.zip vs)) ∧ ns.length = vs.length ∧ Reps G Av' H' ds vs
/-- what is handed back -/
def RtOk (G : Gs) (Av : Addr → Prop) (S : SS) (σ : St) (H : Hp) (Av' : Addr → Prop) (S' : SS) (σ' : St) (H' : Hp) (fr : Bool) (d : Eng.D) (v : V) : Prop :=
  if fr then ∃ p, v = .ref p ∧ Av' p ∧ (Root S σ p ∨ H p = none) ∧ (∀ i, Holds S' i → ¬ At σ' i p) ∧ Vw G Av' H' d v ∧ MutD d = true else Rep G Av' H' d v
variable (G W) in
def RdS (r : F) (Av : Addr → Prop) (S : SS) (σ : St) (H : Hp) (D : Ends) : Prop := match r with
  | .nx S' => ∀ Av' σ' H', SPost G Av S σ H Av' S' σ' H' → D.nx σ' H'
  | .bk S' => ∀ Av' σ' H', SPost G Av S σ H Av' S' σ' H' → D.bk σ' H'
  | .ct S' => ∀ Av' σ' H', SPost G Av S σ H Av' S' σ' H' → D.ct σ' H'
  | .rt fr d S' => ∀ Av' σ' v H', SPost G Av S σ H Av' S' σ' H' → RtOk G Av S σ H Av' S' σ' H' fr d v → D.rt v H'
  | .exc e S' => ∀ cls d σ' H', SXPost G Av S σ H e S' σ' cls d H' → W cls d σ' H'
  | .bad => False
variable (G W) in
def tS (f : SS → F) : TS := fun D σ H => ∃ Av S, StOk G Av S σ H ∧ RdS G W (f S) Av S σ H D
theorem SXPost.trans (st : StOk G Av S σ H) {e : Eng.D} {S2 : SS} {c : Value} {d : Option Addr} (p : SPost G Av S σ H Av1 S1 σ1 H1) (q : SXPost G Av1 S1 σ1 H1 e S2 σ2 c d H2) : SXPost G Av S σ H e S2 σ2 c d H2 := by
  obtain ⟨Av2, P, r⟩ := q.ex
  exact ⟨Av2, SPost.trans st p P, r⟩
theorem RtOk.trans (p : SPost G Av S σ H Av1 S1 σ1 H1) {fr : Bool} {d : Eng.D} {v : V} (r : RtOk G Av1 S1 σ1 H1 Av2 S2 σ2 H2 fr d v) : RtOk G Av S σ H Av2 S2 σ2 H2 fr d v := by
  unfold RtOk at *
  cases fr with
  | false => exact r
  | true =>
    simp only [if_true] at *
    obtain ⟨a, h1, h2, h3, h4⟩ := r
    refine ⟨a, h1, h2, ?_, h4⟩
    rcases h3 with z | z
    · exact p.roots a z
    · exact .inr (p.back_none z)
theorem RdS.trans (st : StOk G Av S σ H) {r : F} (p : SPost G Av S σ H Av1 S1 σ1 H1) (h : RdS G W r Av S σ H D) : RdS G W r Av1 S1 σ1 H1 D := by
  cases r with
  | nx S' => exact fun Av' σ' H' q => h Av' σ' H' (SPost.trans st p q)
  | bk S' => exact fun Av' σ' H' q => h Av' σ' H' (SPost.trans st p q)
  | ct S' => exact fun Av' σ' H' q => h Av' σ' H' (SPost.trans st p q)
  | rt fr d S' => exact fun Av' σ' v H' q r => h Av' σ' v H' (SPost.trans st p q) (r.trans p)
  | exc e S' => exact fun c d σ' H' q => h c d σ' H' (q.trans st p)
  | bad => exact h
theorem XPost.s {e : Eng.D} {S' : SS} {c : Value} {d : Option Addr} {H' : Hp} (x : XPost G Av S σ H e S' c d H') : SXPost G Av S σ H e S' σ c d H' := by
  obtain ⟨Av', P, r⟩ := x.ex
  exact ⟨Av', P.s, r⟩
theorem tS_bind {p : KE} {f : RV → SS → F} {Q' : VK} (st : StOk G Av S σ H) (h : RdS G W ((p S).toF f) Av S σ H D)
    (k : ∀ rv S1 v H1, EPost G Av S σ H rv S1 v H1 → RdS G W (f rv S1) Av S σ H D → Q' v H1) : tE G W p σ H Q' := by
  refine ⟨Av, S, st, ?_⟩
  cases e : p S with
  | ok rv S1 => rw [e] at h; exact fun v H1 q => k rv S1 v H1 q h
  | exc x S1 => rw [e] at h; exact fun c d H' q => h c d σ H' q.s
  | bad => rw [e] at h; exact h
theorem tS_bindT {p : KT} {f : Bool → SS → F} {Q' : Bool → Hp → Prop} (st : StOk G Av S σ H) (h : RdS G W ((p S).toF f) Av S σ H D)
    (k : ∀ b S1 Av1 H1, Post G Av S σ H Av1 S1 H1 → RdS G W (f b S1) Av S σ H D → Q' b H1) : tT G W p σ H Q' := by
  refine ⟨Av, S, st, ?_⟩
  cases e : p S with
  | ok b S1 => rw [e] at h; exact fun Av1 H1 q => k b S1 Av1 H1 q h
  | exc x S1 => rw [e] at h; exact fun c d H' q => h c d σ H' q.s
  | bad => rw [e] at h; exact h
theorem tS_bind1 {γ : Type} {E : ER γ} {p : SS → R γ} {f : γ → SS → F} {Q' : VK} (st : StOk G Av S σ H) (h : RdS G W ((p S).toF f) Av S σ H D)
    (k : ∀ x S1 Av1 v H1, Post G Av S σ H Av1 S1 H1 → E Av1 S1 σ H1 x v → RdS G W (f x S1) Av S σ H D → Q' v H1) : t1 G W E p σ H Q' := by
  refine ⟨Av, S, st, ?_⟩
  cases e : p S with
  | ok rv S1 => rw [e] at h; exact fun Av1 v H1 q r => k rv S1 Av1 v H1 q r h
  | exc x S1 => rw [e] at h; exact fun c d H' q => h c d σ H' q.s
  | bad => rw [e] at h; exact h
end
end Eng

namespace Eng
open PySem PySem.Spec L2
open PyProof.Rows hiding St
section
variable {X : Cx} {G : Gs} {W : WX} {e a b c o i : Expr} {st : Stmt} {rest body : List Stmt} {pos pp : Pos} {p q : KE} {t : KT} {f g : SS → F}

theorem PS_imp {t t' : TS} (h : PS X st t') (k : ∀ D σ H, t D σ H → t' D σ H) : PS X st t := ⟨fun pins s σ H D I w => h.run pins s σ H D I (k D σ H w)⟩
theorem PSs_imp {t t' : TS} (h : PSs X rest t') (k : ∀ D σ H, t D σ H → t' D σ H) : PSs X rest t := ⟨fun pins s σ H D I w => h.run pins s σ H D I (k D σ H w)⟩
theorem b_nil : PSs X [] (tS G W fun S => .nx S) := PSs_imp pss_nil fun D σ H ⟨Av, S, st, h⟩ => h Av σ H (SPost.refl st)
theorem b_cons (h1 : PS X st (tS G W f)) (h2 : PSs X rest (tS G W g)) : PSs X (st :: rest) (tS G W fun S => (f S).seq g) := PSs_imp (pss_cons h1 h2) fun D σ H ⟨Av, S, st0, h⟩ => by
  have h : RdS G W ((f S).seq g) Av S σ H D := h
  refine ⟨Av, S, st0, ?_⟩
  cases e : f S with
  | nx S1 => rw [e] at h; exact fun Av1 σ1 H1 P => ⟨Av1, S1, P.st, h.trans st0 P⟩
  | bk S1 => rw [e] at h; exact h
  | ct S1 => rw [e] at h; exact h
  | rt fr d S1 => rw [e] at h; exact h
  | exc x S1 => rw [e] at h; exact h
  | bad => rw [e] at h; exact h
theorem b_pass : PS X (.Pass pos) (tS G W fun S => .nx S) := PS_imp ps_pass fun D σ H ⟨Av, S, st, h⟩ => h Av σ H (SPost.refl st)
theorem b_brk : PS X (.Break pos) (tS G W fun S => .bk S) := PS_imp ps_break fun D σ H ⟨Av, S, st, h⟩ => h Av σ H (SPost.refl st)
theorem b_cnt : PS X (.Continue pos) (tS G W fun S => .ct S) := PS_imp ps_continue fun D σ H ⟨Av, S, st, h⟩ => h Av σ H (SPost.refl st)
theorem b_never : PS X st (tS G W fun _ => .bad) := PS_imp ps_never fun D σ H ⟨Av, S, st, h⟩ => h
theorem b_retn : PS X (.Return none pos) (tS G W fun S => .rt false .non S) := PS_imp ps_retN fun D σ H ⟨Av, S, st, h⟩ => h Av σ .non H (SPost.refl st) (show RtOk G Av S σ H Av S σ H false .non .non from (rfl : V.non = V.non))
theorem b_expr (he : PE X e (tE G W p)) (hs : swapsWith e none pos.line X.env = pure false) : PS X (.Expr e pos) (tS G W fun S => (p S).toF fun _ S1 => .nx S1) := PS_imp (ps_expr he hs) fun D σ H ⟨Av, S, st, h⟩ =>
  tS_bind st h fun rv S1 v H1 P h1 => let ⟨Av1, P1, _⟩ := P.ex; h1 Av1 σ H1 P1.s
theorem b_if {t : KT} (hc : PT X c (tT G W t)) {a b : List Stmt} (ha : PSs X a (tS G W f)) (hb : PSs X b (tS G W g)) : PS X (.If c a b pos) (tS G W fun S => (t S).toF fun k S1 => if k then f S1 else g S1) := PS_imp (ps_if hc ha hb) fun D σ H ⟨Av, S, st, h⟩ =>
  tS_bindT st h fun k S1 Av1 H1 P h1 => by
    have h1 := h1.trans st P.s
    cases k with
    | true => exact ⟨Av1, S1, P.st, h1⟩
    | false => exact ⟨Av1, S1, P.st, h1⟩
theorem b_ret (he : PE X e (tE G W p)) : PS X (.Return (some e) pos) (tS G W fun S => (p S).toF retV) := PS_imp (ps_ret he) fun D σ H ⟨Av, S, st, h⟩ =>
  tS_bind st h fun rv S1 v H1 P h1 => by
    obtain ⟨Av1, P1, q⟩ := P.ex
    cases rv with
    | sh d => exact h1 Av1 σ v H1 P1.s q
    | fr d =>
      obtain ⟨a, rfl, g1, g2, g3, g4⟩ := q
      exact h1 Av1 σ _ H1 P1.s ⟨a, rfl, g1, .inr g2, P1.new_apart st g2, g3, g4⟩
    | br j =>
      obtain ⟨g1, g2⟩ := q
      have h1 : RdS G W (match S1[j]? with
        | some (.ow d) => F.rt true d (S1.set j .no)
        | some (.sh d) => .rt false d S1
        | _ => .bad) Av S σ H D := h1
      split at h1
      · rename_i d ej
        obtain ⟨a, k1, k2, k3, k4⟩ := P1.st.ow j _ d ej rfl
        rw [show σ[j]? = some (some (.ref a)) from k1] at g1; cases g1
        -- the slot is emptied
        have get : ∀ {k s}, (S1.set j .no)[k]? = some s → (k = j ∧ s = .no) ∨ (k ≠ j ∧ S1[k]? = some s) := fun q => get_set_cases q
        have hol : ∀ {k}, Holds (S1.set j .no) k → Holds S1 k ∧ k ≠ j := fun {k} ⟨s, d', q, r⟩ => by
          rcases get q with ⟨_, rfl⟩ | ⟨n, q⟩
          · cases r
          · exact ⟨⟨s, d', q, r⟩, n⟩
        have st2 : StOk G Av1 (S1.set j .no) σ H1 := ⟨by rw [List.length_set]; exact P1.st.len, P1.st.dom, fun k d' q => by
            rcases get q with ⟨_, z⟩ | ⟨_, q⟩
            · cases z
            · exact P1.st.sh k d' q, fun k s d' q r => by
            rcases get q with ⟨_, rfl⟩ | ⟨_, q⟩
            · cases r
            · exact P1.st.ow k s d' q r, fun k l a' h1 h2 => P1.st.dis k l a' (hol h1).1 (hol h2).1⟩
        have ps := P1.s
        refine h1 Av1 σ _ H1 ⟨ps.frame, ps.stay, ps.sub, ps.held, fun a' ⟨k, ⟨s, d', q, r⟩, ha⟩ => ?_, fun k d' q => ?_, fun k d' q => ?_, st2⟩ ⟨a, rfl, k2, ?_, fun k hk ak => (hol hk).2 (P1.st.dis k j a (hol hk).1 ⟨_, d, ej, rfl⟩ ak k1), k3, k4⟩
        · rcases get q with ⟨_, rfl⟩ | ⟨_, q⟩
          · cases r
          · exact ps.roots a' ⟨k, ⟨s, d', q, r⟩, ha⟩
        · obtain ⟨⟨x, w1⟩, w2⟩ := ps.ios k d' q
          have n : k ≠ j := fun z => by subst z; rw [ej] at w1; cases w1
          exact ⟨⟨x, (set_ne n).trans w1⟩, w2⟩
        · obtain ⟨w1, w2⟩ := ps.lks k d' q
          have n : k ≠ j := fun z => by subst z; rw [ej] at w1; cases w1
          exact ⟨(set_ne n).trans w1, w2⟩
        · exact ps.roots a ⟨j, ⟨_, d, ej, rfl⟩, k1⟩
      · rename_i d ej
        obtain ⟨v', k1, k2⟩ := P1.st.sh j d ej
        rw [g1] at k1; cases k1
        exact h1 Av1 σ _ H1 P1.s k2
      · exact h1.elim

/-! ### names take values -/
theorem put_post {Av Av1 : Addr → Prop} {S S1 : SS} {σ : St} {H H1 : Hp} {v : V} {rv : RV} {j : Nat} (st : StOk G Av S σ H) (P : Post G Av S σ H Av1 S1 H1) (h : CVOk G Av1 S1 σ H1 v rv) (hn : ∀ a d, v = .ref a → rv = .fr d → Root S σ a ∨ H a = none) (hf : freeAt S1 j = true) :
    SPost G Av S σ H Av1 (S1.set j rv.sv) (σ.set j (some v)) H1 := by
  obtain ⟨q1, q2, q3⟩ := h.put P.st hf
  refine ⟨P.frame, P.stay, P.sub, P.held, fun a r => ?_, fun k d q => ?_, fun k d q => ?_, q1⟩
  · rcases q2 a r with z | ⟨z, d, e⟩
    · exact .inl (P.root z)
    · exact hn a d z e
  · obtain ⟨d', e⟩ := P.ios k d q
    obtain ⟨k1, k2⟩ := q3 k d' (.inl e)
    exact ⟨⟨d', by rw [k1]; exact e⟩, k2⟩
  · have e := P.lks k d q
    obtain ⟨k1, k2⟩ := q3 k d (.inr e)
    exact ⟨by rw [k1]; exact e, k2⟩
/-- a captured value: a fresh one is new -/
theorem cap_new {Av Av1 : Addr → Prop} {S S1 S2 : SS} {σ : St} {H H1 : Hp} {rv r : RV} {v : V} (p : EPost G Av S σ H rv S1 v H1) (e : Eng.cap rv S1 = .ok r S2) : ∀ a d, v = .ref a → r = .fr d → Root S σ a ∨ H a = none := fun a d hv hr => by
  subst hr
  cases rv with
  | sh d' => cases e
  | fr d' =>
    cases e
    obtain ⟨Av', P, a', rfl, h1, h2, h3⟩ := p.ex
    cases hv
    exact .inr h2
  | br i =>
    have e : (shr (.br i) S1).bind (fun d S1 => .ok (RV.sh d) S1) = R.ok (.fr d) S2 := e
    cases es : shr (.br i) S1 with
    | ok d S3 => rw [es] at e; cases e
    | exc x S3 => exact (shr_exc es).elim
    | bad => rw [es] at e; cases e
theorem tri_set {j : Nat} {D : Ends} {σ : St} {H : Hp} (h : tS G W (fun S => (p S).toF fun r S1 => asgV (.nm j) r S1) D σ H) : tE G W p σ H fun y H1 => gName j y σ H1 D.nx := by
  obtain ⟨Av, S, st, h⟩ := h
  refine tS_bind st h fun rv S1 v H1 P h1 => ?_
  have h1 : RdS G W ((Eng.cap rv S1).toF fun r S1 => if freeAt S1 j then .nx (S1.set j r.sv) else .bad) Av S σ H D := h1
  cases ec : Eng.cap rv S1 with
  | ok r S2 =>
    rw [ec] at h1
    have h1 : RdS G W (if freeAt S2 j then F.nx (S2.set j r.sv) else .bad) Av S σ H D := h1
    obtain ⟨Av2, P2, cv⟩ := P.cap st ec
    split at h1
    · rename_i hf
      exact h1 Av2 _ H1 (put_post st P2 cv (cap_new (Av1 := Av2) P ec) hf)
    · exact h1.elim
  | exc x S2 => exact (cap_exc ec).elim
  | bad => rw [ec] at h1; exact h1.elim
theorem b_set {j : Nat} {x : Str} (hN : X.N.Nodup) (hi : X.N[j]? = some x) (hx : Loc X.env.scope x) (he : PE X e (tE G W p)) (hs : swapsWith e (some (.Name x pp)) pos.line X.env = pure false) (hf : X.fn x = true ∨ X.env.scope.names.lookup x = some .local) :
    PS X (.Assign [.Name x pp] e pos) (tS G W fun S => (p S).toF fun r S1 => asgV (.nm j) r S1) := PS_imp (ps_set hN hi hx he hs hf) fun D σ H => tri_set
theorem b_asgT {l : Tg} {tg : Expr} (he : PE X e (tE G W p)) (hg : PG X tg (tG G (.tup l))) (hs : swapsWithSole [tg] e pos.line X.env = pure false) (hw : swappedStores [tg] e X.env = pure none) (h1 : (assignEach [tg] X.env).map (·.2) = [PySem.assign tg X.env]) :
    PS X (.Assign [tg] e pos) (tS G W fun S => (p S).toF fun r S1 => asgV (.tup l) r S1) := PS_imp (ps_asg he hg hs hw h1) fun D σ H ⟨Av, S, st, h⟩ =>
  tS_bind st h fun rv S1 v H1 P h1 => by
    have h1 : RdS G W ((shr rv S1).toF fun d S1 => match Eng.assign (.tup l) d S1 with
      | some S2 => .nx S2
      | none => .bad) Av S σ H D := h1
    cases es : shr rv S1 with
    | ok d S2 =>
      rw [es] at h1
      have h1 : RdS G W (match Eng.assign (.tup l) d S2 with
        | some S2 => F.nx S2
        | none => .bad) Av S σ H D := h1
      obtain ⟨Av2, P2, q⟩ := (P.shared st es).ex
      cases ea : Eng.assign (.tup l) d S2 with
      | none => rw [ea] at h1; exact h1.elim
      | some S3 =>
        rw [ea] at h1
        exact ⟨Av2, S2, d, S3, P2.st, q, ea, fun σ' Q _ _ => h1 Av2 σ' H1 (SPost.trans st P2.s Q)⟩
    | exc x S2 => exact (shr_exc es).elim
    | bad => rw [es] at h1; exact h1.elim
theorem RVOk.on {Av0 Av Av1 : Addr → Prop} {S0 S S1 : SS} {σ : St} {H0 H H1 : Hp} {v : V} {rv : RV} (st0 : StOk G Av0 S0 σ H0) (P0 : Post G Av0 S0 σ H0 Av S H) (q : RVOk G Av S σ H0 H v rv) (P : Post G Av S σ H Av1 S1 H1) : RVOk G Av1 S1 σ H0 H1 v rv := by
  cases rv with
  | sh d => exact P.rep P0.st q
  | fr d =>
    obtain ⟨a', rfl, g1, g2, g3, g4⟩ := q
    have nr : ¬ Root S σ a' := fun ⟨l, hl, al⟩ => P0.new_apart st0 g2 l hl.holds al
    exact ⟨a', rfl, P.held a' g1 nr, g2, P.vw P0.st g3 fun b e => by cases e; exact nr, g4⟩
  | br l => exact ⟨q.1, P.live l q.2⟩
theorem RVOk.cap {Av0 Av : Addr → Prop} {S0 S S1 : SS} {σ : St} {H0 H : Hp} {v : V} {rv r : RV} (st0 : StOk G Av0 S0 σ H0) (P0 : Post G Av0 S0 σ H0 Av S H) (q : RVOk G Av S σ H0 H v rv) (e : Eng.cap rv S = .ok r S1) : ∃ Av1, Post G Av S σ H Av1 S1 H ∧ CVOk G Av1 S1 σ H v r := by
  cases rv with
  | sh d => cases e; exact ⟨Av, Post.refl P0.st, q⟩
  | fr d =>
    cases e
    obtain ⟨a', rfl, g1, g2, g3, g4⟩ := q
    exact ⟨Av, Post.refl P0.st, a', rfl, g1, P0.new_apart st0 g2, g3, g4⟩
  | br i =>
    have E : EPost G Av S σ H (.br i) S v H := ⟨Av, Post.refl P0.st, q⟩
    exact E.cap P0.st e
/-- x, y = a, b -/
theorem b_par {j k : Nat} {x y : Str} {px py pt : Pos} {kt k2 : Nat} {pt2 : Pos} (hc : X.calm = true) (hN : X.N.Nodup) (hi : X.N[j]? = some x) (hj : X.N[k]? = some y) (hij : j ≠ k) (hx : X.env.scope.names.lookup x = some .local) (hy : X.env.scope.names.lookup y = some .local)
    (ha : PE X a (tE G W p)) (hb : PE X b (tE G W q)) (hsa : starEach [a, b] X.env = (false, eval a X.env) :: starEach [b] X.env) (hsb : starEach [b] X.env = (false, eval b X.env) :: starEach [] X.env)
    (hw : swappedStores [.Tuple [.Name x px, .Name y py] kt pt] (.Tuple [a, b] k2 pt2) X.env = pure (some [x, y])) (hs : swapsWithSole [.Tuple [.Name x px, .Name y py] kt pt] (.Tuple [a, b] k2 pt2) pos.line X.env = pure false) :
    PS X (.Assign [.Tuple [.Name x px, .Name y py] kt pt] (.Tuple [a, b] k2 pt2) pos) (tS G W fun S => (p S).toF fun r S1 => (q S1).toF fun t S2 => parV j k r t S2) :=
  PS_imp (ps_par hc hN hi hj hij hx hy (pa_cons ha (pa_cons hb pa_nil hsb) hsa) hw hs) fun D σ H ⟨Av, S, st, h⟩ =>
    tS_bind st h fun r S1 v H1 P h1 => by
      -- the first value is carried as it is
      obtain ⟨Av1, P1, q1⟩ := P.ex
      refine ⟨Av1, S1, P1.st, ?_⟩
      cases eq : q S1 with
      | bad => rw [eq] at h1; exact h1
      | exc x S2 => rw [eq] at h1; exact fun c d H' z => h1 c d σ H' (z.trans P1).s
      | ok t S2 =>
      rw [eq] at h1
      intro u H2 Q
      have h2 : RdS G W ((Eng.cap r S2).toF fun r S1 => (Eng.cap t S1).toF fun t S2 => if freeAt S2 j && freeAt S2 k && j != k then .nx ((S2.set j r.sv).set k t.sv) else .bad) Av S σ H D := h1
      obtain ⟨Av2, P2, q2⟩ := Q.ex
      have R1 := RVOk.on st P1 q1 P2
      have R2 : RVOk G Av2 S2 σ H H2 u t := by
        cases t with
        | sh d => exact q2
        | fr d => obtain ⟨a', g0, g1, g2, g3⟩ := q2; exact ⟨a', g0, g1, P1.back_none g2, g3⟩
        | br l => exact q2
      have apart : ∀ a d d', v = .ref a → r = .fr d → u = .ref a → t = .fr d' → False := fun a d d' e1 e2 e3 e4 => by
        subst e2; subst e4
        obtain ⟨a1, g0, g1, _⟩ := q1
        obtain ⟨a2, k0, k1, k2, _⟩ := q2
        rw [e1] at g0; cases g0
        rw [e3] at k0; cases k0
        obtain ⟨o, w⟩ := P1.st.dom a g1
        rw [w] at k2; cases k2
      have P12 := P1.trans P2
      cases ec : Eng.cap r S2 with
      | exc x S3 => exact (cap_exc ec).elim
      | bad => rw [ec] at h2; exact h2.elim
      | ok r' S3 =>
        rw [ec] at h2
        have h2 : RdS G W ((Eng.cap t S3).toF fun t S2 => if freeAt S2 j && freeAt S2 k && j != k then .nx ((S2.set j r'.sv).set k t.sv) else .bad) Av S σ H D := h2
        obtain ⟨Av3, P3, c1⟩ := R1.cap st P12 ec
        have R3 := RVOk.on st P12 R2 P3
        have P13 := P12.trans P3
        cases et : Eng.cap t S3 with
        | exc x S4 => exact (cap_exc et).elim
        | bad => rw [et] at h2; exact h2.elim
        | ok t' S4 =>
          rw [et] at h2
          have h2 : RdS G W (if freeAt S4 j && freeAt S4 k && j != k then F.nx ((S4.set j r'.sv).set k t'.sv) else .bad) Av S σ H D := h2
          obtain ⟨Av4, P4, c2⟩ := R3.cap st P13 et
          have c1 := c1.on P3.st P4
          have PF := P13.trans P4
          split at h2
          · rename_i hz
            simp only [Bool.and_eq_true, bne_iff_ne] at hz
            obtain ⟨⟨f1, f2⟩, _⟩ := hz
            have capfr : ∀ {rv : RV} {Sx Sy : SS} {d}, Eng.cap rv Sx = .ok (.fr d) Sy → rv = .fr d := fun {rv Sx Sy d} e => by
              cases rv with
              | sh d' => cases e
              | fr d' => cases e; rfl
              | br l =>
                have e : (shr (.br l) Sx).bind (fun d S1 => .ok (RV.sh d) S1) = Eng.R.ok (.fr d) Sy := e
                cases es : shr (.br l) Sx with
                | ok d S3 => rw [es] at e; cases e
                | exc x S3 => exact (shr_exc es).elim
                | bad => rw [es] at e; cases e
            have new1 : ∀ a d, v = .ref a → r' = .fr d → H a = none := fun a d hv hr => by
              subst hr
              have e := capfr ec
              subst e
              obtain ⟨a', g0, _, g2, _⟩ := R1
              rw [hv] at g0; cases g0; exact g2
            have new2 : ∀ a d, u = .ref a → t' = .fr d → H a = none := fun a d hv hr => by
              subst hr
              have e := capfr et
              subst e
              obtain ⟨a', g0, _, g2, _⟩ := R2
              rw [hv] at g0; cases g0; exact g2
            -- the first store, then the second one
            obtain ⟨s1, s2, s3⟩ := c1.put P4.st f1
            have fk : freeAt (S4.set j r'.sv) k = true := by unfold freeAt; rw [set_ne (Ne.symm hij)]; exact f2
            have c2' : CVOk G Av4 (S4.set j r'.sv) (σ.set j (some v)) H2 u t' := by
              cases t' with
              | sh d => exact c2
              | br l => exact c2.elim
              | fr d =>
                obtain ⟨a', eu, g1, g2, g3, g4⟩ := c2
                refine ⟨a', eu, g1, fun l hl al => ?_, g3, g4⟩
                obtain ⟨sv, dv, ql, rl⟩ := hl
                by_cases z : l = j
                · subst z
                  obtain ⟨sf, hsf, _⟩ := freeAt_get f1
                  rw [set_eq hsf] at ql
                  cases ql
                  have hi : l < σ.length := by rw [← P4.st.len]; exact (List.getElem?_eq_some_iff.mp hsf).1
                  have al : (σ.set l (some v))[l]? = some (some (.ref a')) := al
                  rw [List.getElem?_set_self hi] at al
                  cases al
                  cases r' with
                  | sh d' => cases rl
                  | br m => exact c1.elim
                  | fr d' => exact apart a' d' d rfl (capfr ec) eu (capfr et)
                · rw [set_ne z] at ql
                  have al : (σ.set j (some v))[l]? = some (some (.ref a')) := al
                  rw [set_ne z] at al
                  exact g2 l ⟨sv, dv, ql, rl⟩ al
            obtain ⟨t1, t2, t3⟩ := c2'.put s1 fk
            refine ⟨v, u, rfl, h2 Av4 _ H2 ⟨PF.frame, PF.stay, PF.sub, PF.held, fun a r => ?_, fun l d q => ?_, fun l d q => ?_, t1⟩⟩
            · rcases t2 a r with z | ⟨z, d, e⟩
              · rcases s2 a z with z | ⟨z, d, e⟩
                · exact .inl (PF.root z)
                · exact .inr (new1 a d z e)
              · exact .inr (new2 a d z e)
            · obtain ⟨d', e⟩ := PF.ios l d q
              obtain ⟨k1, k2⟩ := s3 l d' (.inl e)
              obtain ⟨k3, k4⟩ := t3 l d' (.inl (k1.trans e))
              exact ⟨⟨d', k3.trans (k1.trans e)⟩, k4.trans k2⟩
            · have e := PF.lks l d q
              obtain ⟨k1, k2⟩ := s3 l d (.inr e)
              obtain ⟨k3, k4⟩ := t3 l d (.inr (k1.trans e))
              exact ⟨k3.trans (k1.trans e), k4.trans k2⟩
          · exact h2.elim
end
end Eng

namespace Eng
open PySem PySem.Spec L2
open PyProof.Rows hiding St
section
variable {X : Cx} {G : Gs} {W : WX} {e a b c o i : Expr} {rest body : List Stmt} {pos pp : Pos} {p q : KE} {t : KT} {f g : SS → F}

/-! ### x[i] = e -/
theorem b_setix {j : Nat} {x : Str} {ix : Expr} {apos xpos : Pos} (hN : X.N[j]? = some x) (hv : Vis X.env.scope x) (hd : (x == ("__debug__" : Str)) = false) (hcd : (x == ("__classdict__" : Str)) = false)
    (he : PE X e (tE G W p)) (hi : PE X ix (tE G W q)) (hs : swapsWithSole [.Subscript (.Name x xpos) ix apos] e pos.line X.env = pure false) (hw : swappedStores [.Subscript (.Name x xpos) ix apos] e X.env = pure none)
    (h1 : (assignEach [.Subscript (.Name x xpos) ix apos] X.env).map (·.2) = [PySem.assign (.Subscript (.Name x xpos) ix apos) X.env])
    (ha : ∀ v, PySem.assign (.Subscript (.Name x xpos) ix apos) X.env v = (do
      let ov ← holding [v] (eval (.Name x xpos) X.env)
      let iv ← holding [v, ov] (eval ix X.env)
      standAt apos
      holding [v, ov, iv] (setItem ov iv v)
      release [v, ov, iv] [])) :
    PS X (.Assign [.Subscript (.Name x xpos) ix apos] e pos) (tS G W fun S => ((kShr p) S).toF fun y S1 => if ((S1[j]?).bind SV.dat).isSome then ((kVw q) S1).toF fun k S2 => (match (S2[j]?).bind SV.mu, deref S2 k with
      | some d, some n => (match (setixD d n y).bind (setAt S2 j) with
        | some S3 => .nx S3
        | none => .bad)
      | _, _ => .bad) else .bad) :=
  PS_imp (ps_asg (s_shr he) (pg_sub (pe_var hN hv hd hcd) (s_vw hi) set_list ha) hs hw h1) fun D σ H ⟨Av, S, st, h⟩ =>
    tS_bind1 st h fun y S1 Av1 v H1 P1 ry h1 => by
      have h1 : RdS G W (if ((S1[j]?).bind SV.dat).isSome then ((kVw q) S1).toF fun k S2 => (match (S2[j]?).bind SV.mu, deref S2 k with
        | some d, some n => (match (setixD d n y).bind (setAt S2 j) with
          | some S3 => .nx S3
          | none => .bad)
        | _, _ => .bad) else .bad) Av S σ H D := h1
      split at h1
      · rename_i hl
        obtain ⟨d0, hd0⟩ := Option.isSome_iff_exists.mp hl
        obtain ⟨w, hw1, _⟩ := P1.st.view (show dAt S1 j = some d0 from hd0)
        refine ⟨w, hw1, ?_⟩
        refine tS_bind1 P1.st (h1.trans st P1.s) fun k S2 Av2 u H2 P2 rk h2 => ?_
        have h2 := h2.trans P1.st P2.s
        split at h2
        · rename_i d n e1 e2
          obtain ⟨sv, hsv, hm⟩ := Option.bind_eq_some_iff.mp e1
          have vn := VOk.vx rk P2.st e2
          cases e3 : (setixD d n y).bind (setAt S2 j) with
          | none => rw [e3] at h2; exact h2.elim
          | some S3 =>
            rw [e3] at h2
            obtain ⟨d', e4, e5⟩ := Option.bind_eq_some_iff.mp e3
            obtain ⟨r, k1, k2, k3, k4⟩ := P2.st.ow j sv d hsv (sv.mu_rt hm)
            rw [show σ[j]? = some (some (.ref r)) from k1] at hw1
            cases hw1
            cases d with
            | lst ds =>
              cases n with
              | int m =>
                obtain ⟨jj, e6, rfl⟩ := Option.map_eq_some_iff.mp (show (ixN ds.length m).map (fun n => Eng.D.lst (ds.set n y)) = some d' from e4)
                cases vn.int
                obtain ⟨r', vs, e7, g1, g2⟩ := k3
                cases e7
                refine ⟨r, vs, m, jj, rfl, rfl, g1, by rw [g2.length]; exact e6, ?_⟩
                have ry2 := P2.rep P1.st ry
                exact h2 Av2 σ _ (Post.mutate P2.st e5 k1 ⟨r, _, rfl, upd_same, (g2.set jj ry2).touch k2⟩ rfl).s
              | _ => cases e4
            | _ => cases e4
        · exact h2.elim
      · exact h1.elim
/-! ### x.f = e -/
theorem put_zip {G : Gs} {Av : Addr → Prop} {H : Hp} {fn : Str} {d : D} {v : V} : ∀ (ns : List Str) (ds : List D) (vs : List V), ns.length = vs.length → Reps G Av H ds vs → Rep G Av H d v →
    ∃ vs', putF fn v (ns.zip vs) = (putN fn ns).zip vs' ∧ (putN fn ns).length = vs'.length ∧ Reps G Av H (putD fn d ns ds) vs'
  | [], ds, vs, hl, r, q => by
    have : vs = [] := List.length_eq_zero_iff.mp hl.symm
    subst this
    exact ⟨[v], rfl, rfl, v, [], rfl, q, rfl⟩
  | n :: ns, ds, vs, hl, r, q => by
    cases vs with
    | nil => cases hl
    | cons w vs =>
      cases ds with
      | nil => cases (show w :: vs = [] from r)
      | cons e ds =>
        obtain ⟨w', r', e1, h1, h2⟩ := r
        cases e1
        have hl : ns.length = vs.length := by simpa using hl
        by_cases z : n = fn
        · refine ⟨v :: vs, ?_, ?_, ?_⟩
          · show (if n = fn then (n, v) :: ns.zip vs else (n, w) :: putF fn v (ns.zip vs)) = (if n = fn then n :: ns else n :: putN fn ns).zip (v :: vs)
            rw [if_pos z, if_pos z]; rfl
          · show (if n = fn then n :: ns else n :: putN fn ns).length = _
            rw [if_pos z]; simp [hl]
          · show Reps G Av H (if n = fn then d :: ds else e :: putD fn d ns ds) _
            rw [if_pos z]; exact ⟨v, vs, rfl, q, h2⟩
        · obtain ⟨vs', k1, k2, k3⟩ := put_zip ns ds vs hl h2 q
          refine ⟨w :: vs', ?_, ?_, ?_⟩
          · show (if n = fn then (n, v) :: ns.zip vs else (n, w) :: putF fn v (ns.zip vs)) = (if n = fn then n :: ns else n :: putN fn ns).zip (w :: vs')
            rw [if_neg z, if_neg z, k1]; rfl
          · show (if n = fn then n :: ns else n :: putN fn ns).length = _
            rw [if_neg z]; simp [k2]
          · show Reps G Av H (if n = fn then d :: ds else e :: putD fn d ns ds) _
            rw [if_neg z]; exact ⟨w, vs', rfl, h1, k3⟩
theorem b_setf {j : Nat} {x fn : Str} {ci : Nat} {apos xpos : Pos} (hN : X.N[j]? = some x) (hv : Vis X.env.scope x) (hd : (x == ("__debug__" : Str)) = false) (hcd : (x == ("__classdict__" : Str)) = false)
    (he : PE X e (tE G W p)) (hc : Cls X.K (G.c ci)) (hn : NoAttr X.K (G.c ci) fn) (hs : swapsWith e (some (.Attribute (.Name x xpos) fn apos)) pos.line X.env = pure false) :
    PS X (.Assign [.Attribute (.Name x xpos) fn apos] e pos) (tS G W fun S => ((kShr p) S).toF fun y S1 => (match (S1[j]?).bind SV.mu with
      | some d => (match (setfD fn ci y d).bind (setAt S1 j) with
        | some S2 => .nx S2
        | none => .bad)
      | none => .bad)) :=
  PS_imp (ps_fld (pe_var hN hv hd hcd) (s_shr he) hs) fun D σ H ⟨Av, S, st, h⟩ =>
    tS_bind1 st h fun y S1 Av1 v H1 P1 ry h1 => by
      have hh := h1.trans st P1.s
      clear h1
      split at hh
      · rename_i d e1
        obtain ⟨sv, hsv, hm⟩ := Option.bind_eq_some_iff.mp e1
        obtain ⟨r, k1, k2, k3, k4⟩ := P1.st.ow j sv d hsv (sv.mu_rt hm)
        refine ⟨.ref r, k1, ?_⟩
        cases e3 : (setfD fn ci y d).bind (setAt S1 j) with
        | none => rw [e3] at hh; exact hh.elim
        | some S2 =>
          rw [e3] at hh
          obtain ⟨d', e4, e5⟩ := Option.bind_eq_some_iff.mp e3
          cases d with
          | obj c' ns ds =>
            have e4' : (if c' = ci ∧ ns.length = ds.length ∧ ns.length < 1000 then some (Eng.D.obj c' (putN fn ns) (putD fn y ns ds)) else none) = some d' := e4
            by_cases hz : c' = ci ∧ ns.length = ds.length ∧ ns.length < 1000
            · rw [if_pos hz] at e4'
              obtain ⟨rfl, z1, z2⟩ := hz
              obtain rfl := Option.some.inj e4'
              obtain ⟨r', dx, vs, e7, g1, g2, g3⟩ := k3
              cases e7
              obtain ⟨vs', q1, q2, q3⟩ := put_zip (fn := fn) ns ds vs g2 g3 ry
              refine ⟨r, _, dx, _, rfl, g1, hc, hn, by rw [List.length_zip]; omega, ?_⟩
              exact hh Av1 σ _ (Post.mutate P1.st e5 k1 ⟨r, dx, vs', rfl, by rw [upd_same, q1], q2, q3.touch k2⟩ rfl).s
            · rw [if_neg hz] at e4'; cases e4'
          | _ => cases e4
      · exact hh.elim

/-! ### while -/
theorem RdS.mono {r : F} {Av : Addr → Prop} {S : SS} {σ : St} {H : Hp} {D D' : Ends} (h : RdS G W r Av S σ H D) (h1 : ∀ σ H, D.nx σ H → D'.nx σ H) (h2 : ∀ σ H, D.bk σ H → D'.bk σ H) (h3 : ∀ σ H, D.ct σ H → D'.ct σ H) (h4 : ∀ v H, D.rt v H → D'.rt v H) : RdS G W r Av S σ H D' := by
  cases r with
  | nx S' => exact fun Av' σ' H' q => h1 _ _ (h Av' σ' H' q)
  | bk S' => exact fun Av' σ' H' q => h2 _ _ (h Av' σ' H' q)
  | ct S' => exact fun Av' σ' H' q => h3 _ _ (h Av' σ' H' q)
  | rt fr d S' => exact fun Av' σ' v H' q r => h4 _ _ (h Av' σ' v H' q r)
  | exc e S' => exact h
  | bad => exact h
theorem b_whl {fuel : Nat} (hp : PassesOwn (model X.prog X.w) X.A X.env X.xe) (hc : PT X c (tT G W t)) (hb : PSs X body (tS G W f)) : PS X (.While c body [] pos) (tS G W (whlF t f fuel)) :=
  PS_imp (ps_while hp hc hb) fun D σ H ⟨Av, S, st, h⟩ => by
    refine ⟨fun m σ H => ∃ Av S, StOk G Av S σ H ∧ RdS G W (whlF t f m S) Av S σ H D, ⟨fuel, Av, S, st, h⟩, ?_⟩
    rintro m σ H ⟨Av, S, st, h⟩
    cases m with
    | zero => exact h.elim
    | succ n =>
      have h : RdS G W ((t S).toF fun k S1 => if k then (match f S1 with
        | .nx S2 => whlF t f n S2
        | .ct S2 => whlF t f n S2
        | .bk S2 => .nx S2
        | r => r) else .nx S1) Av S σ H D := h
      refine tS_bindT st h fun b S1 Av1 H1 P h1 => ?_
      have h1 := h1.trans st P.s
      cases b with
      | false => exact h1 Av1 σ H1 (SPost.refl P.st)
      | true =>
        simp only [if_true] at h1 ⊢
        refine ⟨fun σ H => ∃ Av S, StOk G Av S σ H ∧ RdS G W (whlF t f n S) Av S σ H D, fun σ' H' w => ⟨n, Nat.lt_succ_self n, w⟩, Av1, S1, P.st, ?_⟩
        cases e : f S1 with
        | nx S2 => rw [e] at h1; exact fun Av2 σ2 H2 Q => ⟨Av2, S2, Q.st, h1.trans P.st Q⟩
        | ct S2 => rw [e] at h1; exact fun Av2 σ2 H2 Q => ⟨Av2, S2, Q.st, h1.trans P.st Q⟩
        | bk S2 => rw [e] at h1; exact h1
        | rt fr d S2 => rw [e] at h1; exact h1
        | exc x S2 => rw [e] at h1; exact h1
        | bad => rw [e] at h1; exact h1

/-! ### for -/
/-- a slot that was locked for the loop is its own again -/
theorem SPost.unlock {Av Av1 : Addr → Prop} {S S1 : SS} {σ σ1 : St} {H H1 : Hp} {u : Option Nat} (P : SPost G Av S σ H Av1 S1 σ1 H1) (hu : ∀ i, u = some i → (∃ d, S1[i]? = some (.lk d)) → (∃ d, S[i]? = some (.ow d)) ∧ σ1[i]? = σ[i]?) : SPost G Av S σ H Av1 (unlock S1 u) σ1 H1 := by
  cases u with
  | none => exact P
  | some i =>
    show SPost G Av S σ H Av1 (match S1[i]? with | some (.lk d) => S1.set i (.ow d) | _ => S1) σ1 H1
    split
    · rename_i d e
      obtain ⟨⟨d0, h0⟩, hσ⟩ := hu i rfl ⟨d, e⟩
      have get : ∀ {j s}, (S1.set i (.ow d))[j]? = some s → (j = i ∧ s = .ow d) ∨ (j ≠ i ∧ S1[j]? = some s) := fun q => get_set_cases q
      have hol : ∀ {j}, Holds (S1.set i (.ow d)) j → Holds S1 j := fun {j} ⟨s, d', q, r⟩ => by
        rcases get q with ⟨rfl, rfl⟩ | ⟨_, q⟩
        · exact ⟨_, d, e, rfl⟩
        · exact ⟨s, d', q, r⟩
      refine ⟨P.frame, P.stay, P.sub, P.held, fun a ⟨j, ⟨s, d', q, r⟩, ha⟩ => ?_, fun j d' h => ?_, fun j d' h => ?_, ⟨by rw [List.length_set]; exact P.st.len, P.st.dom, fun j d' q => ?_, fun j s d' q r => ?_, fun j k p h1 h2 => P.st.dis j k p (hol h1) (hol h2)⟩⟩
      · rcases get q with ⟨rfl, rfl⟩ | ⟨_, q⟩
        · exact .inl ⟨j, ⟨_, d0, h0, rfl⟩, by show σ[j]? = _; rw [← hσ]; exact ha⟩
        · exact P.roots a ⟨j, ⟨s, d', q, r⟩, ha⟩
      · have z : j ≠ i := fun z => by subst z; rw [h0] at h; cases h
        rw [set_ne z]; exact P.ios j d' h
      · have z : j ≠ i := fun z => by subst z; rw [h0] at h; cases h
        rw [set_ne z]; exact P.lks j d' h
      · rcases get q with ⟨_, z⟩ | ⟨_, q⟩
        · cases z
        · exact P.st.sh j d' q
      · rcases get q with ⟨rfl, rfl⟩ | ⟨_, q⟩
        · cases r; exact P.st.ow j _ d e rfl
        · exact P.st.ow j s d' q r
    · exact P
/-- only a normal end unlocks -/
theorem RdS.unl {Av Av1 : Addr → Prop} {S S1 : SS} {σ σ1 : St} {H H1 : Hp} {D : Ends} {r : F} {u : Option Nat} (st : StOk G Av S σ H) (h : RdS G W (unlockF u r) Av S σ H D) (P : SPost G Av S σ H Av1 S1 σ1 H1)
    (hu : ∀ i, u = some i → (∃ d, S[i]? = some (.ow d)) ∧ ∃ d, S1[i]? = some (.lk d) ∧ σ1[i]? = σ[i]?) : RdS G W r Av1 S1 σ1 H1 D := by
  cases r with
  | nx S' =>
    intro Av' σ' H' Q
    refine h Av' σ' H' ((SPost.trans st P Q).unlock fun i e hlk => ?_)
    obtain ⟨h1, d, h2, h3⟩ := hu i e
    exact ⟨h1, (Q.lks i d h2).2.trans h3⟩
  | bk S' => exact h.trans st P
  | ct S' => exact h.trans st P
  | rt fr d S' => exact h.trans st P
  | exc e S' => exact h.trans st P
  | bad => exact h
theorem b_for {tg : Tg} {tgE : Expr} {it : SS → R (List Eng.D × Option Nat)} (hp : PassesOwn (model X.prog X.w) X.A X.env X.xe) (hc : X.calm = true) (hi : PI X tgE i (tI G W it)) (hg : PG X tgE (tG G tg)) (hb : PSs X body (tS G W f))
    (hs : ∀ x, foldedSetIterable i X.env x = pure x) : PS X (.For tgE i body [] pos) (tS G W fun S => (it S).toF fun xu S1 => unlockF xu.2 (forF tg f xu.1 S1)) :=
  PS_imp (ps_for hp hc hi hg hb hs) fun D σ H ⟨Av, S, st, h⟩ => by
    refine ⟨Av, S, st, ?_⟩
    have h : RdS G W ((it S).toF fun xu S1 => unlockF xu.2 (forF tg f xu.1 S1)) Av S σ H D := h
    cases ei : it S with
    | bad => rw [ei] at h; exact h
    | exc x S1 => rw [ei] at h; exact fun c d H' q => h c d σ H' q.s
    | ok xu S1 =>
      rw [ei] at h
      have h : RdS G W (unlockF xu.2 (forF tg f xu.1 S1)) Av S σ H D := h
      intro Av1 H1 J Stay P1 wk stay hu
      have h1 : RdS G W (forF tg f xu.1 S1) Av1 S1 σ H1 D := RdS.unl st h P1.s fun k e => let ⟨a, d, b⟩ := hu k e; ⟨a, d, b, rfl⟩
      refine ⟨fun k m σ H => m = xu.1.length - k ∧ k ≤ xu.1.length ∧ ∃ Av S, StOk G Av S σ H ∧ Stay Av S σ H ∧ RdS G W (forF tg f (xu.1.drop k) S) Av S σ H D, ⟨xu.1.length, by omega, Nat.zero_le _, Av1, S1, P1.st, stay, h1⟩, ?_⟩
      rintro k m σ H ⟨rfl, hk, Av, S, st, stay, h⟩
      by_cases hlt : k < xu.1.length
      · obtain ⟨d, hd⟩ : ∃ d, xu.1[k]? = some d := ⟨xu.1[k]'(by omega), List.getElem?_eq_getElem _⟩
        have hdrop : xu.1.drop k = d :: xu.1.drop (k + 1) := by
          rw [List.drop_eq_getElem_cons (by omega)]
          congr 1
          exact (List.getElem?_eq_some_iff.mp hd).2
        rw [hdrop] at h
        have h : RdS G W (match Eng.assign tg d S with
          | none => .bad
          | some S1 => match f S1 with
            | .nx S2 => forF tg f (xu.1.drop (k + 1)) S2
            | .ct S2 => forF tg f (xu.1.drop (k + 1)) S2
            | .bk S2 => .nx S2
            | r => r) Av S σ H D := h
        refine .inr ⟨wk.go _ _ _ _ k stay hlt, fun σ H => ∃ Av S, StOk G Av S σ H ∧ Stay Av S σ H ∧ RdS G W (forF tg f (xu.1.drop (k + 1)) S) Av S σ H D, fun σ' H' w => ⟨_, by omega, rfl, by omega, w⟩, fun x H' y => ?_⟩
        obtain ⟨eH, rx⟩ := wk.yld _ _ _ _ k x H' d stay y hd
        have PH : Post G Av S σ H Av S H' := Post.ext st eH (fun a q => .inl q) (fun a q => let ⟨o, w⟩ := st.dom a q; ⟨o, eH a o w⟩) fun a q => q
        have stay' := wk.keep _ _ _ _ _ _ _ _ st PH.s stay
        have h := h.trans st PH.s
        cases ea : Eng.assign tg d S with
        | none => rw [ea] at h; exact h.elim
        | some S2 =>
          rw [ea] at h
          refine ⟨Av, S, d, S2, PH.st, rx, ea, fun σ2 Ps on os => ?_⟩
          have h := h.trans PH.st Ps
          have stay2 := wk.keep _ _ _ _ _ _ _ _ PH.st Ps stay'
          refine ⟨Av, S2, Ps.st, ?_⟩
          cases e : f S2 with
          | nx S3 => simp only [e] at h; exact fun Av2 σ2 H2 Q => ⟨Av2, S3, Q.st, wk.keep _ _ _ _ _ _ _ _ Ps.st Q stay2, h.trans Ps.st Q⟩
          | ct S3 => simp only [e] at h; exact fun Av2 σ2 H2 Q => ⟨Av2, S3, Q.st, wk.keep _ _ _ _ _ _ _ _ Ps.st Q stay2, h.trans Ps.st Q⟩
          | bk S3 => simp only [e] at h; exact h
          | rt fr d S3 => simp only [e] at h; exact h
          | exc x S3 => simp only [e] at h; exact h
          | bad => simp only [e] at h; exact h
      · have e : k = xu.1.length := by omega
        subst e
        refine .inl ⟨wk.stop _ _ _ _ _ stay (Nat.le_refl _), ?_⟩
        rw [List.drop_eq_nil_of_le (Nat.le_refl _)] at h
        exact h Av σ H (SPost.refl st)
end
end Eng

namespace Eng
open PySem PySem.Spec L2
open PyProof.Rows hiding St
section
variable {X : Cx} {G : Gs} {W : WX} {a b c e : Expr} {es : List Expr} {pos p2 pp : Pos} {p q o : KE} {x : Str}

/-! ### methods that change a list -/
def MM.nm : MM → String
  | .append => "append" | .pop => "pop" | .popAt => "pop" | .insert => "insert" | .extend => "extend" | .reverse => "reverse" | .update => "update" | .setdefault => "setdefault" | .remove => "remove" | .dpop => "pop"
def rMm (G : Gs) (f : Eng.D → List Eng.D → Option (Eng.D × Eng.D)) : V → List V → Hp → VK → Prop := fun x xs H Q => ∃ (Av : Addr → Prop) (d : Eng.D) (ds : List Eng.D) (y d' : Eng.D) (r : Addr), x = .ref r ∧ Av r ∧ Vw G Av H d x ∧ Reps G Av H ds xs ∧ f d ds = some (y, d') ∧
  ∀ v o, Rep G Av H y v → Vw G Av (upd H r o) d' (.ref r) → MutD d' = true → Q v (upd H r o)
theorem o_append : MtR X "list.append" (rMm G (mmD .append)) := by
  rintro pins s σ H x xs v us Q I rx rv ⟨Av, d, ds, y, d', r, rfl, hr, hd, hds, e, k⟩
  refine mt_append pins s σ H _ xs v us Q I rx rv ?_
  cases d with
  | lst zs =>
    cases ds with
    | nil => cases e
    | cons w ws =>
      cases ws with
      | cons _ _ => cases e
      | nil =>
        have e : (if zs.length < sizeLine then some (Eng.D.non, Eng.D.lst (zs ++ [w])) else none) = some (y, d') := e
        split at e
        · rename_i hz
          cases e
          obtain ⟨r', vs, e1, h1, h2⟩ := hd
          cases e1
          obtain ⟨u, _, rfl, hu, rfl⟩ := hds
          exact ⟨r, vs, u, rfl, rfl, h1, by rw [h2.length]; exact hz, k .non _ rfl ⟨r, _, rfl, upd_same, (h2.snoc hu).touch hr⟩ rfl⟩
        · cases e
  | _ => cases e
theorem o_pop : MtR X "list.pop" (rMm G (mmD .pop)) := by
  rintro pins s σ H x xs v us Q I rx rv ⟨Av, d, ds, y, d', r, rfl, hr, hd, hds, e, k⟩
  refine mt_pop pins s σ H _ xs v us Q I rx rv ?_
  cases d with
  | lst zs =>
    cases ds with
    | cons w ws => cases e
    | nil =>
      have e : (zs[zs.length - 1]?).map (fun y => (y, Eng.D.lst zs.dropLast)) = some (y, d') := e
      obtain ⟨z, e1, e2⟩ := Option.map_eq_some_iff.mp e
      cases e2
      obtain ⟨r', vs, e3, h1, h2⟩ := hd
      cases e3
      obtain ⟨u, g1, g2⟩ := h2.get' e1
      refine ⟨r, vs, u, rfl, hds, h1, by rw [h2.length]; exact g1, k u _ g2 ⟨r, _, rfl, upd_same, ?_⟩ rfl⟩
      have := h2.take (zs.length - 1)
      rw [List.dropLast_eq_take, List.dropLast_eq_take, h2.length]
      exact this.touch hr
  | _ => cases e
theorem o_popAt : MtR X "list.pop" (rMm G (mmD .popAt)) := by
  rintro pins s σ H x xs v us Q I rx rv ⟨Av, d, ds, y, d', r, rfl, hr, hd, hds, e, k⟩
  refine mt_popAt pins s σ H _ xs v us Q I rx rv ?_
  cases d with
  | lst zs =>
    cases ds with
    | nil => cases e
    | cons w ws =>
      cases w with
      | int i =>
        cases ws with
        | cons _ _ => cases e
        | nil =>
          have e : (if decide (-(2 ^ 63) ≤ i) && decide (i < 2 ^ 63) then (seqIndex? i zs.length).bind fun k => (zs[k]?).map fun y => (y, Eng.D.lst (zs.eraseIdx k)) else none) = some (y, d') := e
          split at e
          · rename_i hz
            simp only [decide_eq_true_eq, Bool.and_eq_true] at hz
            obtain ⟨j, e1, e⟩ := Option.bind_eq_some_iff.mp e
            obtain ⟨z, e2, e3⟩ := Option.map_eq_some_iff.mp e
            cases e3
            obtain ⟨r', vs, e4, h1, h2⟩ := hd
            cases e4
            obtain ⟨u, _, rfl, hu, rfl⟩ := hds
            cases (show u = .int i from hu)
            obtain ⟨u, g1, g2⟩ := h2.get' e2
            exact ⟨r, vs, i, j, u, rfl, rfl, h1, hz.1, hz.2, by rw [h2.length]; exact e1, g1, k u _ g2 ⟨r, _, rfl, upd_same, (h2.eraseIdx j).touch hr⟩ rfl⟩
          · cases e
      | _ => cases e
  | _ => cases e
theorem o_reverse : MtR X "list.reverse" (rMm G (mmD .reverse)) := by
  rintro pins s σ H x xs v us Q I rx rv ⟨Av, d, ds, y, d', r, rfl, hr, hd, hds, e, k⟩
  refine mt_reverse pins s σ H _ xs v us Q I rx rv ?_
  cases d with
  | lst zs =>
    cases ds with
    | cons w ws => cases e
    | nil =>
      cases e
      obtain ⟨r', vs, e3, h1, h2⟩ := hd
      cases e3
      exact ⟨r, vs, rfl, hds, h1, k .non _ rfl ⟨r, _, rfl, upd_same, h2.reverse.touch hr⟩ rfl⟩
  | _ => cases e
theorem o_extend : MtR X "list.extend" (rMm G (mmD .extend)) := by
  rintro pins s σ H x xs v us Q I rx rv ⟨Av, d, ds, y, d', r, rfl, hr, hd, hds, e, k⟩
  refine mt_extend pins s σ H _ xs v us Q I rx rv ?_
  cases d with
  | lst zs =>
    cases ds with
    | nil => cases e
    | cons w ws =>
      cases w with
      | lst ys =>
        cases ws with
        | cons _ _ => cases e
        | nil =>
          have e : (if zs.length + ys.length ≤ sizeLine then some (Eng.D.non, Eng.D.lst (zs ++ ys)) else none) = some (y, d') := e
          split at e
          · rename_i hz
            cases e
            obtain ⟨r', vs, e1, h1, h2⟩ := hd
            cases e1
            obtain ⟨u, _, rfl, ⟨b, ws, rfl, nb, g1, g2⟩, rfl⟩ := hds
            exact ⟨r, b, vs, ws, rfl, rfl, h1, g1, by rw [h2.length, g2.length]; exact hz, k .non _ rfl ⟨r, _, rfl, upd_same, (h2.append g2).touch hr⟩ rfl⟩
          · cases e
      | _ => cases e
  | _ => cases e
theorem tri_mm {K : PySem.W.Frag} {f : Eng.D → List Eng.D → Option (Eng.D × Eng.D)} {i : Nat} {g : SS → R (List Eng.D)} {σ : St} {H : Hp} {Q : VK} (h : tE G W (kMm isSeqL f i g) σ H Q) :
    ∃ v, σ[i]? = some (some v) ∧ tyV K "list" v H ∧ tL G W (ErD G) g σ H fun vs H1 => rMm G f v vs H1 Q := by
  obtain ⟨Av, S, st, h⟩ := h
  unfold kMm at h
  split at h
  · rename_i d0 e0
    split at h
    · rename_i hm
      obtain ⟨v, h1, h2, _⟩ := st.view (show dAt S i = some d0 from e0)
      refine ⟨v, h1, ?_, Av, S, st, ?_⟩
      · cases d0 with
        | lst zs =>
          obtain ⟨a, vs, rfl, h3, _⟩ := h2
          exact .inl ⟨rfl, _, SqL.of h3⟩
        | _ => cases hm
      · cases e : g S with
        | bad => rw [e] at h; exact h
        | exc x S1 => rw [e] at h; exact h
        | ok ds S1 =>
          rw [e] at h
          intro Av1 vs H1 P1 r1
          have h := h.trans P1
          simp only [R.bind] at h
          split at h
          · rename_i d e1
            split at h
            · rename_i y d' e2
              split at h
              · rename_i S2 e3
                obtain ⟨sv, hsv, hmu⟩ := Option.bind_eq_some_iff.mp e1
                obtain ⟨r, k1, k2, k3, k4⟩ := P1.st.ow i sv d hsv (sv.mu_rt hmu)
                rw [show σ[i]? = some (some (.ref r)) from k1] at h1
                cases h1
                refine ⟨Av1, d, ds, y, d', r, rfl, k2, k3, r1.reps, e2, fun v o ry hv hm' => ?_⟩
                exact h v _ ⟨Av1, Post.mutate P1.st e3 k1 hv hm', ry.touch k2⟩
              · exact h.elim
            · exact h.elim
          · exact h.elim
    · exact h.elim
  · exact h.elim
def MM.id : MM → String
  | .append => "list.append" | .pop => "list.pop" | .popAt => "list.pop" | .insert => "list.insert" | .extend => "list.extend" | .reverse => "list.reverse" | .update => "dict.update" | .setdefault => "dict.setdefault" | .remove => "list.remove" | .dpop => "dict.pop"
def MM.ok : MM → Bool
  | .append => true | .pop => true | .popAt => true | .extend => true | .reverse => true
  | _ => false
theorem o_mm {m : MM} (h : m.ok = true) : MtR X m.id (rMm G (mmD m)) := by
  cases m with
  | append => exact o_append
  | pop => exact o_pop
  | popAt => exact o_popAt
  | extend => exact o_extend
  | reverse => exact o_reverse
  | _ => cases h
theorem mm_slot {m : MM} (h : m.ok = true) : PySem.Slot "list" (Str.ofString m.nm) m.id ∧ typeOf (.builtin m.id) = pure (.type "method_descriptor") := by
  cases m with
  | append => exact ⟨PySem.F.slot_list_append, PySem.F.type_list_append⟩
  | pop => exact ⟨PySem.F.slot_list_pop, PySem.F.type_list_pop⟩
  | popAt => exact ⟨PySem.F.slot_list_pop, PySem.F.type_list_pop⟩
  | extend => exact ⟨PySem.F.slot_list_extend, PySem.F.type_list_extend⟩
  | reverse => exact ⟨PySem.F.slot_list_reverse, PySem.F.type_list_reverse⟩
  | _ => cases h
/-- x.m(..) -/
theorem s_mm0 {m : MM} {i : Nat} {g : SS → R (List Eng.D)} {apos cpos : Pos} (hok : m.ok = true) (hN : X.N[i]? = some x) (hv : Vis X.env.scope x) (hd : (x == ("__debug__" : Str)) = false) (hcd : (x == ("__classdict__" : Str)) = false) (hl : (apos.endLine == cpos.line) = true)
    (hb : attributeBase (.Name x pp) (Str.ofString m.nm) X.env (eval (.Name x pp) X.env) = eval (.Name x pp) X.env) (hg : g = kNil) :
    PE X (.Call (.Attribute (.Name x pp) (Str.ofString m.nm) apos) [] [] cpos) (tE G W (kMm isSeqL (mmD m) i g)) := by
  subst hg
  refine PE_imp (pe_bm0 PySem.F.plainAttrs_list (mm_slot hok).1 (mm_slot hok).2 (o_mm (G := G) hok) (pe_var hN hv hd hcd) hb hl) fun σ H Q h => ?_
  obtain ⟨v, h1, h2, Av, S, st, h3⟩ := tri_mm (K := X.K) h
  exact ⟨v, h1, h2, h3 Av [] H (Post.refl st) rfl⟩
theorem s_mm {m : MM} {i : Nat} {g : SS → R (List Eng.D)} {apos cpos : Pos} (hok : m.ok = true) (hN : X.N[i]? = some x) (hv : Vis X.env.scope x) (hd : (x == ("__debug__" : Str)) = false) (hcd : (x == ("__classdict__" : Str)) = false) (hl : (apos.endLine == cpos.line) = true)
    (hb : attributeBase (.Name x pp) (Str.ofString m.nm) X.env (eval (.Name x pp) X.env) = eval (.Name x pp) X.env) (ha : PA X (e :: es) (tL G W (ErD G) g))
    (hfew : ((backTo cpos (starEach (e :: es) X.env)).all (fun x => !x.1) && (backToKw cpos (keywordEach [] X.env)).all (fun x => x.1.isSome)
      && decide ((e :: es).length + ([] : List Keyword).length + (if ([] : List Keyword).isEmpty then 0 else 1) < 30)) = true)
    (hs : starEach (e :: es) X.env = (false, eval e X.env) :: starEach es X.env) (hpl : (backTo cpos (starEach es X.env)).any (·.1) = false) :
    PE X (.Call (.Attribute (.Name x pp) (Str.ofString m.nm) apos) (e :: es) [] cpos) (tE G W (kMm isSeqL (mmD m) i g)) :=
  PE_imp (pe_bm PySem.F.plainAttrs_list (mm_slot hok).1 (mm_slot hok).2 (o_mm (G := G) hok) (pe_var hN hv hd hcd) ha hb hfew hl hs hpl) fun σ H Q h => tri_mm (K := X.K) h

/-! ### isinstance -/
def Ty.ok : Ty → Bool
  | .cls _ _ => false
  | _ => true
theorem isT_kit {K : PySem.W.Frag} {d : Eng.D} {t : Ty} {r : Bool} (h : isT d t = some r) (ht : t.ok = true) : ∃ n, tyD d = some n ∧ PySem.W.kitOne K (.type n) (.type t.nm) = some r := by
  cases d with
  | scr _ => cases h
  | obj _ _ _ => cases h
  | _ =>
    refine ⟨_, rfl, kit_ty ?_⟩
    cases t with
    | cls _ _ => cases ht
    | _ => cases h; decide +kernel
theorem vx_ty {K : PySem.W.Frag} {Av : Addr → Prop} {H : Hp} {d : Eng.D} {v : V} {n : String} (h : Vx G Av H d v) (e : tyD d = some n) : TyX K H v (.type n) := by
  refine .base ?_
  cases d with
  | non => cases e; cases (show v = .non from h.1); exact .non
  | bl b => cases e; cases (show v = .bl b from h.1); exact .bl b
  | int b => cases e; cases (show v = .int b from h.1); exact .int b
  | str b => cases e; cases (show v = .str b from h.1); exact .str b
  | lst ds => cases e; obtain ⟨a, vs, rfl, h1, _⟩ := h.1; exact .lst h1
  | tup ds => cases e; obtain ⟨a, vs, rfl, h1, _⟩ := h.1; exact .tup h1
  | dic ks ds =>
    cases e
    obtain ⟨a, vs, rfl, h1, _⟩ := h.1
    rcases h1 with ⟨kk, _, _, h3⟩ | ⟨kk, _, _, h3⟩
    · exact .dK h3
    · exact .dT h3
  | obj _ _ _ => cases e
  | scr _ => cases e
theorem Ty.boot {t : Ty} (h : t.ok = true) : bootBuiltins (Str.ofString t.nm) = some (.type t.nm) ∧ Str.ofString t.nm ≠ "__name__" ∧ (Str.ofString t.nm == ("__debug__" : Str)) = false := by
  cases t with
  | cls _ _ => cases h
  | _ => refine ⟨?_, ?_, ?_⟩ <;> decide +kernel
theorem s_tyName {t : Ty} {pt : Pos} (h : t.ok = true) (hg : Gl X (Str.ofString t.nm)) (hm : X.mg (Str.ofString t.nm) = none) : PE X (.Name (Str.ofString t.nm) pt) (tC (.ty t.nm)) :=
  pe_bltn hg hm (Ty.boot h).1 (show RelV (.ty t.nm) (.type t.nm) from rfl) (Ty.boot h).2.1 (Ty.boot h).2.2
theorem s_isi1 {t : Ty} {pn pt : Pos} (ht : t.ok = true) (hg : Gl X "isinstance") (hm : X.mg "isinstance" = none) (hgt : Gl X (Str.ofString t.nm)) (hmt : X.mg (Str.ofString t.nm) = none) (ha : PE X a (tE G W p))
    (hs1 : starEach [a, .Name (Str.ofString t.nm) pt] X.env = (false, eval a X.env) :: starEach [.Name (Str.ofString t.nm) pt] X.env) (hpl : (backTo pos (starEach [.Name (Str.ofString t.nm) pt] X.env)).any (·.1) = false) :
    PE X (.Call (.Name "isinstance" pn) [a, .Name (Str.ofString t.nm) pt] [] pos) (tE G W (kUn (isTs [t]) p)) :=
  PE_imp (pe_callB call_isi hg hm (by decide +kernel) (pa_cons ha (pa_cons (s_tyName ht hgt hmt) pa_nil rfl) hs1) (by decide +kernel) (by decide +kernel) hs1 hpl) fun σ H Q ⟨Av, S, st, h⟩ =>
    tE_bind st h fun r S1 v H1 P1 h1 => by
      obtain ⟨Av1, P1, v1⟩ := P1.vok st
      obtain ⟨ro, e, h1⟩ := prim_some (h1.trans P1)
      obtain ⟨d, e1, e⟩ := Option.bind_eq_some_iff.mp e
      have vd := v1.vx P1.st e1
      have e : (match isT d t with | some true => some (bo true) | some false => isTs [] d | none => none) = some ro := e
      cases ei : isT d t with
      | none => rw [ei] at e; cases e
      | some r =>
        obtain ⟨n, e2, e3⟩ := isT_kit (K := X.K) ei ht
        have er : ro = bo r := by rw [ei] at e; cases r <;> (cases e; rfl)
        subst er
        exact ⟨v, .ty t.nm, _, _, r, rfl, .ty _, vx_ty vd e2, e3, h1 (.bl r) H1 ⟨Av1, Post.refl P1.st, (rfl : V.bl r = V.bl r)⟩⟩
end
end Eng

namespace Eng
open PySem PySem.Spec L2
open PyProof.Rows hiding St

/-! ### what a def promises -/
section
variable (G : Gs) (Av : Addr → Prop) (H : Hp)
def Args : List Bool → List D → List V → Prop
  | [], [], vs => vs = []
  | m :: ms, d :: ds, vs => ∃ v r, vs = v :: r ∧ (if m then (∃ p, v = .ref p ∧ Av p) ∧ Vw G Av H d v ∧ MutD d = true else Rep G Av H d v) ∧ Args ms ds r
  | _, _, _ => False
def Outs : List Bool → List V → List D → Prop
  | [], _, ds => ds = []
  | true :: ms, vs, ds => ∃ v vr d r, vs = v :: vr ∧ ds = d :: r ∧ Vw G Av H d v ∧ MutD d = true ∧ Outs ms vr r
  | false :: ms, vs, ds => ∃ v vr, vs = v :: vr ∧ Outs ms vr ds
end
def IoDis (ms : List Bool) (vs : List V) : Prop := ∀ (i j : Nat) (v : V), ms[i]? = some true → ms[j]? = some true → vs[i]? = some v → vs[j]? = some v → i = j
def IoAt (ms : List Bool) (vs : List V) (a : Addr) : Prop := ∃ i : Nat, ms[i]? = some true ∧ vs[i]? = some (.ref a)
structure CPost (G : Gs) (Av : Addr → Prop) (ms : List Bool) (vs : List V) (H : Hp) (Av' : Addr → Prop) (H' : Hp) (outs : List D) : Prop where
  frame : ∀ a o, H a = some o → ¬ IoAt ms vs a → H' a = some o
  stay : ∀ a o, H a = some o → ∃ o', H' a = some o'
  sub : ∀ a, Av' a → Av a ∨ H a = none
  held : ∀ a, Av a → Av' a
  dom : ∀ a, Av' a → ∃ o, H' a = some o
  outs : Outs G Av' H' ms vs outs
def RvC (G : Gs) (Av' : Addr → Prop) (H H' : Hp) (fr : Bool) (d : D) (v : V) : Prop :=
  if fr then ∃ p, v = .ref p ∧ Av' p ∧ H p = none ∧ Vw G Av' H' d v ∧ MutD d = true else Rep G Av' H' d v
def XcOk (G : Gs) (Av' : Addr → Prop) (H' : Hp) (e : D) (cls : Value) (dx : Option Addr) : Prop :=
  ∃ c ns ds, e = .obj c ns ds ∧ cls = .ref (G.c c) ∧ ∃ a vs, dx = some a ∧ ¬ Av' a ∧ H' a = some (.xd (ns.zip vs)) ∧ ns.length = vs.length ∧ Reps G Av' H' ds vs
def spG (G : Gs) (sg : FSig) : Sp := fun vs H Q E => ∃ Av ds, (∀ a, Av a → ∃ o, H a = some o) ∧ Args G Av H sg.md ds vs ∧ IoDis sg.md vs ∧ match sg.m ds with
  | .ok fr d outs => ∀ Av' v H', CPost G Av sg.md vs H Av' H' outs → RvC G Av' H H' fr d v → Q v H'
  | .exc e outs => ∀ Av' cls dx H', CPost G Av sg.md vs H Av' H' outs → XcOk G Av' H' e cls dx → E cls dx H'
  | .bad => False

/-! ### the callee -/
def initS : List Bool → List D → SS
  | m :: ms, d :: ds => (if m then .io d else .sh d) :: initS ms ds
  | _, _ => []
def slotsOf (n : Nat) (ms : List Bool) (ds : List D) : SS := initS ms ds ++ List.replicate (n - ds.length) .no
def outsS : List Bool → SS → Option (List D)
  | [], _ => some []
  | true :: ms, .io d :: S => (outsS ms S).map fun r => d :: r
  | false :: ms, _ :: S => outsS ms S
  | _, _ => none
def runS (n : Nat) (ms : List Bool) (b : SS → F) (ds : List D) : FO := if ms.length = ds.length then (match b (slotsOf n ms ds) with
    | .nx S => (match outsS ms S with
      | some o => .ok false .non o
      | none => .bad)
    | .rt fr d S => (match outsS ms S with
      | some o => .ok fr d o
      | none => .bad)
    | .exc e S => (match outsS ms S with
      | some o => .exc e o
      | none => .bad)
    | _ => .bad) else .bad
section
variable {G : Gs} {Av Av' : Addr → Prop} {H H' : Hp}
theorem Args.len : ∀ {ms : List Bool} {ds : List D} {vs : List V}, Args G Av H ms ds vs → vs.length = ms.length ∧ ds.length = ms.length
  | [], [], vs, h => by cases (show vs = [] from h); exact ⟨rfl, rfl⟩
  | m :: ms, d :: ds, vs, ⟨v, r, e, _, h⟩ => by
    obtain ⟨h1, h2⟩ := Args.len h
    subst e
    exact ⟨by simp [h1], by simp [h2]⟩
  | [], _ :: _, _, h => h.elim
  | _ :: _, [], _, h => h.elim
theorem Args.get : ∀ {ms : List Bool} {ds : List D} {vs : List V} {i : Nat} {s : SV}, Args G Av H ms ds vs → (initS ms ds)[i]? = some s →
    ∃ v, vs[i]? = some v ∧ ((∃ d p, s = .io d ∧ ms[i]? = some true ∧ v = .ref p ∧ Av p ∧ Vw G Av H d v ∧ MutD d = true) ∨ ∃ d, s = .sh d ∧ Rep G Av H d v)
  | [], [], vs, i, s, h, e => by simp [initS] at e
  | m :: ms, d :: ds, vs, 0, s, ⟨v, r, e1, h1, h2⟩, e => by
    subst e1
    have e : some (if m then SV.io d else .sh d) = some s := e
    cases e
    refine ⟨v, rfl, ?_⟩
    cases m with
    | true =>
      obtain ⟨⟨p, q1, q2⟩, q3, q4⟩ := (if_pos rfl : (if true = true then _ else _) = _) ▸ h1
      exact .inl ⟨d, p, rfl, rfl, q1, q2, q3, q4⟩
    | false => exact .inr ⟨d, rfl, h1⟩
  | m :: ms, d :: ds, vs, i + 1, s, ⟨v, r, e1, h1, h2⟩, e => by
    subst e1
    exact Args.get (ms := ms) h2 (show (initS ms ds)[i]? = some s from e)
  | [], _ :: _, _, _, _, h, _ => h.elim
  | _ :: _, [], _, _, _, h, _ => h.elim
theorem Args.io : ∀ {ms : List Bool} {ds : List D} {vs : List V} {i : Nat}, Args G Av H ms ds vs → ms[i]? = some true → ∃ d, (initS ms ds)[i]? = some (.io d)
  | [], _, _, _, _, e => by simp at e
  | m :: ms, d :: ds, vs, 0, _, e => by
    have e : some m = some true := e
    cases e
    exact ⟨d, rfl⟩
  | m :: ms, d :: ds, vs, i + 1, ⟨v, r, e1, h1, h2⟩, e => Args.io (ms := ms) h2 (show ms[i]? = some true from e)
  | _ :: _, [], _, _, h, _ => h.elim
theorem initS_len : ∀ {ms : List Bool} {ds : List D}, ms.length = ds.length → (initS ms ds).length = ds.length
  | [], [], _ => rfl
  | m :: ms, d :: ds, h => by
    have h : ms.length = ds.length := by simpa using h
    show (initS ms ds).length + 1 = ds.length + 1
    rw [initS_len h]
  | [], _ :: _, h => by cases h
  | _ :: _, [], h => by cases h
theorem slots_get {n : Nat} {ms : List Bool} {ds : List D} {i : Nat} {s : SV} (hl : ms.length = ds.length) (e : (slotsOf n ms ds)[i]? = some s) : (initS ms ds)[i]? = some s ∨ s = .no := by
  unfold slotsOf at e
  by_cases hi : i < (initS ms ds).length
  · rw [List.getElem?_append_left hi] at e; exact .inl e
  · rw [List.getElem?_append_right (by omega), List.getElem?_replicate] at e
    split at e <;> cases e
    exact .inr rfl
theorem slots_io {n : Nat} {ms : List Bool} {ds : List D} {i : Nat} {s : SV} (e : (initS ms ds)[i]? = some s) : (slotsOf n ms ds)[i]? = some s := by
  unfold slotsOf
  rw [List.getElem?_append_left (List.getElem?_eq_some_iff.mp e).1]; exact e
theorem start_get {n : Nat} {vs : List V} {i : Nat} {v : V} (e : vs[i]? = some v) : (vs.map some ++ List.replicate n none)[i]? = some (some v) := by
  have hi := (List.getElem?_eq_some_iff.mp e).1
  rw [List.getElem?_append_left (by simpa using hi), List.getElem?_map, e]; rfl
theorem start_ok {N : List Str} {ms : List Bool} {ds : List D} {vs : List V} (dm : ∀ a, Av a → ∃ o, H a = some o) (ha : Args G Av H ms ds vs) (hd : IoDis ms vs) (hn : vs.length ≤ N.length) : StOk G Av (slotsOf N.length ms ds) (L2.start N vs) H := by
  obtain ⟨l1, l2⟩ := ha.len
  have hol : ∀ {i}, Holds (slotsOf N.length ms ds) i → ms[i]? = some true ∧ ∃ v, vs[i]? = some v := fun {i} ⟨s, d, q, r⟩ => by
    rcases slots_get l2.symm q with q | rfl
    · obtain ⟨v, h1, ⟨d', p, rfl, h2, _⟩ | ⟨d', rfl, _⟩⟩ := ha.get q
      · exact ⟨h2, v, h1⟩
      · cases r
    · cases r
  refine ⟨?_, dm, fun i d q => ?_, fun i s d q r => ?_, fun i j p h1 h2 a1 a2 => ?_⟩
  · unfold slotsOf L2.start
    rw [List.length_append, List.length_append, List.length_map, List.length_replicate, List.length_replicate, initS_len l2.symm]
    omega
  · rcases slots_get l2.symm q with q | z
    · obtain ⟨v, h1, ⟨d', p, z, _⟩ | ⟨d', z, h2⟩⟩ := ha.get q
      · cases z
      · cases z; exact ⟨v, start_get h1, h2⟩
    · cases z
  · rcases slots_get l2.symm q with q | rfl
    · obtain ⟨v, h1, ⟨d', p, rfl, h2, rfl, h3, h4, h5⟩ | ⟨d', rfl, _⟩⟩ := ha.get q
      · cases r
        exact ⟨p, start_get h1, h3, h4, h5⟩
      · cases r
    · cases r
  · obtain ⟨m1, v, e1⟩ := hol h1
    obtain ⟨m2, w, e2⟩ := hol h2
    have f1 : At (L2.start N vs) i p := a1
    have g1 := start_get (n := N.length - vs.length) e1
    have g2 := start_get (n := N.length - vs.length) e2
    rw [show (vs.map some ++ List.replicate (N.length - vs.length) none)[i]? = some (some (.ref p)) from a1] at g1
    rw [show (vs.map some ++ List.replicate (N.length - vs.length) none)[j]? = some (some (.ref p)) from a2] at g2
    cases g1; cases g2
    exact hd i j _ m1 m2 e1 e2
theorem outs_of : ∀ {ms : List Bool} {vs : List V} {S : SS} {outs : List D}, vs.length = ms.length → outsS ms S = some outs → (∀ (i : Nat) (d : D), ms[i]? = some true → S[i]? = some (.io d) → ∃ v, vs[i]? = some v ∧ Vw G Av' H' d v ∧ MutD d = true) → Outs G Av' H' ms vs outs
  | [], vs, S, outs, _, e, _ => by cases e; exact rfl
  | true :: ms, [], _, _, l, _, _ => by cases l
  | false :: ms, [], _, _, l, _, _ => by cases l
  | true :: ms, v :: vs, [], outs, l, e, _ => by cases e
  | true :: ms, v :: vs, s :: S, outs, l, e, h => by
    cases s with
    | io d =>
      obtain ⟨r, e1, rfl⟩ := Option.map_eq_some_iff.mp (show (outsS ms S).map (fun r => d :: r) = some outs from e)
      obtain ⟨v', h1, h2, h3⟩ := h 0 d rfl rfl
      have h1 : some v = some v' := h1
      cases h1
      exact ⟨v, vs, d, r, rfl, rfl, h2, h3, outs_of (by simpa using l) e1 fun i d a b => h (i + 1) d a b⟩
    | _ => cases e
  | false :: ms, v :: vs, [], outs, l, e, _ => by cases e
  | false :: ms, v :: vs, s :: S, outs, l, e, h => ⟨v, vs, rfl, outs_of (by simpa using l) (show outsS ms S = some outs from e) fun i d a b => h (i + 1) d a b⟩
theorem callee_post {N : List Str} {ms : List Bool} {ds : List D} {vs : List V} {S' : SS} {σ' : St} {outs : List D} (ha : Args G Av H ms ds vs) (P : SPost G Av (slotsOf N.length ms ds) (L2.start N vs) H Av' S' σ' H') (e : outsS ms S' = some outs) : CPost G Av ms vs H Av' H' outs := by
  obtain ⟨l1, l2⟩ := ha.len
  have root : ∀ {a}, Root (slotsOf N.length ms ds) (L2.start N vs) a → IoAt ms vs a ∧ ∃ (i : Nat) (d : D), S'[i]? = some (.io d) ∧ At σ' i a := fun {a} ⟨i, ⟨s, d, q, r⟩, hat⟩ => by
    rcases slots_get l2.symm q with q' | rfl
    · obtain ⟨v, h1, ⟨d', p, rfl, h2, rfl, _⟩ | ⟨d', rfl, _⟩⟩ := ha.get q'
      · have g1 := start_get (n := N.length - vs.length) h1
        rw [show (vs.map some ++ List.replicate (N.length - vs.length) none)[i]? = some (some (.ref a)) from hat] at g1
        cases g1
        obtain ⟨⟨d2, h3⟩, h4⟩ := P.ios i d' q
        exact ⟨⟨i, h2, h1⟩, i, d2, h3, by show σ'[i]? = _; rw [h4]; exact hat⟩
      · cases r
    · cases r
  refine ⟨fun a o h n => P.frame a o h fun r => n (root r).1, P.stay, P.sub, fun a h => ?_, P.st.dom, outs_of l1 e fun i d hm q => ?_⟩
  · by_cases r : Root (slotsOf N.length ms ds) (L2.start N vs) a
    · obtain ⟨_, i, d, h1, h2⟩ := root r
      obtain ⟨p, h3, h4, _⟩ := P.st.ow i _ d h1 rfl
      cases h3.inj h2
      exact h4
    · exact P.held a h r
  · obtain ⟨d0, e0⟩ := ha.io hm
    obtain ⟨v, h1, ⟨d', p, z, h2, rfl, _⟩ | ⟨d', z, _⟩⟩ := ha.get e0
    · obtain ⟨_, h4⟩ := P.ios i d0 (slots_io e0)
      obtain ⟨p', h5, h6, h7, h8⟩ := P.st.ow i _ d q rfl
      have g1 := start_get (n := N.length - vs.length) h1
      have h5 : σ'[i]? = some (some (.ref p')) := h5
      rw [h4] at h5
      rw [show (vs.map some ++ List.replicate (N.length - vs.length) none)[i]? = some (some (.ref p')) from h5] at g1
      cases g1
      exact ⟨_, h1, h7, h8⟩
    · cases z
theorem callee_ret {N : List Str} {ms : List Bool} {ds : List D} {vs : List V} {S' : SS} {σ' : St} {fr : Bool} {d : D} {v : V} (ha : Args G Av H ms ds vs) (P : SPost G Av (slotsOf N.length ms ds) (L2.start N vs) H Av' S' σ' H') (r : RtOk G Av (slotsOf N.length ms ds) (L2.start N vs) H Av' S' σ' H' fr d v) : RvC G Av' H H' fr d v := by
  unfold RtOk at r
  unfold RvC
  cases fr with
  | false => exact r
  | true =>
    simp only [if_true] at r ⊢
    obtain ⟨p, h1, h2, h3, h4, h5⟩ := r
    refine ⟨p, h1, h2, ?_, h5⟩
    rcases h3 with ⟨i, ⟨s, d', q, rr⟩, hat⟩ | z
    · rcases slots_get ha.len.2.symm q with q' | rfl
      · obtain ⟨v', k1, ⟨d2, p2, rfl, k2, rfl, _⟩ | ⟨d2, rfl, _⟩⟩ := ha.get q'
        · obtain ⟨⟨d3, k3⟩, k4⟩ := P.ios i d2 q
          exact (h4 i ⟨_, d3, k3, rfl⟩ (by show σ'[i]? = _; rw [k4]; exact hat)).elim
        · cases rr
      · cases rr
    · exact z
end
end Eng

namespace Eng
open PySem PySem.Spec L2
open PyProof.Rows hiding St

/-! ### the rule of a def, where the guards are known -/
structure FnG (P : Program) (w : World) (K : PySem.W.Frag) (mg : Str → Option Value) (base : Heap) (k : Nat) (f : Addr) (fd : FuncData) (ps : List Str) (sp : Sp) : Prop where
  len : ∀ vs H Q E, sp vs H Q E → vs.length = ps.length
  run : ∀ (A : Around) (outer : List Env) (s : Shared) (H : Hp) (args : PySem.Args) (us : List Value) (vs : List V) (Q : VK) (E : XK), A.guards = some [] → Room k A → Env0 P w K mg base A outer s H → BindsTo s fd args (ps.zip us) → Vals vs us → sp vs H Q E →
    codeAny (model P w) A (.call (.ref f) args) (CR (L2.CX P w) outer P w H s Q E) s
theorem FnG.mono {P : Program} {w : World} {K : PySem.W.Frag} {mg : Str → Option Value} {base : Heap} {j k : Nat} {f : Addr} {fd : FuncData} {ps : List Str} {sp : Sp} (F : FnG P w K mg base j f fd ps sp) (h : j ≤ k) : FnG P w K mg base k f fd ps sp :=
  ⟨F.len, fun A outer s H args us vs Q E hgd hr => F.run A outer s H args us vs Q E hgd (hr.mono h)⟩
theorem fnG_of {P : Program} {w : World} {K : PySem.W.Frag} {mg : Str → Option Value} {base : Heap} {k : Nat} {f : Addr} {name qual : Str} {params : Arguments} {body : List Stmt} {scope : Scope} {dV kV doc pm cdv ct oc : Value} {an od : Option Addr}
    {osl : Array (Option Value)} {N ps : List Str} {sp : Sp} (lk : K.lookup f = some ⟨oc, od, .func (PySem.W.fnOf name qual params body scope dV kV doc pm an cdv ct), osl⟩) (hcd : PySem.W.codeIn K cdv qual = true) (S : FnScope N ps scope)
    (len : ∀ vs H Q E, sp vs H Q E → vs.length = ps.length)
    (hbody : ∀ (A : Around) (outer : List Env) (s : Shared) (H : Hp) (vs : List V) (Q : VK) (E : XK), A.guards = some [] → Room k (A.deeper (envOfC qual scope s.heap.objs.size f cdv)) → sp vs H Q E →
      ∃ t, PSs (cxOf (L2.CX P w) P w K mg base N qual scope f cdv A outer s H E) body t ∧ t { nx := fun _ H' => Q .non H', rt := Q } (L2.start N vs) H) :
    FnG P w K mg base (k + 1) f (PySem.W.fnOf name qual params body scope dV kV doc pm an cdv ct) ps sp := by
  refine ⟨len, ?_⟩
  intro A outer s H args us vs Q E guards room env bound rel want
  have there : ∀ {a : Addr} {o : Obj}, base.get? a = some o → s.heap.get? a = some o := fun {a o} e => (env.bs a o e).1
  have kin := env.mod.kin.keeps (fun a o e => there e)
  have byCell : ∀ y ∈ ps.zip us, scope.names.lookup y.1 = some .local ∨
      (scope.names.lookup y.1 = some .cell ∧ ((cellsFrom (s.heap.objs.size + 1) scope.names []).lookup y.1).isSome = true) := by
    rintro ⟨n, v⟩ mem
    exact (S.par n (List.of_mem_zip mem).1).imp id fun cell => ⟨cell, PySem.W.cellsFrom_some _ _ _ (.inl cell)⟩
  apply codeAny_call_function room.depth (kin _ _ lk) rfl S.co S.gen rfl (PySem.W.codeRec_of kin hcd)
  apply bound
  apply wpAny_newFunctionEnv_cells S.kind byCell
  rintro env' rfl s1 inside
  refine ⟨(env.mod.nolimit.keeps (fun a o e => there e)).keeps inside.toInCall.keep, ?_⟩
  apply codeAny_func
  obtain ⟨t, body, post⟩ := hbody A outer s H vs Q E guards (room.deeper _) want
  refine wpAny_mono (body.run [] s1 (L2.start N vs) H _ (inv_start S room.hd env (len _ _ _ _ want) rel inside) post) ?_ (fun _ _ z => z)
  intro flow s' z
  cases flow with
  | ret u => exact let ⟨v, _, H', J, rv, q⟩ := z; ⟨v, H', J.os, J.bare, J.base, J.hok, rv, q⟩
  | next => exact let ⟨_, H', J, q⟩ := z; ⟨V.non, H', J.os, J.bare, J.base, J.hok, rfl, q⟩
  | brk => exact let ⟨_, _, _, q⟩ := z; q.elim
  | cont => exact let ⟨_, _, _, q⟩ := z; q.elim
section
variable {X : Cx} {k : Nat} {f C : Addr} {fd : FuncData} {ps : List Str} {sp : Sp} {E : L2.St → XK} {x m : Str} {p pos apos : Pos} {e o : Expr} {es : List Expr} {ta : TE} {t : TA}
/-- a call's end, where it came from -/
theorem ended {pins : List (Addr × Obj)} {σ : L2.St} {H : Hp} {s : Shared} {Q : VK} (I : Inv X pins σ H s) (hx : ∀ (e : Value) (s' : Shared), Inv X pins σ H s → L2.CX X.prog X.w X.stack H s (E σ) e s' → X.xe e s') :
    ∀ (r : Result) (s' : Shared), CR (L2.CX X.prog X.w) X.stack X.prog X.w H s Q (E σ) r s' → match r with
      | .ok (.ret u) => L2.EP X pins σ Q u s'
      | .ok _ => False
      | .error e => X.xe e s'
  | .error e, s', z => hx e s' I z
  | .ok (.ret u), s', z => I.after z
  | .ok .next, s', z => z
  | .ok .brk, s', z => z
  | .ok .cont, s', z => z
theorem run_G {pins : List (Addr × Obj)} {σ : L2.St} {H : Hp} {s : Shared} {Q : VK} {us : List Value} {vs : List V} (F : FnG X.prog X.w X.K X.mg X.base k f fd ps sp) (hgd : X.A.guards = some []) (hr : Room k X.A) (hb : Binds X.K fd ps []) (hx : PassesAt (L2.CX X.prog X.w) X σ (E σ))
    (I : Inv X pins σ H s) (r : Vals vs us) (h : sp vs H Q (E σ)) : wpAny (model X.prog X.w) X.A (call (.ref f) us) (L2.EP X pins σ Q) X.xe s := by
  have bound : BindsTo s fd ⟨us, []⟩ (ps.zip us) := by
    have count : (us ++ []).length = ps.length := by simp only [List.append_nil]; exact r.length.symm.trans (F.len _ _ _ _ h)
    simpa only [List.append_nil] using hb s us I.kIn count
  exact wpAny_call (codeAny_mono (F.run X.A X.stack s H ⟨us, []⟩ us vs Q (E σ) hgd hr I.env0 bound r h) (ended I (hx pins H s)))
theorem pe_callG (F : FnG X.prog X.w X.K X.mg X.base k f fd ps sp) (hgd : X.A.guards = some []) (hr : Room k X.A) (hg : Gl X x) (hm : X.mg x = some (.ref f)) (hk : PySem.W.keepIn X.K (.ref f) = true) (hb : Binds X.K fd ps []) (hx : ∀ σ, PassesAt (L2.CX X.prog X.w) X σ (E σ))
    (ha : PA X (e :: es) t) (hdb : (x == ("__debug__" : Str)) = false) (he : starEach (e :: es) X.env = (false, eval e X.env) :: starEach es X.env) (hpl : (backTo pos (starEach es X.env)).any (·.1) = false) :
    PE X (.Call (.Name x p) (e :: es) [] pos) (tCallS sp E t) := .mk fun pins s σ H Q inv want =>
  wpAny_Call_Name_kw (ld_glob inv hg hm
    (PySem.W.callWith_K (h₀ := X.base) inv.ok.mod.kin hk (thn (ha.run pos pins s σ H _ inv want) fun _ _ ⟨_, _, inv1, rel, post⟩ => ⟨inv1.kIn, run_G F hgd hr hb (hx σ) inv1 rel post⟩) he hpl) hdb)
theorem pe_callG0 (F : FnG X.prog X.w X.K X.mg X.base k f fd ps sp) (hgd : X.A.guards = some []) (hr : Room k X.A) (hg : Gl X x) (hm : X.mg x = some (.ref f)) (hk : PySem.W.keepIn X.K (.ref f) = true) (hb : Binds X.K fd ps []) (hx : ∀ σ, PassesAt (L2.CX X.prog X.w) X σ (E σ))
    (hdb : (x == ("__debug__" : Str)) = false) : PE X (.Call (.Name x p) [] [] pos) (tCallS sp E tNil) := .mk fun pins s σ H Q inv want =>
  wpAny_Call_Name_kw (ld_glob inv hg hm (PySem.W.callWith_K0 inv.kIn hk (run_G (us := []) F hgd hr hb (hx σ) inv .nil want)) hdb)
end

/-! ### the caller -/
section
variable {G : Gs} {W : WX} {Av Av' : Addr → Prop} {S S' : SS} {σ : L2.St} {H H' : Hp}
def SetR (S S' : SS) (j : Nat) (d : D) : Prop := (∃ d0, S[j]? = some (.ow d0) ∧ S'[j]? = some (.ow d)) ∨ (∃ d0, S[j]? = some (.io d0) ∧ S'[j]? = some (.io d))
theorem setAt_R {S S' : SS} {i : Nat} {d : D} (e : setAt S i d = some S') : SetR S S' i d ∧ S'.length = S.length ∧ ∀ j, j ≠ i → S'[j]? = S[j]? := by
  obtain ⟨s, ⟨h1, h2⟩, ⟨d0, rfl, rfl⟩ | ⟨d0, rfl, rfl⟩⟩ := setAt_get e
  · exact ⟨.inl ⟨d0, h1, set_eq h1⟩, List.length_set, fun j n => set_ne n⟩
  · exact ⟨.inr ⟨d0, h1, set_eq h1⟩, List.length_set, fun j n => set_ne n⟩
theorem setIos_spec : ∀ {is : List Nat} {ds : List D} {S S' : SS}, setIos S is ds = some S' → is.Nodup → S'.length = S.length ∧ ∀ j, (j ∉ is ∧ S'[j]? = S[j]?) ∨ (j ∈ is ∧ ∃ d, (j, d) ∈ is.zip ds ∧ SetR S S' j d)
  | [], [], S, S', e, _ => by cases e; exact ⟨rfl, fun j => .inl ⟨by simp, rfl⟩⟩
  | [], _ :: _, S, S', e, _ => by cases e
  | _ :: _, [], S, S', e, _ => by cases e
  | i :: is, d :: ds, S, S', e, nd => by
    have e : (if MutD d then (setAt S i d).bind fun S' => setIos S' is ds else none) = some S' := e
    split at e
    · obtain ⟨S1, e1, e2⟩ := Option.bind_eq_some_iff.mp e
      obtain ⟨r1, r2, r3⟩ := setAt_R e1
      obtain ⟨ni, nd⟩ := List.nodup_cons.mp nd
      obtain ⟨q1, q2⟩ := setIos_spec e2 nd
      refine ⟨q1.trans r2, fun j => ?_⟩
      by_cases z : j = i
      · subst z
        rcases q2 j with ⟨_, w⟩ | ⟨w, _⟩
        · refine .inr ⟨by simp, d, by simp, ?_⟩
          rcases r1 with ⟨d0, a, b⟩ | ⟨d0, a, b⟩
          · exact .inl ⟨d0, a, w.trans b⟩
          · exact .inr ⟨d0, a, w.trans b⟩
        · exact absurd w ni
      · rcases q2 j with ⟨w, e⟩ | ⟨w, d', h1, h2⟩
        · exact .inl ⟨by simp [z, w], e.trans (r3 j z)⟩
        · refine .inr ⟨by simp [w], d', by simp [h1], ?_⟩
          rcases h2 with ⟨d0, a, b⟩ | ⟨d0, a, b⟩
          · exact .inl ⟨d0, (r3 j z) ▸ a, b⟩
          · exact .inr ⟨d0, (r3 j z) ▸ a, b⟩
    · cases e
theorem ioAt_slot : ∀ {as : List AV} {vs : List V} {a : Addr}, Ers (ErA G) Av S σ H as vs → IoAt (as.map AV.isIo) vs a → ∃ i ∈ avIos as, At σ i a
  | [], vs, a, _, ⟨i, h, _⟩ => by simp at h
  | x :: as, vs, a, ⟨v, r, e, h1, h2⟩, ⟨i, hi, hv⟩ => by
    subst e
    cases i with
    | zero =>
      have hv : some v = some (.ref a) := hv
      cases hv
      cases x with
      | sh d => exact absurd (show some false = some true from hi) (by simp)
      | io j => exact ⟨j, by simp [avIos], h1⟩
    | succ i =>
      obtain ⟨j, h3, h4⟩ := ioAt_slot (as := as) h2 ⟨i, hi, hv⟩
      refine ⟨j, ?_, h4⟩
      cases x with
      | sh d => exact h3
      | io k => exact List.mem_cons_of_mem _ h3
theorem outs_slot : ∀ {as : List AV} {vs : List V} {outs : List D}, Ers (ErA G) Av S σ H as vs → Outs G Av' H' (as.map AV.isIo) vs outs → ∀ i d, (i, d) ∈ (avIos as).zip outs → ∃ v, σ[i]? = some (some v) ∧ Vw G Av' H' d v ∧ MutD d = true
  | [], vs, outs, _, _, i, d, h => by simp [avIos] at h
  | .sh _ :: as, vs, outs, ⟨v, r, e, h1, h2⟩, ⟨v', vr, e', o⟩, i, d, h => by
    rw [e] at e'; cases e'
    exact outs_slot (as := as) h2 o i d h
  | .io j :: as, vs, outs, ⟨v, r, e, h1, h2⟩, ⟨v', vr, d', r', e', eo, hv, hm, o⟩, i, d, h => by
    rw [e] at e'; cases e'
    subst eo
    have h : (i, d) ∈ (j, d') :: (avIos as).zip r' := h
    rcases List.mem_cons.mp h with z | z
    · cases z; exact ⟨_, h1, hv, hm⟩
    · exact outs_slot (as := as) h2 o i d z
theorem CPost.post {as : List AV} {vs : List V} {outs : List D} (st : StOk G Av S σ H) (ea : Ers (ErA G) Av S σ H as vs) (nd : (avIos as).Nodup) (c : CPost G Av (as.map AV.isIo) vs H Av' H' outs) (e : setIos S (avIos as) outs = some S') : Post G Av S σ H Av' S' H' := by
  obtain ⟨l1, sp⟩ := setIos_spec e nd
  have own : ∀ {i}, i ∈ avIos as → Owns S i := fun {i} hi => by
    rcases sp i with ⟨z, _⟩ | ⟨_, d, _, ⟨d0, a, _⟩ | ⟨d0, a, _⟩⟩
    · exact absurd hi z
    · exact ⟨_, d0, a, rfl⟩
    · exact ⟨_, d0, a, rfl⟩
  have root : ∀ {a}, IoAt (as.map AV.isIo) vs a → Root S σ a := fun {a} h => let ⟨i, h1, h2⟩ := ioAt_slot ea h; ⟨i, own h1, h2⟩
  have nav : ∀ {a}, ¬ Av a → ¬ IoAt (as.map AV.isIo) vs a := fun n h => n ((root h).av st)
  have rep : ∀ {d v}, Rep G Av H d v → Rep G Av' H' d v := fun h => h.mono (fun a o q n => c.frame a o q (nav n)) c.sub
  have hol : ∀ {i}, Holds S' i → Holds S i := fun {i} ⟨s, d, q, r⟩ => by
    rcases sp i with ⟨_, z⟩ | ⟨hi, _⟩
    · exact ⟨s, d, z ▸ q, r⟩
    · exact (own hi).holds
  refine ⟨fun a o h n => c.frame a o h fun z => n (root z), c.stay, c.sub, fun a h _ => c.held a h, fun i ⟨s, d, q, r⟩ => ?_, fun i h => hol h, fun i ⟨s, d, q, r⟩ => ?_, fun i d q => ?_, fun i d q => ?_, ⟨l1.trans st.len, c.dom, fun i d q => ?_, fun i s d q r => ?_, fun i j p h1 h2 => st.dis i j p (hol h1) (hol h2)⟩⟩
  · rcases sp i with ⟨_, z⟩ | ⟨hi, _⟩
    · exact ⟨s, d, z ▸ q, r⟩
    · exact own hi
  · rcases sp i with ⟨_, z⟩ | ⟨_, d', _, ⟨d0, _, b⟩ | ⟨d0, _, b⟩⟩
    · exact ⟨s, d, z.trans q, r⟩
    · exact ⟨_, d', b, rfl⟩
    · exact ⟨_, d', b, rfl⟩
  · rcases sp i with ⟨_, z⟩ | ⟨_, d', _, ⟨d0, a, b⟩ | ⟨d0, a, b⟩⟩
    · exact ⟨d, z.trans q⟩
    · rw [q] at a; cases a
    · exact ⟨d', b⟩
  · rcases sp i with ⟨_, z⟩ | ⟨_, d', _, ⟨d0, a, b⟩ | ⟨d0, a, b⟩⟩
    · exact z.trans q
    · rw [q] at a; cases a
    · rw [q] at a; cases a
  · rcases sp i with ⟨_, z⟩ | ⟨_, d', _, ⟨d0, a, b⟩ | ⟨d0, a, b⟩⟩
    · obtain ⟨v, h1, h2⟩ := st.sh i d (z ▸ q)
      exact ⟨v, h1, rep h2⟩
    · rw [q] at b; cases b
    · rw [q] at b; cases b
  · rcases sp i with ⟨ni, z⟩ | ⟨hi, d', hz, hr⟩
    · obtain ⟨p, h1, h2, h3, h4⟩ := st.ow i s d (z ▸ q) r
      have np : ¬ IoAt (as.map AV.isIo) vs p := fun w => by
        obtain ⟨j, hj, aj⟩ := ioAt_slot ea w
        have := st.dis j i p (own hj).holds ⟨s, d, z ▸ q, r⟩ aj h1
        subst this
        exact ni hj
      exact ⟨p, h1, c.held p h2, h3.mono (fun a o q n => c.frame a o q (nav n)) c.sub fun a o e q => by cases e; exact c.frame p o q np, h4⟩
    · obtain ⟨v, h1, h2, h3⟩ := outs_slot ea c.outs i d' hz
      obtain ⟨s0, d0, q0, r0⟩ := own hi
      obtain ⟨p, k1, k2, k3, k4⟩ := st.ow i s0 d0 q0 (s0.mu_rt r0)
      rw [show σ[i]? = some (some (.ref p)) from k1] at h1; cases h1
      have ed : d = d' := by
        rcases hr with ⟨_, _, b⟩ | ⟨_, _, b⟩ <;> (rw [q] at b; cases b; cases r; rfl)
      subst ed
      exact ⟨p, k1, c.held p k2, h2, h3⟩
/-- the arguments, as the callee has them -/
theorem av_args (st : StOk G Av S σ H) : ∀ {as : List AV} {vs : List V} {ds : List D}, Ers (ErA G) Av S σ H as vs → avDs S as = some ds → Args G Av H (as.map AV.isIo) ds vs
  | [], vs, ds, h, e => by cases e; exact h
  | .sh d :: as, vs, ds, ⟨v, r, e1, h1, h2⟩, e => by
    obtain ⟨r', e2, rfl⟩ := Option.map_eq_some_iff.mp (show (avDs S as).map (fun ds => d :: ds) = some ds from e)
    exact ⟨v, r, e1, h1, av_args st h2 e2⟩
  | .io i :: as, vs, ds, ⟨v, r, e1, h1, h2⟩, e => by
    have e : (match (S[i]?).bind SV.mu with
      | some d => (avDs S as).map fun ds => d :: ds
      | _ => none) = some ds := e
    split at e
    · rename_i d hd
      obtain ⟨r', e2, rfl⟩ := Option.map_eq_some_iff.mp e
      obtain ⟨s, q1, q2⟩ := Option.bind_eq_some_iff.mp hd
      obtain ⟨p, k1, k2, k3, k4⟩ := st.ow i s d q1 (s.mu_rt q2)
      have k0 : σ[i]? = some (some (.ref p)) := k1
      rw [show σ[i]? = some (some v) from h1] at k0
      cases k0
      exact ⟨_, r, e1, ⟨⟨p, rfl, k2⟩, k3, k4⟩, av_args st h2 e2⟩
    · cases e
theorem avDs_own : ∀ {as : List AV} {ds : List D}, avDs S as = some ds → ∀ i ∈ avIos as, Owns S i
  | [], ds, e, i, h => by simp [avIos] at h
  | .sh d :: as, ds, e, i, h => by
    obtain ⟨r', e2, rfl⟩ := Option.map_eq_some_iff.mp (show (avDs S as).map (fun ds => d :: ds) = some ds from e)
    exact avDs_own e2 i h
  | .io j :: as, ds, e, i, h => by
    have e : (match (S[j]?).bind SV.mu with
      | some d => (avDs S as).map fun ds => d :: ds
      | _ => none) = some ds := e
    split at e
    · rename_i d hd
      obtain ⟨r', e2, rfl⟩ := Option.map_eq_some_iff.mp e
      obtain ⟨s, q1, q2⟩ := Option.bind_eq_some_iff.mp hd
      rcases List.mem_cons.mp (show i ∈ j :: avIos as from h) with rfl | h
      · exact ⟨s, d, q1, q2⟩
      · exact avDs_own e2 i h
    · cases e
theorem av_at : ∀ {as : List AV} {vs : List V} {i : Nat} {v : V}, Ers (ErA G) Av S σ H as vs → (as.map AV.isIo)[i]? = some true → vs[i]? = some v → ∃ j, as[i]? = some (.io j) ∧ σ[j]? = some (some v)
  | [], vs, i, v, _, h, _ => by simp at h
  | x :: as, vs, 0, v, ⟨v', r, e, h1, h2⟩, hi, hv => by
    subst e
    have hv : some v' = some v := hv
    cases hv
    cases x with
    | sh d => exact absurd (show some false = some true from hi) (by simp)
    | io j => exact ⟨j, rfl, h1⟩
  | x :: as, vs, i + 1, v, ⟨v', r, e, h1, h2⟩, hi, hv => by
    subst e
    obtain ⟨j, a, b⟩ := av_at (as := as) h2 hi hv
    exact ⟨j, a, b⟩
theorem ios_mem : ∀ {as : List AV} {i j : Nat}, as[i]? = some (.io j) → j ∈ avIos as
  | [], i, j, h => by simp at h
  | x :: as, 0, j, h => by
    have h : some x = some (.io j) := h
    cases h; simp [avIos]
  | x :: as, i + 1, j, h => by
    have := ios_mem (as := as) (i := i) h
    cases x with
    | sh d => exact this
    | io k => exact List.mem_cons_of_mem _ this
theorem ios_inj : ∀ {as : List AV} {i i' j : Nat}, (avIos as).Nodup → as[i]? = some (.io j) → as[i']? = some (.io j) → i = i'
  | [], i, i', j, _, h, _ => by simp at h
  | x :: as, 0, 0, j, _, _, _ => rfl
  | x :: as, 0, i' + 1, j, nd, h, h' => by
    have h : some x = some (.io j) := h
    cases h
    exact absurd (ios_mem (as := as) (i := i') h') (List.nodup_cons.mp (show (j :: avIos as).Nodup from nd)).1
  | x :: as, i + 1, 0, j, nd, h, h' => by
    have h' : some x = some (.io j) := h'
    cases h'
    exact absurd (ios_mem (as := as) (i := i) h) (List.nodup_cons.mp (show (j :: avIos as).Nodup from nd)).1
  | x :: as, i + 1, i' + 1, j, nd, h, h' => by
    have nd' : (avIos as).Nodup := by
      cases x with
      | sh d => exact nd
      | io k => exact (List.nodup_cons.mp (show (k :: avIos as).Nodup from nd)).2
    rw [ios_inj (as := as) nd' h h']
theorem av_dis (st : StOk G Av S σ H) {as : List AV} {vs : List V} {ds : List D} (ea : Ers (ErA G) Av S σ H as vs) (ed : avDs S as = some ds) (nd : (avIos as).Nodup) : IoDis (as.map AV.isIo) vs := fun i j v h1 h2 e1 e2 => by
  obtain ⟨a, a1, a2⟩ := av_at ea h1 e1
  obtain ⟨b, b1, b2⟩ := av_at ea h2 e2
  have oa := avDs_own ed a (ios_mem a1)
  have ob := avDs_own ed b (ios_mem b1)
  obtain ⟨s, d, q, r⟩ := oa
  obtain ⟨p, k1, _⟩ := st.ow a s d q (s.mu_rt r)
  rw [show σ[a]? = some (some (.ref p)) from k1] at a2
  cases a2
  have := st.dis a b p ⟨s, d, q, s.mu_rt r⟩ ob.holds k1 b2
  subst this
  exact ios_inj nd a1 b1
/-- a call's reading -/
theorem call_sp {sg : FSig} {as : List AV} {vs : List V} {Q : VK} (st : StOk G Av S σ H) (ea : Ers (ErA G) Av S σ H as vs) (h : RdE G W (callSem sg as S) Av S σ H Q) : spG G sg vs H Q (WE W σ) := by
  unfold callSem at h
  cases ed : avDs S as with
  | none => rw [ed] at h; exact h.elim
  | some ds =>
    rw [ed] at h
    simp only at h
    split at h
    · rename_i hz
      obtain ⟨nd, hmd⟩ := hz
      refine ⟨Av, ds, st.dom, hmd ▸ av_args st ea ed, hmd ▸ av_dis st ea ed nd, ?_⟩
      cases em : sg.m ds with
      | bad => rw [em] at h; exact h
      | ok fr d outs =>
        rw [em] at h
        intro Av' v H' c rv
        simp only at h
        cases es : setIos S (avIos as) outs with
        | none => rw [es] at h; exact h.elim
        | some S' =>
          rw [es] at h
          have P := CPost.post (S' := S') st ea nd (hmd ▸ c) es
          unfold RvC at rv
          cases fr with
          | true => exact h v H' ⟨Av', P, rv⟩
          | false => exact h v H' ⟨Av', P, rv⟩
      | exc e outs =>
        rw [em] at h
        intro Av' cls dx H' c x
        simp only at h
        cases es : setIos S (avIos as) outs with
        | none => rw [es] at h; exact h.elim
        | some S' =>
          rw [es] at h
          exact h cls dx H' ⟨Av', CPost.post (S' := S') st ea nd (hmd ▸ c) es, x⟩
    · exact h.elim
theorem tri_call {sg : FSig} {q : List Bool → SS → R (List AV)} {Q : VK} (h : tE G W (kCall sg q) σ H Q) : tL G W (ErA G) (q sg.md) σ H fun vs H1 => spG G sg vs H1 Q (WE W σ) := by
  obtain ⟨Av, S, st, h⟩ := h
  refine ⟨Av, S, st, ?_⟩
  unfold kCall at h
  cases e : q sg.md S with
  | bad => rw [e] at h; exact h
  | exc x S1 => rw [e] at h; exact h
  | ok as S1 =>
    rw [e] at h
    intro Av1 vs H1 P1 r1
    exact call_sp P1.st r1 (h.trans P1)
end
section
variable {X : Cx} {G : Gs} {W : WX} {k : Nat} {f : Addr} {fd : FuncData} {ps : List Str} {sg : FSig} {x : Str} {p pos : Pos} {e : Expr} {es : List Expr} {q : List Bool → SS → R (List AV)}
theorem s_call (F : FnG X.prog X.w X.K X.mg X.base k f fd ps (spG G sg)) (hgd : X.A.guards = some []) (hr : Room k X.A) (tk : Takes X W) (hg : Gl X x) (hm : X.mg x = some (.ref f)) (hk : PySem.W.keepIn X.K (.ref f) = true) (hb : Binds X.K fd ps [])
    (ha : PA X (e :: es) (tL G W (ErA G) (q sg.md))) (hdb : (x == ("__debug__" : Str)) = false) (he : starEach (e :: es) X.env = (false, eval e X.env) :: starEach es X.env) (hpl : (backTo pos (starEach es X.env)).any (·.1) = false) :
    PE X (.Call (.Name x p) (e :: es) [] pos) (tE G W (kCall sg q)) := PE_imp (pe_callG F hgd hr hg hm hk hb (fun σ => passAt tk σ) ha hdb he hpl) fun σ H Q h => tri_call h
theorem s_call0 (F : FnG X.prog X.w X.K X.mg X.base k f fd ps (spG G sg)) (hgd : X.A.guards = some []) (hr : Room k X.A) (tk : Takes X W) (hg : Gl X x) (hm : X.mg x = some (.ref f)) (hk : PySem.W.keepIn X.K (.ref f) = true) (hb : Binds X.K fd ps [])
    (hq : q sg.md = kNil) (hdb : (x == ("__debug__" : Str)) = false) :
    PE X (.Call (.Name x p) [] [] pos) (tE G W (kCall sg q)) := PE_imp (pe_callG0 F hgd hr hg hm hk hb (fun σ => passAt tk σ) hdb) fun σ H Q h => by
  obtain ⟨Av, S, st, h⟩ := tri_call h
  rw [hq] at h
  exact h Av [] H (Post.refl st) rfl

/-- a def keeps its promise -/
theorem body_G {N : List Str} {ms : List Bool} {b : SS → F} {body : List Stmt} {H : Hp} {vs : List V} {Q : VK} {E : XK} (hn : vs.length ≤ N.length) (hb : PSs X body (tS G (fun cls d _ H => E cls d H) b)) (hsp : spG G ⟨ms, runS N.length ms b⟩ vs H Q E) :
    ∃ t, PSs X body t ∧ t { nx := fun _ H' => Q .non H', rt := Q } (L2.start N vs) H := by
  refine ⟨_, hb, ?_⟩
  obtain ⟨Av, ds, dm, ha, hd, h⟩ := hsp
  have st := start_ok (N := N) dm ha hd hn
  refine ⟨Av, slotsOf N.length ms ds, st, ?_⟩
  have h : (match (runS N.length ms b ds : FO) with
    | .ok fr d outs => ∀ Av' v H', CPost G Av ms vs H Av' H' outs → RvC G Av' H H' fr d v → Q v H'
    | .exc e outs => ∀ Av' cls dx H', CPost G Av ms vs H Av' H' outs → XcOk G Av' H' e cls dx → E cls dx H'
    | .bad => False) := h
  unfold runS at h
  rw [if_pos ha.len.2.symm] at h
  cases eb : b (slotsOf N.length ms ds) with
  | bad => rw [eb] at h; exact h
  | bk S' => rw [eb] at h; exact h.elim
  | ct S' => rw [eb] at h; exact h.elim
  | nx S' =>
    rw [eb] at h
    simp only at h
    cases eo : outsS ms S' with
    | none => rw [eo] at h; exact h.elim
    | some outs =>
      rw [eo] at h
      exact fun Av' σ' H' P => h Av' .non H' (callee_post ha P eo) (rfl : V.non = V.non)
  | rt fr d S' =>
    rw [eb] at h
    simp only at h
    cases eo : outsS ms S' with
    | none => rw [eo] at h; exact h.elim
    | some outs =>
      rw [eo] at h
      exact fun Av' σ' v H' P r => h Av' v H' (callee_post ha P eo) (callee_ret ha P r)
  | exc e S' =>
    rw [eb] at h
    simp only at h
    cases eo : outsS ms S' with
    | none => rw [eo] at h; exact h.elim
    | some outs =>
      rw [eo] at h
      exact fun cls dx σ' H' x => let ⟨Av', P, r⟩ := x.ex; h Av' cls dx H' (callee_post ha P eo) r
theorem spG_len {sg : FSig} {vs : List V} {H : Hp} {Q : VK} {E : XK} (h : spG G sg vs H Q E) : vs.length = sg.md.length := by
  obtain ⟨Av, ds, _, ha, _⟩ := h
  exact ha.len.1
end
end Eng

namespace Eng
open PySem PySem.Spec L2
open PyProof.Rows hiding St
section
variable {X : Cx} {G : Gs} {W : WX} {a b c e : Expr} {es : List Expr} {pos p2 pp : Pos} {p q o : KE} {x : Str}

/-! ### dict displays -/
theorem s_dict0 : PE X (.Dict [] [] pos) (tE G W fun S => .ok (.fr (.dic [] [])) S) := PE_imp pe_dnewK fun σ H Q ⟨Av, S, st, h⟩ => fun r hr =>
  h (.ref r) _ (PPost.e (ro := .nw (dicG [])) st (KR.dic hr (show KR G Av H [] [] from rfl)))
theorem s_dic1 (ha : PE X a (tE G W p)) (hb : PE X b (tE G W q)) : PE X (.Dict [some a] [b] pos) (tE G W (kDic1 p q)) :=
  PE_imp (pe_disp (pps_cons ha (s_shr hb) pps_nil) rfl rfl (by simp) (by simp)) fun σ H Q ⟨Av, S, st, h⟩ => fun r hr => by
    have PH : Post G Av S σ H (fun b => Av b ∨ b = r) S (upd H r (.dK [])) := Post.ext st (ext_upd hr) (fun b q => q.elim .inl fun z => .inr (z ▸ hr)) (fun b q => q.elim (fun z => let ⟨o, w⟩ := st.dom b z; ⟨o, ext_upd hr b o w⟩) fun z => ⟨.dK [], by rw [z]; exact upd_same⟩) fun b q => .inl q
    refine ⟨_, S, PH.st, ?_⟩
    unfold kDic1 at h
    cases e1 : p S with
    | bad => rw [e1] at h; exact h
    | exc x S1 => rw [e1] at h; exact fun c d H' z => h c d H' (z.trans PH)
    | ok rv S1 =>
      rw [e1] at h
      intro v H1 P0
      obtain ⟨Av1, P1, v1⟩ := P0.vok PH.st
      clear P0
      refine ⟨Av1, S1, P1.st, ?_⟩
      have h : RdE G W ((kShr q S1).bind fun e S2 => prim ((deref S2 rv.vw).bind fun d => dic1D d e) S2) Av S σ H Q := h
      cases e2 : kShr q S1 with
      | bad => rw [e2] at h; exact h
      | exc x S2 => rw [e2] at h; exact fun c d H' z => h c d H' (z.trans (PH.trans P1))
      | ok y S2 =>
        rw [e2] at h
        intro Av2 u H2 P2 ry
        have v2 := v1.on P1.st P2
        obtain ⟨ro, e, h⟩ := prim_some h
        obtain ⟨d, e3, e⟩ := Option.bind_eq_some_iff.mp e
        obtain ⟨k, e4, rfl⟩ := Option.map_eq_some_iff.mp (show (keyD d).map (fun k => RO.nw (dicG [(k, y)])) = some ro from e)
        have vd := v2.vx P2.st e3
        have hm : MutD d = false := by cases d <;> first | rfl | cases e4
        obtain ⟨rfl, _⟩ := kV_rep e4 (vd.rep hm)
        have P := (PH.trans P1).trans P2
        have P12 := P1.trans P2
        have n0 : ¬ Root S σ r := fun ⟨i, hi, ai⟩ => st.new_apart hr i hi.holds ai
        have aD : Av2 r := P12.held r (.inr rfl) n0
        have hD : H2 r = some (.dK []) := P12.frame r _ upd_same n0
        refine ⟨hD, [(k, u)], rfl, by simp, ?_⟩
        have ap : ∀ i, Holds S2 i → ¬ At σ i r := P.new_apart st hr
        exact h (.ref r) _ ⟨Av2, P.touch st hr aD, r, rfl, aD, hr, ⟨r, [u], rfl, .inl ⟨[k], rfl, rfl, upd_same⟩, ⟨u, [], rfl, Rep.touch ry aD, rfl⟩⟩, rfl⟩

/-! ### len(set(a)) -/
theorem dedup_first (ns : List Int) : firstMet (fun i => ns.getD i 0) ns.length = dedupI ns := by
  unfold firstMet dedupI
  have : (List.range ns.length).map (fun i => ns.getD i 0) = ns := by
    apply List.ext_getElem
    · simp
    · intro i h1 h2
      simp at h1
      simp [List.getD_eq_getElem?_getD, List.getElem?_eq_getElem h1]
  rw [this]
  rfl
theorem dedup_fold : ∀ (ns acc : List Int), acc.Nodup → (ns.foldl (fun acc k => if acc.any (· == k) then acc else acc ++ [k]) acc).Nodup ∧ ∀ k, k ∈ ns.foldl (fun acc k => if acc.any (· == k) then acc else acc ++ [k]) acc ↔ k ∈ acc ∨ k ∈ ns
  | [], acc, h => ⟨h, fun k => by simp⟩
  | n :: ns, acc, h => by
    show (ns.foldl _ (if acc.any (· == n) then acc else acc ++ [n])).Nodup ∧ ∀ k, k ∈ ns.foldl _ (if acc.any (· == n) then acc else acc ++ [n]) ↔ _
    by_cases z : acc.any (· == n) = true
    · rw [if_pos z]
      obtain ⟨i1, i2⟩ := dedup_fold ns acc h
      refine ⟨i1, fun k => ?_⟩
      rw [i2 k]
      obtain ⟨y, hy, e⟩ := List.any_eq_true.mp z
      have e := eq_of_beq e
      subst e
      constructor
      · rintro (h | h)
        · exact .inl h
        · exact .inr (List.mem_cons_of_mem _ h)
      · rintro (h | h)
        · exact .inl h
        · rcases List.mem_cons.mp h with rfl | h
          · exact .inl hy
          · exact .inr h
    · rw [if_neg z]
      have nm : n ∉ acc := fun hm => z (List.any_eq_true.mpr ⟨n, hm, by simp⟩)
      obtain ⟨i1, i2⟩ := dedup_fold ns (acc ++ [n]) (by
        rw [List.nodup_append]
        refine ⟨h, by simp, fun a ha b hb => ?_⟩
        rw [List.mem_singleton.mp hb]
        exact fun e => nm (e ▸ ha))
      refine ⟨i1, fun k => ?_⟩
      rw [i2 k]
      rw [List.mem_append, List.mem_singleton, List.mem_cons, or_assoc]
theorem dedup_nodup (ns : List Int) : (dedupI ns).Nodup ∧ ∀ k, k ∈ dedupI ns ↔ k ∈ ns := by
  obtain ⟨h1, h2⟩ := dedup_fold ns [] (by simp)
  exact ⟨h1, fun k => (h2 k).trans (by simp)⟩
def tLsD (K : PySem.W.Frag) (ta : TE) : TE := fun σ H Q => ta σ H fun x H1 => ∃ (l : Addr) (ns : List Int), x = V.ref l ∧ (SqL K H1 l (ns.map V.int) ∨ SqT K H1 l (ns.map V.int)) ∧ ns.length < 64 ∧ Q (.int (dedupI ns).length) H1
theorem pe_lsetD {ta : TE} {n1 n2 n3 : Pos} (hc : X.calm = true) (hg : Gl X "len") (hm : X.mg "len" = none) (hg2 : Gl X "set") (hm2 : X.mg "set" = none) (ha : PE X a ta)
    (na : starEach [a] X.env = (false, eval a X.env) :: starEach [] X.env) : PE X (.Call (.Name "len" n1) [.Call (.Name "set" n2) [a] [] n3] [] pos) (tLsD X.K ta) := by
  constructor
  intro pins s σ H Q inv want
  -- what comes behind set(..): its size is asked
  have size : ∀ {H1 : Hp} {s1 : Shared} {h' : Heap} {tk : Nat} {c : Addr} {ns : List Int} {o : Obj} {es : Array (Int × Value)} {ep : Nat} {t : SetTable}, Inv X pins σ H1 s1 → (∀ b u, s1.heap.get? b = some u → h'.get? b = some u) →
      h'.get? c = some o → o.ExactSet → o.data = .set es ep t → t.fits es.size = true → es.size = (dedupI ns).length → ns.length < 64 → Q (.int (dedupI ns).length) H1 →
      wpAny (model X.prog X.w) X.A (call (.builtin "len") [.ref c]) (L2.EP X pins σ Q) X.xe { s1 with heap := h', toks := tk } := by
    intro H1 s1 h' tk c ns o es ep t inv1 keep ho exact_ data fits sz few post
    have le : (dedupI ns).length ≤ ns.length := dedup_first ns ▸ firstMet_length_le _ _
    have inv2 : Inv X pins σ H1 { s1 with heap := h', toks := tk } := inv1.kept keep
    exact call_len_set ho exact_ data fits (by rw [sz]; omega) ⟨.int (dedupI ns).length, H1, inv2.tok _, ⟨_, by rw [sz]⟩, post⟩
  refine Call_ ?_
  apply ld_blt inv hg hm PySem.boot_len _ (by decide) (by decide)
  apply PyProof.Rows.callWith_builtin1 (he := rfl) (hplain := rfl)
  apply PyProof.Rows.args_cons (he := rfl)
  refine Call_ ?_
  apply ld_blt inv hg2 hm2 PyProof.Rows.boot_set _ (by decide) (by decide)
  apply PyProof.Rows.callWith_type1 (he := na) (hplain := rfl)
  apply PyProof.Rows.args_cons (he := na)
  refine thn (ha.run pins s σ H _ inv want) ?_
  rintro v s1 ⟨x, H1, inv1, rel, l, ns, rfl, seq, few, post⟩
  cases rel
  apply PyProof.Rows.args_nil
  rcases seq with seq | seq
  · obtain ⟨its, vals, at_l, _⟩ := inv1.list seq
    have n : its.toArray.size = ns.length := by simpa using vals.length.symm
    apply call_set_list (inv1.ok.hd hc) at_l.isList (ns := ns) (by simpa using vals.ints) (by rw [n]; unfold scanBound; omega)
    intro h' tk made keep
    rw [n, dedup_first] at made
    obtain ⟨o, es, ep, t, ho, ex, data, _, _, _, fits, sz⟩ := made
    exact PyProof.Rows.args_nil (size inv1 (fun b u e => keep b u (Heap.lt_size e) e) ho ex data fits sz few post)
  · obtain ⟨its, vals, at_l, _⟩ := inv1.tuple seq
    apply call_set_tupI ns (inv1.ok.hd hc) (show s1.heap.IsTuple l its.toArray from at_l) (ints_of_vals vals) (by unfold scanBound; omega)
    intro h' tk c made _ keep
    obtain ⟨o, es, ep, t, ho, ex, data, _, once, mem, _, fits, _⟩ := made
    have both := dedup_nodup ns
    have sz := ((List.perm_ext_iff_of_nodup once both.1).mpr fun j => (mem j).symm.trans (decide_eq_true_iff.trans (both.2 j).symm)).length_eq
    rw [List.length_map, Array.length_toList] at sz
    exact PyProof.Rows.args_nil (size inv1 keep ho ex data fits sz few post)
theorem s_lset {n1 n2 n3 : Pos} (hc : X.calm = true) (hg : Gl X "len") (hm : X.mg "len" = none) (hg2 : Gl X "set") (hm2 : X.mg "set" = none) (ha : PE X a (tE G W p))
    (na : starEach [a] X.env = (false, eval a X.env) :: starEach [] X.env) : PE X (.Call (.Name "len" n1) [.Call (.Name "set" n2) [a] [] n3] [] pos) (tE G W (kUn lsetD p)) :=
  PE_imp (pe_lsetD hc hg hm hg2 hm2 ha na) fun σ H Q ⟨Av, S, st, h⟩ =>
    tE_bind st h fun r S1 v H1 P0 h0 => by
      obtain ⟨Av1, P1, v1⟩ := P0.vok st
      obtain ⟨ro, e, h1⟩ := prim_some (h0.trans P1)
      obtain ⟨d, e1, e⟩ := Option.bind_eq_some_iff.mp e
      have vd := v1.vx P1.st e1
      clear h0 P0 v1
      have fin : ∀ {ns : List Int}, ro = .sh (.int ((dedupI ns).length : Nat)) → Q (.int (dedupI ns).length) H1 := fun {ns} er => by
        subst er; exact h1 (.int _) H1 ⟨Av1, Post.refl P1.st, (rfl : V.int _ = V.int _)⟩
      cases d with
      | lst ds =>
        obtain ⟨ns, e2, e⟩ := Option.bind_eq_some_iff.mp (show (allI ds).bind (fun ns => if ns.length < 64 then some (RO.sh (.int ((dedupI ns).length : Nat))) else none) = some ro from e)
        obtain ⟨a', ws, rfl, h2, h3⟩ := vd.lst
        cases allI_reps e2 h3
        split at e
        · rename_i hz; cases e; exact ⟨a', ns, rfl, .inl (SqL.of h2), hz, fin rfl⟩
        · cases e
      | tup ds =>
        obtain ⟨ns, e2, e⟩ := Option.bind_eq_some_iff.mp (show (allI ds).bind (fun ns => if ns.length < 64 then some (RO.sh (.int ((dedupI ns).length : Nat))) else none) = some ro from e)
        obtain ⟨a', ws, rfl, _, h2, h3⟩ := vd.tup
        cases allI_reps e2 h3
        split at e
        · rename_i hz; cases e; exact ⟨a', ns, rfl, .inr (SqT.of h2), hz, fin rfl⟩
        · cases e
      | _ => cases e

/-! ### list(range(..)), tuple(range(..)) -/
theorem rg_reps {Av : Addr → Prop} {H : Hp} (lo : Int) : ∀ n : Nat, Reps G Av H (rangeD lo n) ((List.range n).map fun i => V.int (lo + (i : Nat)))
  | 0 => rfl
  | n + 1 => by
    unfold rangeD
    rw [List.range_succ, List.map_append]
    exact (rg_reps lo n).snoc (show Rep G Av H (.int (lo + n)) (V.int (lo + (n : Nat))) from rfl)
theorem lrg_fin {Av Av1 : Addr → Prop} {S S1 : SS} {σ : L2.St} {H H1 : Hp} {tp : Bool} {lo hi : Int} {r : Addr} (P : Post G Av S σ H Av1 S1 H1) (hr : H1 r = none) : EPost G Av1 S1 σ H1 (rgLst tp (rangeD lo (hi - lo).toNat)) S1 (.ref r) (upd H1 r (if tp then .tup (rgV lo hi) else .lst (rgV lo hi))) := by
  cases tp with
  | true => exact PPost.e (ro := .nw (.tup _)) P.st (PPost.tup hr (rg_reps lo _))
  | false => exact PPost.e (ro := .nw (.lst _)) P.st (PPost.lst hr (rg_reps lo _))
theorem s_lrg1 {tp : Bool} {n1 n2 n3 : Pos} {nm : Str} (hnm : nm = if tp then Str.ofString "tuple" else Str.ofString "list") (hc : X.calm = true) (hg : Gl X nm) (hm : X.mg nm = none) (hg2 : Gl X "range") (hm2 : X.mg "range" = none) (ha : PE X a (tE G W p))
    (hs : starEach [a] X.env = [(false, eval a X.env)]) : PE X (.Call (.Name nm n1) [.Call (.Name "range" n2) [a] [] n3] [] pos) (tE G W (kLrg tp (kRng1 p))) := by
  have key : ∀ σ H Q, tE G W (kLrg tp (kRng1 p)) σ H Q → tRg1 (tE G W p) σ H fun lo hi H1 => RgOk lo hi ∧ ∀ q, H1 q = none → Q (.ref q) (upd H1 q (if tp then .tup (rgV lo hi) else .lst (rgV lo hi))) := fun σ H Q ⟨Av, S, st, h⟩ => by
    refine ⟨Av, S, st, ?_⟩
    unfold kLrg kRng1 at h
    cases e : p S with
    | bad => rw [e] at h; exact h
    | exc x S1 => rw [e] at h; exact h
    | ok rv S1 =>
      rw [e] at h
      intro v H1 P
      obtain ⟨Av1, P1, v1⟩ := P.vok st
      have h : RdE G W ((match deref S1 rv.vw with
        | some (.int j) => if rngOk 0 j then Eng.R.ok (rangeD 0 j.toNat, Option.none) S1 else .bad
        | _ => .bad).bind fun xu S1 => if xu.1.length ≤ 16777216 then .ok (rgLst tp xu.1) S1 else .bad) Av S σ H Q := h
      split at h
      · rename_i j ej
        split at h
        · rename_i hz
          obtain ⟨z1, z2, z3, z4⟩ := rngOk_some hz
          cases (v1.vx P1.st ej).int
          have h : RdE G W (if (rangeD 0 j.toNat).length ≤ 16777216 then .ok (rgLst tp (rangeD 0 j.toNat)) S1 else .bad) Av S σ H Q := h
          split at h
          · rename_i hl
            rw [rangeD_length] at hl
            refine ⟨j, rfl, ⟨z1, z2, z3, z4, by rw [Int.sub_zero]; omega⟩, fun r hr => (h.trans P1) (.ref r) _ ?_⟩
            have := lrg_fin (tp := tp) (lo := 0) (hi := j) P1 hr
            rw [Int.sub_zero] at this
            exact this
          · exact h.elim
        · exact h.elim
      · exact h.elim
  cases tp with
  | true => subst hnm; exact PE_imp (pe_tupRg hc hg hm (prg_1 hg2 hm2 ha (by rw [hs]; rfl))) key
  | false => subst hnm; exact PE_imp (pe_listRg hc hg hm (prg_1 hg2 hm2 ha (by rw [hs]; rfl))) key
theorem s_lrg2 {tp : Bool} {n1 n2 n3 : Pos} {nm : Str} (hnm : nm = if tp then Str.ofString "tuple" else Str.ofString "list") (hc : X.calm = true) (hg : Gl X nm) (hm : X.mg nm = none) (hg2 : Gl X "range") (hm2 : X.mg "range" = none) (ha : PE X a (tE G W p)) (hb : PE X b (tE G W q))
    (hs : starEach [a, b] X.env = (false, eval a X.env) :: starEach [b] X.env) (hs2 : starEach [b] X.env = (false, eval b X.env) :: starEach [] X.env) (hp : ∀ pos, (backTo pos (starEach [b] X.env)).any (·.1) = false) : PE X (.Call (.Name nm n1) [.Call (.Name "range" n2) [a, b] [] n3] [] pos) (tE G W (kLrg tp (kRng2 p q))) := by
  have key : ∀ σ H Q, tE G W (kLrg tp (kRng2 p q)) σ H Q → tRg2 (tE G W p) (tE G W q) σ H fun lo hi H1 => RgOk lo hi ∧ ∀ q, H1 q = none → Q (.ref q) (upd H1 q (if tp then .tup (rgV lo hi) else .lst (rgV lo hi))) := fun σ H Q ⟨Av, S, st, h⟩ => by
    refine ⟨Av, S, st, ?_⟩
    unfold kLrg kRng2 at h
    cases e : p S with
    | bad => rw [e] at h; exact h
    | exc x S1 => rw [e] at h; exact h
    | ok rv S1 =>
      rw [e] at h
      intro v H1 P
      obtain ⟨Av1, P1, v1⟩ := P.vok st
      refine ⟨Av1, S1, P1.st, ?_⟩
      cases e2 : q S1 with
      | bad => simp only [R.bind, e2] at h; exact h
      | exc x S2 => simp only [R.bind, e2] at h; exact fun c d H' z => h c d H' (z.trans P1)
      | ok tv S2 =>
        intro u H2 P0
        obtain ⟨Av2, P2, u2⟩ := P0.vok P1.st
        clear P0
        have v2 := v1.on P1.st P2
        simp only [R.bind, e2] at h
        have h : RdE G W ((match deref S2 rv.vw, deref S2 tv.vw with
          | some (.int i), some (.int j) => if rngOk i j then Eng.R.ok (rangeD i (j - i).toNat, Option.none) S2 else .bad
          | _, _ => .bad).bind fun xu S1 => if xu.1.length ≤ 16777216 then .ok (rgLst tp xu.1) S1 else .bad) Av S σ H Q := h
        split at h
        · rename_i i j ei ej
          split at h
          · rename_i hz
            obtain ⟨z1, z2, z3, z4⟩ := rngOk_some hz
            cases (v2.vx P2.st ei).int
            cases (u2.vx P2.st ej).int
            have h : RdE G W (if (rangeD i (j - i).toNat).length ≤ 16777216 then .ok (rgLst tp (rangeD i (j - i).toNat)) S2 else .bad) Av S σ H Q := h
            split at h
            · rename_i hl
              rw [rangeD_length] at hl
              exact ⟨i, j, rfl, rfl, ⟨z1, z2, z3, z4, by omega⟩, fun r hr => (h.trans (P1.trans P2)) (.ref r) _ (lrg_fin P2 hr)⟩
            · exact h.elim
          · exact h.elim
        · exact h.elim
  cases tp with
  | true => subst hnm; exact PE_imp (pe_tupRg hc hg hm (prg_2 hg2 hm2 ha hb hs hs2 (hp _))) key
  | false => subst hnm; exact PE_imp (pe_listRg hc hg hm (prg_2 hg2 hm2 ha hb hs hs2 (hp _))) key
end
end Eng

namespace Eng
open PySem PySem.Spec L2
open PyProof.Rows hiding St

/-! ### calls with keywords -/
theorem vals_zip {ks : List Str} {p : Str} : ∀ {zs : List V} {ws : List Value}, Vals zs ws → ((ks.zip zs).lookup p = none ∧ (ks.zip ws).lookup p = none) ∨ ∃ x u, (ks.zip zs).lookup p = some x ∧ (ks.zip ws).lookup p = some u ∧ RelV x u := by
  induction ks with
  | nil => intro zs ws _; exact .inl ⟨rfl, rfl⟩
  | cons k ks ih =>
    intro zs ws h
    cases h with
    | nil => exact .inl ⟨rfl, rfl⟩
    | cons r t =>
      rw [List.zip_cons_cons, List.zip_cons_cons, List.lookup_cons, List.lookup_cons]
      cases e : (p == k) with
      | true => exact .inr ⟨_, _, rfl, rfl, r⟩
      | false => exact ih t
theorem vals_fm {ks : List Str} {zs : List V} {ws : List Value} (h : Vals zs ws) : ∀ ps : List Str, Vals (ps.filterMap fun p => (ks.zip zs).lookup p) (ps.filterMap fun p => (ks.zip ws).lookup p)
  | [] => .nil
  | p :: ps => by
    rw [List.filterMap_cons, List.filterMap_cons]
    rcases vals_zip (ks := ks) (p := p) h with ⟨h1, h2⟩ | ⟨x, u, h1, h2, r⟩
    · rw [h1, h2]; exact vals_fm h ps
    · rw [h1, h2]; exact .cons r (vals_fm h ps)
theorem vals_kw {ps ks : List Str} {vs zs : List V} {us ws : List Value} (r : Vals vs us) (rz : Vals zs ws) : Vals (kwG ps ks vs zs) (kwG ps ks us ws) := by
  unfold kwG
  rw [r.length]
  exact r.append (vals_fm rz _)
def BindsK (fd : FuncData) (ps ks : List Str) (n : Nat) : Prop := ∀ us ws : List Value, us.length = n → ws.length = ks.length → bindArgs fd ⟨us, ks.zip ws⟩ = pure (ps.zip (kwG ps ks us ws))
section
variable {X : Cx} {k : Nat} {f C : Addr} {fd : FuncData} {ps ks : List Str} {sp : Sp} {E : L2.St → XK} {x m : Str} {p pos apos : Pos} {e o : Expr} {es : List Expr} {ta : TE} {t tk : TA} {kws : List Keyword} {n : Nat}
theorem run_Gk {pins : List (Addr × Obj)} {σ : L2.St} {H : Hp} {s : Shared} {Q : VK} {us ws : List Value} {vs zs : List V} (F : FnG X.prog X.w X.K X.mg X.base k f fd ps sp) (hgd : X.A.guards = some []) (hr : Room k X.A) (hb : BindsK fd ps ks n) (hx : PassesAt (L2.CX X.prog X.w) X σ (E σ))
    (I : Inv X pins σ H s) (r : Vals vs us) (rz : Vals zs ws) (hn : vs.length = n) (hk : zs.length = ks.length) (h : sp (kwG ps ks vs zs) H Q (E σ)) : wpAny (model X.prog X.w) X.A (call (.ref f) us (ks.zip ws)) (L2.EP X pins σ Q) X.xe s := by
  have b := BindsTo.of_eq (s := s) (hb us ws (by rw [← r.length]; exact hn) (by rw [← rz.length]; exact hk))
  exact wpAny_call (codeAny_mono (F.run X.A X.stack s H ⟨us, ks.zip ws⟩ _ _ Q (E σ) hgd hr I.env0 b (vals_kw r rz) h) (ended I (hx pins H s)))
def tCallGk (ps ks : List Str) (n : Nat) (sp : Sp) (E : L2.St → XK) (t tk : TA) : TE := fun σ H Q => t σ H fun vs H1 => tk σ H1 fun zs H2 => vs.length = n ∧ zs.length = ks.length ∧ sp (kwG ps ks vs zs) H2 Q (E σ)
theorem pe_callGk (F : FnG X.prog X.w X.K X.mg X.base k f fd ps sp) (hgd : X.A.guards = some []) (hr : Room k X.A) (hg : Gl X x) (hm : X.mg x = some (.ref f)) (hk : PySem.W.keepIn X.K (.ref f) = true) (hb : BindsK fd ps ks n) (hx : ∀ σ, PassesAt (L2.CX X.prog X.w) X σ (E σ))
    (ha : PA X (e :: es) t) (hkw : PK X kws tk) (hall : (backToKw pos (keywordEach kws X.env)).all (·.1.isSome) = true) (hks : (backToKw pos (keywordEach kws X.env)).filterMap (·.1) = ks)
    (hdb : (x == ("__debug__" : Str)) = false) (he : starEach (e :: es) X.env = (false, eval e X.env) :: starEach es X.env)
    (hpl : ((backTo pos (starEach (e :: es) X.env)).any (·.1) || (backToKw pos (keywordEach kws X.env)).any (·.1.isNone)) = false) :
    PE X (.Call (.Name x p) (e :: es) kws pos) (tCallGk ps ks n sp E t tk) := .mk fun pins s σ H Q inv want =>
  wpAny_Call_Name_kw (ld_glob inv hg hm (PySem.W.callWith_KW (h₀ := X.base) inv.ok.mod.kin hk hall (thn (ha.run pos pins s σ H _ inv want) fun _ s1 ⟨_, H1, inv1, rel, post⟩ =>
    thn (hkw.run pos pins s1 σ H1 _ inv1 post) fun _ _ ⟨_, _, inv2, relk, q1, q2, q3⟩ => ⟨inv2.kIn, by rw [hks]; exact run_Gk F hgd hr hb (hx σ) inv2 rel relk q1 q2 q3⟩) hpl he) hdb)
theorem pe_callGk0 (F : FnG X.prog X.w X.K X.mg X.base k f fd ps sp) (hgd : X.A.guards = some []) (hr : Room k X.A) (hg : Gl X x) (hm : X.mg x = some (.ref f)) (hk : PySem.W.keepIn X.K (.ref f) = true) (hb : BindsK fd ps ks n) (hx : ∀ σ, PassesAt (L2.CX X.prog X.w) X σ (E σ))
    (hkw : PK X kws tk) (hall : (backToKw pos (keywordEach kws X.env)).all (·.1.isSome) = true) (hks : (backToKw pos (keywordEach kws X.env)).filterMap (·.1) = ks)
    (hdb : (x == ("__debug__" : Str)) = false) (hpl : ((backTo pos (starEach [] X.env)).any (·.1) || (backToKw pos (keywordEach kws X.env)).any (·.1.isNone)) = false) :
    PE X (.Call (.Name x p) [] kws pos) (tCallGk ps ks n sp E tNil tk) := .mk fun pins s σ H Q inv want =>
  wpAny_Call_Name_kw (ld_glob inv hg hm (PySem.W.callWith_KW0 (h₀ := X.base) inv.ok.mod.kin hk hall
    (thn (hkw.run pos pins s σ H _ inv want) fun _ _ ⟨_, _, inv2, relk, q1, q2, q3⟩ => ⟨inv2.kIn, by rw [hks]; exact run_Gk (us := []) (vs := []) F hgd hr hb (hx σ) inv2 .nil relk q1 q2 q3⟩) hpl) hdb)
end
section
variable {X : Cx} {G : Gs} {W : WX} {γ : Type} {E : ER γ} {e : Expr} {kws : List Keyword} {pos : Pos}
theorem PK_imp {t t' : TA} (h : PK X kws t') (k : ∀ σ H Q, t σ H Q → t' σ H Q) : PK X kws t := ⟨fun ps pins s σ H Q I w => h.run ps pins s σ H Q I (k σ H Q w)⟩
theorem sk_nil : PK X [] (tL G W E kNil) := PK_imp pk_nil fun σ H Q ⟨Av, S, st, h⟩ => h Av [] H (Post.refl st) rfl
theorem sk_cons {nm : Option Str} {kp : Pos} {f : SS → R γ} {g : SS → R (List γ)} (l : Lasts G E) (ha : PE X e (t1 G W E f)) (hr : PK X kws (tL G W E g)) : PK X (⟨nm, e, kp⟩ :: kws) (tL G W E (kCons f g)) :=
  PK_imp (pk_cons ha hr) fun σ H Q ⟨Av, S, st, h⟩ => by
    refine t1_bindL st h fun x S1 Av1 v H1 P1 e1 h1 => ?_
    refine tL_bindL P1.st (h1.trans P1) fun xs S2 Av2 vs H2 P2 e2 h2 => ?_
    exact h2.trans P2 Av2 (v :: vs) H2 (Post.refl P2.st) ⟨v, vs, rfl, l e1 P1.st P2, e2⟩
theorem Ers.len {Av : Addr → Prop} {S : SS} {σ : L2.St} {H : Hp} : ∀ {xs : List γ} {vs : List V}, Ers E Av S σ H xs vs → vs.length = xs.length
  | [], vs, h => by rw [show vs = [] from h]; rfl
  | x :: xs, vs, ⟨v, r, e, _, h⟩ => by rw [e, List.length_cons, List.length_cons, Ers.len h]
theorem ers_sh {Av : Addr → Prop} {S : SS} {σ : L2.St} {H : Hp} : ∀ {ds : List D} {vs : List V}, Ers (ErD G) Av S σ H ds vs → Ers (ErA G) Av S σ H (ds.map .sh) vs
  | [], vs, h => h
  | d :: ds, vs, ⟨v, r, e, h1, h⟩ => ⟨v, r, e, h1, ers_sh h⟩
theorem ers_zip {ks : List Str} {q : Str} {Av : Addr → Prop} {S : SS} {σ : L2.St} {H : Hp} : ∀ {ds : List D} {vs : List V}, Ers (ErD G) Av S σ H ds vs → ((ks.zip ds).lookup q = none ∧ (ks.zip vs).lookup q = none) ∨ ∃ d v, (ks.zip ds).lookup q = some d ∧ (ks.zip vs).lookup q = some v ∧ Rep G Av H d v := by
  induction ks with
  | nil => intro ds vs _; exact .inl ⟨rfl, rfl⟩
  | cons k ks ih =>
    intro ds vs h
    cases ds with
    | nil => rw [show vs = [] from h]; exact .inl ⟨rfl, rfl⟩
    | cons d ds =>
      obtain ⟨v, r, e, h1, h⟩ := h
      subst e
      rw [List.zip_cons_cons, List.zip_cons_cons, List.lookup_cons, List.lookup_cons]
      cases e : (q == k) with
      | true => exact .inr ⟨_, _, rfl, rfl, h1⟩
      | false => exact ih h
theorem ers_fm {ks : List Str} {Av : Addr → Prop} {S : SS} {σ : L2.St} {H : Hp} {ds : List D} {vs : List V} (h : Ers (ErD G) Av S σ H ds vs) : ∀ ps : List Str, Ers (ErD G) Av S σ H (ps.filterMap fun p => (ks.zip ds).lookup p) (ps.filterMap fun p => (ks.zip vs).lookup p)
  | [] => rfl
  | p :: ps => by
    rw [List.filterMap_cons, List.filterMap_cons]
    rcases ers_zip (ks := ks) (q := p) h with ⟨h1, h2⟩ | ⟨d, v, h1, h2, r⟩
    · rw [h1, h2]; exact ers_fm h ps
    · rw [h1, h2]; exact ⟨v, _, rfl, r, ers_fm h ps⟩
theorem ers_app {Av : Addr → Prop} {S : SS} {σ : L2.St} {H : Hp} {es : List D} {ws : List V} (h' : Ers (ErD G) Av S σ H es ws) : ∀ {ds : List D} {vs : List V}, Ers (ErD G) Av S σ H ds vs → Ers (ErD G) Av S σ H (ds ++ es) (vs ++ ws)
  | [], vs, h => by rw [show vs = [] from h]; exact h'
  | d :: ds, vs, ⟨v, r, e, h1, h⟩ => by rw [e]; exact ⟨v, _, rfl, h1, ers_app h' h⟩
theorem ers_kw {ps ks : List Str} {Av : Addr → Prop} {S : SS} {σ : L2.St} {H : Hp} {ds es : List D} {vs zs : List V} (h : Ers (ErD G) Av S σ H ds vs) (h' : Ers (ErD G) Av S σ H es zs) : Ers (ErA G) Av S σ H ((kwG ps ks ds es).map .sh) (kwG ps ks vs zs) := by
  refine ers_sh ?_
  unfold kwG
  rw [h.len]
  exact ers_app (ers_fm h' _) h
theorem tri_callk {sg : FSig} {ps ks : List Str} {n : Nat} {q o : SS → R (List D)} {σ : L2.St} {H : Hp} {Q : VK} (h : tE G W (kCallk sg ps ks n q o) σ H Q) : tCallGk ps ks n (spG G sg) (WE W) (tL G W (ErD G) q) (tL G W (ErD G) o) σ H Q := by
  obtain ⟨Av, S, st, h⟩ := h
  refine ⟨Av, S, st, ?_⟩
  unfold kCallk at h
  cases e1 : q S with
  | bad => rw [e1] at h; exact h
  | exc x S1 => rw [e1] at h; exact h
  | ok ds S1 =>
    rw [e1] at h
    intro Av1 vs H1 P1 r1
    refine ⟨Av1, S1, P1.st, ?_⟩
    have h : RdE G W ((o S1).bind fun es S2 => if ds.length = n ∧ es.length = ks.length then callSem sg ((kwG ps ks ds es).map .sh) S2 else .bad) Av S σ H Q := h
    cases e2 : o S1 with
    | bad => rw [e2] at h; exact h
    | exc x S2 => rw [e2] at h; exact fun c d H' z => h c d H' (z.trans P1)
    | ok es S2 =>
      rw [e2] at h
      intro Av2 zs H2 P2 r2
      have h : RdE G W (if ds.length = n ∧ es.length = ks.length then callSem sg ((kwG ps ks ds es).map .sh) S2 else .bad) Av S σ H Q := h
      split at h
      · rename_i hz
        have r1' := Ers.on (E := ErD G) lastsD P1.st P2 r1
        exact ⟨r1.len.trans hz.1, r2.len.trans hz.2, call_sp P2.st (ers_kw r1' r2) (h.trans (P1.trans P2))⟩
      · exact h.elim
end
section
variable {X : Cx} {G : Gs} {W : WX} {k : Nat} {f : Addr} {fd : FuncData} {ps ks : List Str} {sg : FSig} {x : Str} {p pos : Pos} {e : Expr} {es : List Expr} {kws : List Keyword} {q o : SS → R (List D)} {n : Nat}
theorem kw_all (env : Env) (pos : Pos) : ∀ {kws : List Keyword} {ks : List Str}, kws.map (·.arg) = ks.map some → (backToKw pos (keywordEach kws env)).all (·.1.isSome) = true ∧ (backToKw pos (keywordEach kws env)).filterMap (·.1) = ks ∧ (backToKw pos (keywordEach kws env)).any (·.1.isNone) = false
  | [], [], _ => ⟨rfl, rfl, rfl⟩
  | ⟨nm, e, kp⟩ :: kws, k :: ks, h => by
    rw [List.map_cons, List.map_cons] at h
    injection h with h1 h2
    have h1 : nm = some k := h1
    subst h1
    obtain ⟨i1, i2, i3⟩ := kw_all env pos (kws := kws) (ks := ks) h2
    refine ⟨?_, ?_, ?_⟩
    · show (true && (backToKw pos (keywordEach kws env)).all (·.1.isSome)) = true
      rw [i1]; rfl
    · show ((some k, _) :: backToKw pos (keywordEach kws env)).filterMap (·.1) = k :: ks
      rw [List.filterMap_cons, i2]
    · show (false || (backToKw pos (keywordEach kws env)).any (·.1.isNone)) = false
      rw [i3]; rfl
  | [], _ :: _, h => by cases h
  | _ :: _, [], h => by cases h
theorem s_callk (F : FnG X.prog X.w X.K X.mg X.base k f fd ps (spG G sg)) (hgd : X.A.guards = some []) (hr : Room k X.A) (tk : Takes X W) (hg : Gl X x) (hm : X.mg x = some (.ref f)) (hk : PySem.W.keepIn X.K (.ref f) = true) (hb : BindsK fd ps ks n)
    (ha : PA X (e :: es) (tL G W (ErD G) q)) (hkw : PK X kws (tL G W (ErD G) o)) (hks : kws.map (·.arg) = ks.map some) (hdb : (x == ("__debug__" : Str)) = false) (he : starEach (e :: es) X.env = (false, eval e X.env) :: starEach es X.env) (hpl : (backTo pos (starEach (e :: es) X.env)).any (·.1) = false) :
    PE X (.Call (.Name x p) (e :: es) kws pos) (tE G W (kCallk sg ps ks n q o)) := by
  obtain ⟨i1, i2, i3⟩ := kw_all X.env pos hks
  exact PE_imp (pe_callGk F hgd hr hg hm hk hb (fun σ => passAt tk σ) ha hkw i1 i2 hdb he (by rw [hpl, i3]; rfl)) fun σ H Q h => tri_callk h
theorem s_callk0 (F : FnG X.prog X.w X.K X.mg X.base k f fd ps (spG G sg)) (hgd : X.A.guards = some []) (hr : Room k X.A) (tk : Takes X W) (hg : Gl X x) (hm : X.mg x = some (.ref f)) (hk : PySem.W.keepIn X.K (.ref f) = true) (hb : BindsK fd ps ks n)
    (hkw : PK X kws (tL G W (ErD G) o)) (hks : kws.map (·.arg) = ks.map some) (hq : q = kNil) (hdb : (x == ("__debug__" : Str)) = false) :
    PE X (.Call (.Name x p) [] kws pos) (tE G W (kCallk sg ps ks n q o)) := by
  obtain ⟨i1, i2, i3⟩ := kw_all X.env pos hks
  subst hq
  refine PE_imp (pe_callGk0 F hgd hr hg hm hk hb (fun σ => passAt tk σ) hkw i1 i2 hdb (by rw [i3]; rfl)) fun σ H Q h => ?_
  obtain ⟨Av, S, st, h⟩ := tri_callk h
  exact h Av [] H (Post.refl st) rfl
end
end Eng

namespace Eng
open PySem PySem.Spec L2
open PyProof.Rows hiding St

/-! ### a tree of the text is a core tree -/
def isStar : Expr → Bool
  | .Starred _ _ => true
  | _ => false
def noStars (es : List Expr) : Bool := es.all fun e => !isStar e
def plainT : Expr → Bool
  | .UnaryOp .Not _ _ => false
  | .BoolOp _ _ _ => false
  | .IfExp _ _ _ _ => false
  | .Compare _ _ _ _ => false
  | _ => true
def noComp : Expr → Bool
  | .ListComp _ _ _ _ => false
  | .SetComp _ _ _ _ => false
  | .DictComp _ _ _ _ _ => false
  | _ => true
def isSetE : Expr → Bool
  | .Set _ _ _ => true
  | _ => false
def isSliceE : Expr → Bool
  | .Slice _ _ _ _ => true
  | _ => false
def isTupE : Expr → Bool
  | .Tuple _ _ _ => true
  | _ => false
def isCallE : Expr → Bool
  | .Call _ _ _ _ => true
  | _ => false
def CL.isNil : CL → Bool
  | .nil => true
  | _ => false
def CI.isRng : CI → Bool
  | .rng1 _ => true
  | .rng2 _ _ => true
  | _ => false
section
variable (sc : Scope) (N L : List Str)
def varC (i : Nat) (x : Str) : Bool := decide (N[i]? = some x) && (match sc.names.lookup x with
  | some .local => true
  | some .cell => true
  | some .free => true
  | _ => false) && !(x == ("__debug__" : Str)) && !(x == ("__classdict__" : Str))
def glC (x : Str) : Bool := decide (sc.names.lookup x = some .globalImplicit)
def asgC (i : Nat) (x : Str) : Bool := decide (N[i]? = some x) && (match sc.names.lookup x with
  | some .local => true
  | some .cell => L.contains x
  | _ => false)
def tyC (t : Ty) : Expr → Bool
  | .Name x _ => decide (x = Str.ofString t.nm) && glC sc x && t.ok
  | _ => false
def tysC : List Ty → List Expr → Bool
  | [], [] => true
  | t :: ts, e :: es => tyC sc t e && tysC ts es
  | _, _ => false
def chkT : Tg → Expr → Bool
  | .nm i, .Name x _ => asgC sc N L i x
  | .tup l, .Tuple es _ _ => chkTs l es
  | _, _ => false
where chkTs : Tg → List Expr → Bool
  | .nil, [] => true
  | .cons a b, e :: es => chkT a e && chkTs b es
  | _, _ => false
end
def cellsOf (scope : Scope) : List Str := (scope.names.filter fun y => decide (y.2 = .cell) && decide (scope.names.lookup y.1 = some .cell)).map (·.1)
def ownP (N : List Str) (own : List Nat) : List (Str × Nat) := own.map fun i => ((N[i]?).getD (Str.ofString ""), i)
def memAll (l own : List Nat) : Bool := l.all fun j => own.contains j
mutual
def chk (sc : Scope) (N L : List Str) : CE → Expr → Bool
  | .non, E => match E with
    | .Constant .none _ _ => true
    | _ => false
  | .bl b, E => match E with
    | .Constant (.bool c) _ _ => decide (b = c)
    | _ => false
  | .int i, E => match E with
    | .Constant (.int j) _ _ => decide (i = j)
    | _ => false
  | .str x, E => match E with
    | .Constant (.str y) _ _ => decide (x = y)
    | _ => false
  | .var i, E => match E with
    | .Name x _ => varC sc N i x
    | _ => false
  | .glob x d, E => match E with
    | .Name y _ => decide (x = y) && glC sc x && !(x == ("__debug__" : Str))
    | _ => false
  | .bin op a b, E => match E with
    | .BinOp l o r _ => decide (op = o) && chk sc N L a l && chk sc N L b r
    | _ => false
  | .neg a, E => match E with
    | .UnaryOp .USub e _ => chk sc N L a e
    | _ => false
  | .cmp op a b, E => match E with
    | .Compare l [o] [r] _ => decide (op = o) && !isSetE r && chk sc N L a l && chk sc N L b r
    | _ => false
  | .chain op op' a b c, E => match E with
    | .Compare l [o, o'] [r, r'] _ => decide (op = o) && decide (op' = o') && !isSetE r && !isSetE r' && chk sc N L a l && chk sc N L b r && chk sc N L c r'
    | _ => false
  | .not a, E => match E with
    | .UnaryOp .Not e _ => chk sc N L a e
    | _ => false
  | .and_ l, E => match E with
    | .BoolOp .And es _ => !es.isEmpty && chkL sc N L l es
    | _ => false
  | .or_ l, E => match E with
    | .BoolOp .Or es _ => !es.isEmpty && chkL sc N L l es
    | _ => false
  | .ite c a b, E => match E with
    | .IfExp c' a' b' _ => chk sc N L c c' && chk sc N L a a' && chk sc N L b b'
    | _ => false
  | .tup l, E => match E with
    | .Tuple es _ _ => chkL sc N L l es
    | _ => false
  | .lst l, E => match E with
    | .List es _ => chkL sc N L l es
    | _ => false
  | .dict0 _, E => match E with
    | .Dict [] [] _ => true
    | _ => false
  | .dic1 a b, E => match E with
    | .Dict [some x] [y] _ => chk sc N L a x && chk sc N L b y
    | _ => false
  | .lset a, E => match E with
    | .Call (.Name x _) [.Call (.Name y _) [e] [] _] [] _ => decide (x = Str.ofString "len") && decide (y = Str.ofString "set") && glC sc x && glC sc y && !isStar e && chk sc N L a e
    | _ => false
  | .lrg tp it, E => match E with
    | .Call (.Name x _) [R] [] _ => decide (x = if tp then Str.ofString "tuple" else Str.ofString "list") && glC sc x && it.isRng && chkI sc N L it R
    | _ => false
  | .sub a b, E => match E with
    | .Subscript l r _ => !isSliceE r && chk sc N L a l && chk sc N L b r
    | _ => false
  | .noe, _ => false
  | .slc a lo hi, E => match E with
    | .Subscript l (.Slice lo' hi' none _) _ => chk sc N L a l && (match lo' with
      | none => lo.isNoe
      | some e => !lo.isNoe && chk sc N L lo e) && (match hi' with
      | none => hi.isNoe
      | some e => !hi.isNoe && chk sc N L hi e)
    | _ => false
  | .rev a, E => match E with
    | .Subscript l (.Slice none none (some (.UnaryOp .USub (.Constant (.int 1) _ _) _)) _) _ => chk sc N L a l
    | _ => false
  | .fld a f cs, E => match E with
    | .Attribute e f' _ => decide (f = f') && !isCallE e && chk sc N L a e
    | _ => false
  | .bi b l, E => match E with
    | .Call (.Name x _) (e :: es) [] _ => decide (x = Str.ofString b.nm) && glC sc x && noStars (e :: es) && chkL sc N L l (e :: es)
    | _ => false
  | .bm _ _ _, _ => false
  | .mm m i l, E => match E with
    | .Call (.Attribute (.Name x _) f ap) es [] cp => decide (f = Str.ofString m.nm) && m.ok && varC sc N i x && (ap.endLine == cp.line) && noStars es && decide (es.length < 29) && (match es with
      | [] => l.isNil
      | e :: es => chkL sc N L l (e :: es))
    | _ => false
  | .isi a ts, E => match E with
    | .Call (.Name x _) [e, t] [] _ => decide (x = Str.ofString "isinstance") && glC sc x && chk sc N L a e && (match t with
      | .Tuple es _ _ => !ts.isEmpty && decide (ts.length ≤ 9) && tysC sc ts es
      | .Name y p => tysC sc ts [.Name y p]
      | _ => false)
    | _ => false
  | .call x sg l, E => match E with
    | .Call (.Name y _) es [] _ => decide (x = y) && glC sc x && !(x == ("__debug__" : Str)) && noStars es && (match es with
      | [] => l.isNil && sg.md.isEmpty
      | e :: es => chkL sc N L l (e :: es))
    | _ => false
  | .callk x ps sg l ks kl, E => match E with
    | .Call (.Name y _) es kws _ => decide (x = y) && glC sc x && !(x == ("__debug__" : Str)) && noStars es && decide (kws.map (·.arg) = ks.map some) && chkK sc N L kl kws && (match es with
      | [] => l.isNil
      | e :: es => chkL sc N L l (e :: es))
    | _ => false
  | .meth _ _ _ _ _, _ => false
  | .mk _ _ _ _, _ => false
  | .comp elt tg it ifs own, E => match E with
    | .ListComp e' [⟨tgE, iter, ifsE, z⟩] scope _ => decide (z = 0) && chkI sc N L it iter && blkC N sc scope (ownP N own) && chkT (relS scope sc) N (cellsOf scope) tg tgE && memAll tg.slots own && decide (ifsE.length ≤ 1) && noStars ifsE &&
        chkL (relS scope sc) N (cellsOf scope) ifs ifsE && chk (relS scope sc) N (cellsOf scope) elt e'
    | _ => false
def chkL (sc : Scope) (N L : List Str) : CL → List Expr → Bool
  | .nil, es => es.isEmpty
  | .cons e l, es => match es with
    | E :: es => !isStar E && chk sc N L e E && chkL sc N L l es
    | [] => false
  | .star e l, es => match es with
    | .Starred E _ :: es => chk sc N L e E && chkL sc N L l es
    | _ => false
def chkK (sc : Scope) (N L : List Str) : CL → List Keyword → Bool
  | .nil, kws => kws.isEmpty
  | .cons e l, kws => match kws with
    | k :: kws => chk sc N L e k.value && chkK sc N L l kws
    | [] => false
  | .star _ _, _ => false
def chkI (sc : Scope) (N L : List Str) : CI → Expr → Bool
  | .val e, E => !isSetE E && chk sc N L e E
  | .rng1 a, E => match E with
    | .Call (.Name x _) [e] [] _ => decide (x = Str.ofString "range") && glC sc x && !isStar e && chk sc N L a e
    | _ => false
  | .rng2 a b, E => match E with
    | .Call (.Name x _) [e, e'] [] _ => decide (x = Str.ofString "range") && glC sc x && !isStar e && !isStar e' && chk sc N L a e && chk sc N L b e'
    | _ => false
  | .enum _, _ => false
  | .zip _ _, _ => false
end

/-- the calls in a tree, in order; the constants; the classes of its fields -/
structure Wants where
  call : Str → FSig → Prop
  callk : Str → List Str → FSig → Nat → List Str → Prop
  glob : Str → D → Prop
  fld : Nat → Str → Prop
mutual
def needE (w : Wants) : CE → Prop
  | .glob x d => w.glob x d
  | .bin _ a b => needE w a ∧ needE w b
  | .neg a => needE w a
  | .cmp _ a b => needE w a ∧ needE w b
  | .chain _ _ a b c => needE w a ∧ needE w b ∧ needE w c
  | .not a => needE w a
  | .and_ l => needL w l
  | .or_ l => needL w l
  | .ite c a b => needE w c ∧ needE w a ∧ needE w b
  | .tup l => needL w l
  | .lst l => needL w l
  | .sub a b => needE w a ∧ needE w b
  | .slc a lo hi => needE w a ∧ needE w lo ∧ needE w hi
  | .rev a => needE w a
  | .fld a f cs => needE w a ∧ ∀ c ∈ cs, w.fld c f
  | .bi _ l => needL w l
  | .bm _ a l => needE w a ∧ needL w l
  | .mm _ _ l => needL w l
  | .isi a _ => needE w a
  | .call x sg l => w.call x sg ∧ needL w l
  | .comp e _ it ifs _ => needI w it ∧ needL w ifs ∧ needE w e
  | .non => True
  | .bl _ => True
  | .int _ => True
  | .str _ => True
  | .var _ => True
  | .dict0 _ => True
  | .noe => True
  | .callk x ps sg l ks kl => w.callk x ps sg l.len ks ∧ needL w l ∧ needL w kl
  | .dic1 a b => needE w a ∧ needE w b
  | .lset a => needE w a
  | .lrg _ it => needI w it
  | .meth _ _ _ _ _ => True
  | .mk _ _ _ _ => True
def needL (w : Wants) : CL → Prop
  | .nil => True
  | .cons e l => needE w e ∧ needL w l
  | .star e l => needE w e ∧ needL w l
def needI (w : Wants) : CI → Prop
  | .val e => needE w e
  | .rng1 a => needE w a
  | .rng2 a b => needE w a ∧ needE w b
  | .enum a => needE w a
  | .zip a b => needE w a ∧ needE w b
end

/-- what is known of the names of the built-ins -/
def bnames : List Str := ["len", "int", "abs", "bool", "str", "repr", "list", "tuple", "sorted", "sum", "min", "max", "any", "all", "range", "isinstance", "set", "dict", "enumerate", "zip"]
structure Gd (G : Gs) (W : WX) (k : Nat) (w : Wants) (sc : Scope) (N L : List Str) (X : Cx) : Prop where
  eN : X.N = N
  esc : X.env.scope = sc
  nd : N.Nodup
  calm : X.calm = true
  eK : X.K = G.K
  room : Room k X.A
  gd : X.A.guards = some []
  tk : Takes X W
  own : PassesOwn (model X.prog X.w) X.A X.env X.xe
  fn : ∀ x ∈ L, X.fn x = true
  mg : ∀ x ∈ bnames, X.mg x = none
  call : ∀ x sg, w.call x sg → ∃ f fd ps, FnG X.prog X.w X.K X.mg X.base k f fd ps (spG G sg) ∧ X.mg x = some (.ref f) ∧ PySem.W.keepIn X.K (.ref f) = true ∧ Binds X.K fd ps []
  callk : ∀ x ps sg n ks, w.callk x ps sg n ks → ∃ f fd, FnG X.prog X.w X.K X.mg X.base k f fd ps (spG G sg) ∧ X.mg x = some (.ref f) ∧ PySem.W.keepIn X.K (.ref f) = true ∧ BindsK fd ps ks n
  glob : ∀ x d, w.glob x d → ∃ u v, X.mg x = some u ∧ RelV v u ∧ ∀ Av H, Rep G Av H d v
  fld : ∀ c f, w.fld c f → Cls X.K (G.c c) ∧ NoAttr X.K (G.c c) f

section
variable {G : Gs} {W : WX} {k : Nat} {w : Wants} {sc : Scope} {N L : List Str} {X : Cx}
theorem Gd.gl (g : Gd G W k w sc N L X) {x : Str} (h : glC sc x = true) : Gl X x := by
  have h := of_decide_eq_true h
  rw [← g.esc] at h
  exact h
theorem Gd.var (g : Gd G W k w sc N L X) {i : Nat} {x : Str} (h : varC sc N i x = true) : X.N[i]? = some x ∧ Vis X.env.scope x ∧ (x == ("__debug__" : Str)) = false ∧ (x == ("__classdict__" : Str)) = false := by
  unfold varC at h
  simp only [Bool.and_eq_true, decide_eq_true_eq, Bool.not_eq_true'] at h
  obtain ⟨⟨⟨h1, h2⟩, h3⟩, h4⟩ := h
  refine ⟨g.eN ▸ h1, ?_, h3, h4⟩
  rw [g.esc]
  split at h2
  · exact .inl (by assumption)
  · exact .inr (.inl (by assumption))
  · exact .inr (.inr (by assumption))
  · cases h2
theorem Gd.asg (g : Gd G W k w sc N L X) {i : Nat} {x : Str} (h : asgC sc N L i x = true) : X.N[i]? = some x ∧ Loc X.env.scope x ∧ (X.fn x = true ∨ X.env.scope.names.lookup x = some .local) := by
  unfold asgC at h
  simp only [decide_eq_true_eq, Bool.and_eq_true] at h
  obtain ⟨h1, h2⟩ := h
  rw [g.esc, g.eN]
  split at h2
  · exact ⟨h1, .inl (by assumption), .inr (by assumption)⟩
  · exact ⟨h1, .inr (by assumption), .inl (g.fn x (List.elem_iff.mp h2))⟩
  · cases h2
theorem star_cons {e : Expr} {es : List Expr} {env : Env} (h : isStar e = false) : starEach (e :: es) env = (false, eval e env) :: starEach es env := by
  cases e <;> first | rfl | cases h
theorem noStars_cons {e : Expr} {es : List Expr} (h : noStars (e :: es) = true) : isStar e = false ∧ noStars es = true := by
  unfold noStars at h
  simp only [List.all_cons, Bool.and_eq_true, Bool.not_eq_true'] at h
  exact h
theorem star_any {env : Env} {pos : Pos} : ∀ {es : List Expr}, noStars es = true → (backTo pos (starEach es env)).any (·.1) = false
  | [], _ => rfl
  | e :: es, h => by
    obtain ⟨h1, h2⟩ := noStars_cons h
    rw [star_cons h1]
    show (false || (backTo pos (starEach es env)).any (·.1)) = false
    rw [star_any h2]; rfl
theorem star_all {env : Env} {pos : Pos} : ∀ {es : List Expr}, noStars es = true → (backTo pos (starEach es env)).all (fun x => !x.1) = true
  | [], _ => rfl
  | e :: es, h => by
    obtain ⟨h1, h2⟩ := noStars_cons h
    rw [star_cons h1]
    show (true && (backTo pos (starEach es env)).all (fun x => !x.1)) = true
    rw [star_all h2]; rfl
theorem true_plain {e : Expr} {env : Env} (h : plainT e = true) : ∀ whole, isTrue e env whole = (do let v ← whole; standAt e.pos; holding [v] (truthy v)) := by
  intro whole
  cases e with
  | UnaryOp op x p => cases op <;> first | rfl | cases h
  | BoolOp _ _ _ => cases h
  | IfExp _ _ _ _ => cases h
  | Compare _ _ _ _ => cases h
  | _ => rfl
theorem nobehind' {op : CmpOp} {e : Expr} (h : isSetE e = false) : behindInMarks op e = false := by
  cases e <;> first | rfl | cases h
theorem plain_ix {e : Expr} (h : isSliceE e = false) : PlainIx e := fun o i => by
  cases e <;> first | rfl | cases h
theorem attr_base {e : Expr} {f : Str} {env : Env} {wh : Sem Value} (h : isCallE e = false) : attributeBase e f env wh = wh := by
  cases e <;> first | rfl | cases h
theorem sw_no {e : Expr} {t : Option Expr} {l : Nat} {env : Env} (h : noComp e = true) : swapsWith e t l env = pure false := by
  cases e <;> first | rfl | cases h
theorem fold_no {e : Expr} {env : Env} (h : isSetE e = false) : ∀ x, foldedSetIterable e env x = pure x := fun x => by
  cases e <;> first | rfl | cases h

structure EOk (G : Gs) (W : WX) (X : Cx) (p : EP) (E : Expr) : Prop where
  val : PE X E (tE G W p.val)
  tst : PT X E (tT G W p.tst)
  md : ∀ m, PE X E (t1 G W (ErA G) (p.md m))
structure LOk (G : Gs) (W : WX) (X : Cx) (p : LP) (es : List Expr) : Prop where
  vw : PA X es (tL G W (ErV G) p.vw)
  sh : PA X es (tL G W (ErD G) p.sh)
  md : ∀ ms, PA X es (tL G W (ErA G) (p.md ms))
  and_ : ∀ pos, es ≠ [] → PE X (.BoolOp .And es pos) (tE G W (p.an true)) ∧ PW X (.BoolOp .And es pos) (tT G W (p.tn true))
  or_ : ∀ pos, es ≠ [] → PE X (.BoolOp .Or es pos) (tE G W (p.an false)) ∧ PW X (.BoolOp .Or es pos) (tT G W (p.tn false))
  pts : es.length ≤ 1 → PTs X es (tT G W (p.tn true))
theorem md_bad {p : EP} {E : Expr} (hv : PE X E (tE G W p.val)) (hi : p.io = none) : ∀ m, PE X E (t1 G W (ErA G) (p.md m)) := fun m => by
  unfold EP.md
  cases m with
  | false => exact s_mdF hv
  | true =>
    refine PE_imp hv fun σ H Q ⟨Av, S, st, h⟩ => ?_
    rw [hi] at h
    exact h.elim
theorem EOk.of {E : Expr} {p : KE} (h : PE X E (tE G W p)) (ht : plainT E = true) : EOk G W X (mkp p) E :=
  ⟨h, s_test h (true_plain ht), md_bad (p := mkp p) h rfl⟩
theorem EOk.of2 {E : Expr} {p : KE} {t : KT} (h : PE X E (tE G W p)) (ht : PT X E (tT G W t)) : EOk G W X ⟨p, t, none⟩ E :=
  ⟨h, ht, md_bad (p := ⟨p, t, none⟩) h rfl⟩
theorem bad_PA {α : Type} {E : ER α} {es : List Expr} : PA X es (tL G W E fun _ => .bad) := ⟨fun _ _ _ _ _ _ _ ⟨_, _, _, h⟩ => h.elim⟩
theorem bad_PE {e : Expr} : PE X e (tE G W fun _ => .bad) := ⟨fun _ _ _ _ _ _ ⟨_, _, _, h⟩ => h.elim⟩
theorem bad_PW {e : Expr} : PW X e (tT G W fun _ => .bad) := ⟨fun _ _ _ _ _ _ _ ⟨_, _, _, h⟩ => h.elim⟩
theorem bad_PTs {es : List Expr} : PTs X es (tT G W fun _ => .bad) := ⟨fun _ _ _ _ _ _ ⟨_, _, _, h⟩ => h.elim⟩
end
end Eng

namespace Eng
open PySem PySem.Spec L2
open PyProof.Rows hiding St
section
variable {X : Cx} {G : Gs} {W : WX} {a b c e : Expr} {es : List Expr} {pos p2 pp : Pos} {p q o : KE} {x : Str}

/-! ### isinstance(a, (T, ..)) -/
def tTys (ts : List Ty) : TA := fun σ H Q => Q (ts.map fun t => V.ty t.nm) H
theorem isTs_kit {K : PySem.W.Frag} {d : Eng.D} {n : String} (hn : tyD d = some n) : ∀ {ts : List Ty} {ro : RO}, isTs ts d = some ro → ts.all Ty.ok = true → ∃ b, ro = bo b ∧ PySem.W.kitAny K (.type n) (ts.map fun t => Value.type t.nm) = some b
  | [], ro, h, _ => by cases h; exact ⟨false, rfl, rfl⟩
  | t :: ts, ro, h, ho => by
    rw [List.all_cons, Bool.and_eq_true] at ho
    have h : (match isT d t with | some true => some (bo true) | some false => isTs ts d | none => none) = some ro := h
    cases ei : isT d t with
    | none => rw [ei] at h; cases h
    | some r =>
      obtain ⟨m, e2, e3⟩ := isT_kit (K := K) ei ho.1
      rw [hn] at e2; cases e2
      rw [ei] at h
      cases r with
      | true => cases h; exact ⟨true, rfl, kitAny_cons e3 (fun z => nomatch z) fun _ => rfl⟩
      | false =>
        obtain ⟨b, e4, e5⟩ := isTs_kit hn (ts := ts) h ho.2
        exact ⟨b, e4, kitAny_cons e3 (fun _ => e5) fun z => nomatch z⟩
theorem isTs_ty (K : PySem.W.Frag) {d : Eng.D} {t : Ty} {ts : List Ty} {ro : RO} (h : isTs (t :: ts) d = some ro) (ho : t.ok = true) : ∃ n, tyD d = some n := by
  have h : (match isT d t with | some true => some (bo true) | some false => isTs ts d | none => none) = some ro := h
  cases ei : isT d t with
  | none => rw [ei] at h; cases h
  | some r => obtain ⟨m, e2, _⟩ := isT_kit (K := K) ei ho; exact ⟨m, e2⟩
theorem tys_paired : ∀ ts : List Ty, Paired ClsV (ts.map fun t => V.ty t.nm) (ts.map fun t => Value.type t.nm)
  | [] => .nil
  | t :: ts => .cons (.ty t.nm) (tys_paired ts)
theorem s_isiT {t : Ty} {ts : List Ty} {pn pt : Pos} {kt : Nat} (ht : (t :: ts).all Ty.ok = true) (hl : (t :: ts).length ≤ 9) (hg : Gl X "isinstance") (hm : X.mg "isinstance" = none) (ht' : PA X es (tTys (t :: ts))) (ha : PE X a (tE G W p))
    (hs1 : starEach [a, .Tuple es kt pt] X.env = (false, eval a X.env) :: starEach [.Tuple es kt pt] X.env) :
    PE X (.Call (.Name "isinstance" pn) [a, .Tuple es kt pt] [] pos) (tE G W (kUn (isTs (t :: ts)) p)) :=
  PE_imp (pe_callB call_isiT hg hm (by decide +kernel) (pa_cons ha (pa_cons (pe_tup ht') pa_nil rfl) hs1) (by decide +kernel) (by decide +kernel) hs1 rfl) fun σ H Q ⟨Av, S, st, h⟩ =>
    tE_bind st h fun r S1 v H1 P1 h1 => by
      obtain ⟨Av1, P1, v1⟩ := P1.vok st
      obtain ⟨ro, e, h1⟩ := prim_some (h1.trans P1)
      obtain ⟨d, e1, e⟩ := Option.bind_eq_some_iff.mp e
      rw [List.all_cons, Bool.and_eq_true] at ht
      obtain ⟨n, hn⟩ := isTs_ty X.K e ht.1
      obtain ⟨b, rfl, hb⟩ := isTs_kit (K := X.K) hn e (by rw [List.all_cons, Bool.and_eq_true]; exact ht)
      refine ⟨by rw [List.length_map, sizeLine_eq]; omega, fun T hT => ?_⟩
      have PH : Post G Av1 S1 σ H1 Av1 S1 (upd H1 T (.tup ((t :: ts).map fun t => V.ty t.nm))) := Post.ext P1.st (ext_upd hT) (fun a q => .inl q) (fun a q => let ⟨o, w⟩ := P1.st.dom a q; ⟨o, ext_upd hT a o w⟩) fun a q => q
      exact ⟨v, T, _, _, _, b, rfl, upd_same, tys_paired _, vx_ty ((v1.on P1.st PH).vx PH.st e1) hn, hb, h1 (.bl b) _ ⟨Av1, PH, (rfl : V.bl b = V.bl b)⟩⟩

/-! ### a field -/
theorem zip_get {Av : Addr → Prop} {H : Hp} {f : Str} {d : Eng.D} : ∀ {ns : List Str} {ds : List Eng.D} {vs : List V}, Reps G Av H ds vs → (ns.zip ds).lookup f = some d → ∃ v, (ns.zip vs).lookup f = some v ∧ Rep G Av H d v
  | [], _, _, _, h => by cases h
  | _ :: _, [], _, _, h => by cases h
  | n :: ns, d' :: ds, vs, ⟨v, r, e, h1, h2⟩, h => by
    subst e
    have h : ((n, d') :: ns.zip ds).lookup f = some d := h
    show ∃ w, ((n, v) :: ns.zip r).lookup f = some w ∧ Rep G Av H d w
    rw [List.lookup_cons] at h ⊢
    cases hb : (f == n) with
    | true => rw [hb] at h; cases h; exact ⟨v, rfl, h1⟩
    | false => rw [hb] at h; exact zip_get h2 h
theorem s_fld {f : Str} {cs : List Nat} (hc : ∀ c ∈ cs, Cls X.K (G.c c) ∧ NoAttr X.K (G.c c) f) (ha : PE X a (tE G W p)) (hb : attributeBase a f X.env (eval a X.env) = eval a X.env) : PE X (.Attribute a f pos) (tE G W (kUn (fldD cs f) p)) :=
  PE_imp (pe_fld ha hb) fun σ H Q ⟨Av, S, st, h⟩ =>
    tE_bind st h fun r S1 v H1 P0 h0 => by
      obtain ⟨Av1, P1, v1⟩ := P0.vok st
      obtain ⟨ro, e, h1⟩ := prim_some (h0.trans P1)
      obtain ⟨d, e1, e⟩ := Option.bind_eq_some_iff.mp e
      have vd := v1.vx P1.st e1
      clear h0 P0 v1
      cases d with
      | obj c ns ds =>
        have e : (if c ∈ cs ∧ ns.length = ds.length then ((ns.zip ds).lookup f).map RO.sh else none) = some ro := e
        split at e
        · rename_i hz
          obtain ⟨d', e2, rfl⟩ := Option.map_eq_some_iff.mp e
          obtain ⟨q, dx, vs, rfl, g1, g2, g3⟩ := vd.1
          obtain ⟨u, k1, k2⟩ := zip_get g3 e2
          exact ⟨q, _, dx, _, u, rfl, g1, (hc c hz.1).1, (hc c hz.1).2, k1, h1 u H1 ⟨Av1, Post.refl P1.st, k2⟩⟩
        · cases e
      | _ => cases e
end

/-! ### a comprehension's parts -/
section
variable {G : Gs} {W : WX} {k : Nat} {w : Wants} {sc : Scope} {N L : List Str} {X : Cx}
theorem ownP_snd (N : List Str) (own : List Nat) : (ownP N own).map (·.2) = own := by
  unfold ownP
  rw [List.map_map]
  exact List.map_id' own |>.symm ▸ (by simp [Function.comp])
theorem cellsOf_mem {scope : Scope} {x : Str} (h : x ∈ cellsOf scope) : scope.names.lookup x = some .cell := by
  unfold cellsOf at h
  obtain ⟨y, hy, rfl⟩ := List.mem_map.mp h
  have := (List.mem_filter.mp hy).2
  simp only [Bool.and_eq_true, decide_eq_true_eq] at this
  exact this.2
theorem Gd.inner (g : Gd G W k w sc N L X) {scope : Scope} {s : Shared} {H : Hp} {C : Addr} {cl : List (Str × Addr)} {fp : List Addr} : Gd G (fun _ _ _ _ => False) k w (relS scope sc) N (cellsOf scope) (X.blk s H scope (compEnvC scope cl C X.env) fp) where
  eN := g.eN
  esc := by rw [← g.esc]; rfl
  nd := g.nd
  calm := g.calm
  eK := g.eK
  room := g.room
  gd := g.gd
  tk := takes0
  own := PassesOwn.never
  fn := fun x hx => by
    show (scope.names.lookup x == some .cell) = true
    rw [cellsOf_mem hx]; rfl
  mg := g.mg
  call := g.call
  callk := g.callk
  glob := g.glob
  fld := g.fld
theorem tgt_len {env : Env} : ∀ {l : Tg} {es : List Expr}, chkT.chkTs sc N L l es = true → (assignEach es env).length = l.len ∧ (assignEach es env).findIdx? (·.1) = none
  | .nil, [], _ => ⟨rfl, rfl⟩
  | .cons a b, e :: es, h => by
    have h : (chkT sc N L a e && chkT.chkTs sc N L b es) = true := h
    rw [Bool.and_eq_true] at h
    obtain ⟨i1, i2⟩ := tgt_len (env := env) h.2
    have hs : assignEach (e :: es) env = (false, PySem.assign e env) :: assignEach es env := by
      cases e <;> first | rfl | (cases a <;> cases h.1)
    rw [hs]
    refine ⟨by simp [i1, Tg.len], ?_⟩
    rw [List.findIdx?_cons]
    simp [i2]
  | .nil, _ :: _, h => by cases h
  | .cons _ _, [], h => by cases h
  | .nm _, es, h => by cases es <;> cases h
  | .tup _, es, h => by cases es <;> cases h
mutual
theorem chkT_ok (g : Gd G W k w sc N L X) : ∀ {tg : Tg} {e : Expr}, chkT sc N L tg e = true → PG X e (tG G tg)
  | .nm i, e, h => by
    cases e <;> first | (cases h) | skip
    rename_i x p
    obtain ⟨h1, h2, h3⟩ := g.asg (show asgC sc N L i x = true from h)
    exact g_name (g.eN ▸ g.nd) h1 h2 h3
  | .tup l, e, h => by
    cases e <;> first | (cases h) | skip
    rename_i es n p
    have h : chkT.chkTs sc N L l es = true := h
    exact g_tup g.calm (chkTs_ok g h) (tgt_len h).1 (fun ds S S' q => assigns_len' q) (tgt_len h).2
  | .nil, e, h => by cases e <;> cases h
  | .cons _ _, e, h => by cases e <;> cases h
theorem chkTs_ok (g : Gd G W k w sc N L X) : ∀ {tg : Tg} {es : List Expr}, chkT.chkTs sc N L tg es = true → PGs X es (tGs G tg)
  | .nil, [], _ => g_nil
  | .cons a b, e :: es, h => by
    have h : (chkT sc N L a e && chkT.chkTs sc N L b es) = true := h
    rw [Bool.and_eq_true] at h
    refine g_cons (chkT_ok g h.1) (chkTs_ok g h.2) ?_
    cases e <;> first | rfl | (cases a <;> cases h.1)
  | .nil, _ :: _, h => by cases h
  | .cons _ _, [], h => by cases h
  | .nm _, es, h => by cases es <;> cases h
  | .tup _, es, h => by cases es <;> cases h
end
end
end Eng

namespace Eng
open PySem PySem.Spec L2
open PyProof.Rows hiding St
section
variable {G : Gs} {W : WX} {k : Nat} {w : Wants} {sc : Scope} {N L : List Str} {X : Cx}
theorem EOk.ite' {p : EP} {E : Expr} (h : EOk G W X p E) : EOk G W X p E := h
theorem LOk.nil : LOk G W X (evl .nil) [] := ⟨s_nil, s_nil, fun ms => by
    cases ms with
    | nil => exact s_nil
    | cons _ _ => exact bad_PA, fun _ h => absurd rfl h, fun _ h => absurd rfl h, fun _ => by
    have := pts_nil (X := X)
    exact ⟨fun pins s σ H Q I ⟨Av, S, st, h⟩ => this.run pins s σ H Q I (h Av H (Post.refl st))⟩⟩
theorem LOk.one {e : CE} {E : Expr} (h : EOk G W X (evc e) E) (hs : isStar E = false) : LOk G W X (evl (.cons e .nil)) [E] := by
  refine ⟨s_cons lastsV (s_vw h.val) s_nil (star_cons hs), s_cons lastsD (s_shr h.val) s_nil (star_cons hs), fun ms => ?_, fun pos _ => ⟨pe_one h.val, pw_and1 h.tst⟩, fun pos _ => ⟨pe_one h.val, pw_or1 h.tst⟩, fun _ => pts_one h.tst⟩
  cases ms with
  | nil => exact bad_PA
  | cons m ms =>
    cases ms with
    | nil => exact s_cons lastsA (h.md m) s_nil (star_cons hs)
    | cons _ _ => exact bad_PA
theorem LOk.more {e e2 : CE} {l : CL} {E E2 : Expr} {es : List Expr} (h : EOk G W X (evc e) E) (hs : isStar E = false) (r : LOk G W X (evl (.cons e2 l)) (E2 :: es)) : LOk G W X (evl (.cons e (.cons e2 l))) (E :: E2 :: es) := by
  refine ⟨s_cons lastsV (s_vw h.val) r.vw (star_cons hs), s_cons lastsD (s_shr h.val) r.sh (star_cons hs), fun ms => ?_, fun pos _ => ⟨s_and h.val (r.and_ pos (by simp)).1, s_andT h.tst (r.and_ pos (by simp)).2⟩, fun pos _ => ⟨s_or h.val (r.or_ pos (by simp)).1, s_orT h.tst (r.or_ pos (by simp)).2⟩, fun h => by simp at h⟩
  cases ms with
  | nil => exact bad_PA
  | cons m ms => exact s_cons lastsA (h.md m) (r.md ms) (star_cons hs)
/-- in front of a star there is none but in a display -/
theorem LOk.moreS {e e2 : CE} {l : CL} {E : Expr} {es : List Expr} (h : EOk G W X (evc e) E) (hs : isStar E = false) (r : LOk G W X (evl (.star e2 l)) es) (hne : ∃ a p r, es = .Starred a p :: r) : LOk G W X (evl (.cons e (.star e2 l))) (E :: es) := by
  obtain ⟨a, p, rr, rfl⟩ := hne
  refine ⟨s_cons lastsV (s_vw h.val) r.vw (star_cons hs), s_cons lastsD (s_shr h.val) r.sh (star_cons hs), fun ms => ?_, fun pos _ => ⟨s_and h.val (r.and_ pos (by simp)).1, s_andT h.tst (r.and_ pos (by simp)).2⟩, fun pos _ => ⟨s_or h.val (r.or_ pos (by simp)).1, s_orT h.tst (r.or_ pos (by simp)).2⟩, fun h => by simp at h⟩
  cases ms with
  | nil => exact bad_PA
  | cons m ms => exact s_cons lastsA (h.md m) (r.md ms) (star_cons hs)
theorem LOk.star {e : CE} {l : CL} {E : Expr} {p : Pos} {es : List Expr} (h : EOk G W X (evc e) E) (r : LOk G W X (evl l) es) : LOk G W X (evl (.star e l)) (.Starred E p :: es) :=
  ⟨bad_PA, s_star h.val r.sh, fun _ => bad_PA, fun _ _ => ⟨bad_PE, bad_PW⟩, fun _ _ => ⟨bad_PE, bad_PW⟩, fun _ => bad_PTs⟩
theorem ty_mem {t : Ty} (h : t.ok = true) : Str.ofString t.nm ∈ bnames := by
  cases t with
  | cls _ _ => cases h
  | _ => simp only [Ty.nm]; decide +kernel
theorem s_iteT {c a b : Expr} {pos : Pos} {t u v : KT} (hc : PT X c (tT G W t)) (ha : PT X a (tT G W u)) (hb : PT X b (tT G W v)) : PT X (.IfExp c a b pos) (tT G W (kIfT t u v)) :=
  ⟨fun pins s σ H Q I ⟨Av, S, st, h⟩ => by
    have h' : tT G W t σ H fun kk H1 => if kk = true then tT G W u σ H1 Q else tT G W v σ H1 Q := tT_bindT st h fun kk S1 Av1 H1 P1 h1 => by
      have h1 := h1.trans P1
      cases kk with
      | true => exact ⟨Av1, S1, P1.st, h1⟩
      | false => exact ⟨Av1, S1, P1.st, h1⟩
    show wpAny (model X.prog X.w) X.A (do if ← isTrue c X.env (eval c X.env) then isTrue a X.env (eval a X.env) else isTrue b X.env (eval b X.env)) (TP X pins σ Q) X.xe s
    refine wpAny_bind (thn (hc.run pins s σ H _ I h') fun kk s1 ⟨H1, I1, q⟩ => ?_)
    cases kk with
    | true => exact ha.run pins s1 σ H1 Q I1 q
    | false => exact hb.run pins s1 σ H1 Q I1 q⟩
theorem tys_ok (g : Gd G W k w sc N L X) : ∀ {ts : List Ty} {es : List Expr}, tysC sc ts es = true → ts.all Ty.ok = true ∧ PA X es (tTys ts)
  | [], [], _ => ⟨rfl, PA_imp pa_nil fun σ H Q h => h⟩
  | t :: ts, e :: es, h => by
    have h : (tyC sc t e && tysC sc ts es) = true := h
    rw [Bool.and_eq_true] at h
    obtain ⟨h1, h2⟩ := h
    obtain ⟨i1, i2⟩ := tys_ok g h2
    cases e <;> first | (cases h1) | skip
    rename_i x p
    have h1 : (decide (x = Str.ofString t.nm) && glC sc x && t.ok) = true := h1
    simp only [decide_eq_true_eq, Bool.and_eq_true] at h1
    obtain ⟨⟨rfl, hg⟩, ho⟩ := h1
    exact ⟨by rw [List.all_cons, ho, i1]; rfl, PA_imp (pa_cons (s_tyName ho (g.gl hg) (g.mg _ (ty_mem ho))) i2) fun σ H Q h => h⟩
  | [], _ :: _, h => by cases h
  | _ :: _, [], h => by cases h
theorem bi_mem (b : BI) : Str.ofString b.nm ∈ bnames := by cases b <;> decide +kernel
/-- the parts of a comprehension -/
structure CompOk (G : Gs) (W : WX) (X : Cx) (elt : KE) (tg : Tg) (it : SS → R (List D × Option Nat)) (ifs : KT) (own : List Nat) (N : List Str) (E : Expr) : Prop where
  ex : ∃ e' tgE iter ifsE scope pos, E = .ListComp e' [⟨tgE, iter, ifsE, 0⟩] scope pos ∧ PI X tgE iter (tI G W it) ∧ BlkOk X.N X.env.scope scope (ownP N own) ∧ (∀ j ∈ tg.slots, j ∈ own) ∧
    (∀ (s : Shared) (H : Hp) (C : Addr) (cl : List (Str × Addr)) (fp : List Addr), PG (X.blk s H scope (compEnvC scope cl C X.env) fp) tgE (tG G tg)) ∧
    (∀ (s : Shared) (H : Hp) (C : Addr) (cl : List (Str × Addr)) (fp : List Addr), PTs (X.blk s H scope (compEnvC scope cl C X.env) fp) ifsE (tT G (fun _ _ _ _ => False) ifs)) ∧
    (∀ (s : Shared) (H : Hp) (C : Addr) (cl : List (Str × Addr)) (fp : List Addr), PE (X.blk s H scope (compEnvC scope cl C X.env) fp) e' (tE G (fun _ _ _ _ => False) elt)) ∧ (∀ x, foldedSetIterable iter X.env x = pure x)
theorem CompOk.pe {elt : KE} {tg : Tg} {it : SS → R (List D × Option Nat)} {ifs : KT} {own : List Nat} {E : Expr} (hc : X.calm = true) (hN : X.N.Nodup) (h : CompOk G W X elt tg it ifs own N E) : PE X E (tE G W (kComp elt tg it ifs own)) := by
  obtain ⟨e', tgE, iter, ifsE, scope, pos, rfl, h1, h2, h3, h4, h5, h6, h7⟩ := h.ex
  exact PE_imp (pe_lc hc hN h1 h2 h4 h5 h6 h7) fun σ H Q q => by rw [ownP_snd]; exact tri_comp h3 q
mutual
theorem chk_ok : ∀ (e : CE) {W : WX} {sc : Scope} {L : List Str} {X : Cx} (g : Gd G W k w sc N L X) {E : Expr}, chk sc N L e E = true → needE w e → EOk G W X (evc e) E
  | .non, W, sc, L, X, g, E, h, n => by
    unfold chk at h; split at h
    · exact .of s_non rfl
    · cases h
  | .bl b, W, sc, L, X, g, E, h, n => by
    unfold chk at h; split at h
    · cases of_decide_eq_true h; exact .of s_bl rfl
    · cases h
  | .int i, W, sc, L, X, g, E, h, n => by
    unfold chk at h; split at h
    · cases of_decide_eq_true h; exact .of s_int rfl
    · cases h
  | .str x, W, sc, L, X, g, E, h, n => by
    unfold chk at h; split at h
    · cases of_decide_eq_true h; exact .of s_str rfl
    · cases h
  | .var i, W, sc, L, X, g, E, h, n => by
    unfold chk at h; split at h
    · obtain ⟨h1, h2, h3, h4⟩ := g.var h
      rename_i x xp
      have hv := s_var (G := G) (W := W) (pos := xp) h1 h2 h3 h4
      refine ⟨hv, s_test hv (true_plain rfl), fun m => ?_⟩
      cases m with
      | false => exact s_mdF hv
      | true => exact s_mdT (pe_var h1 h2 h3 h4)
    · cases h
  | .glob x d, W, sc, L, X, g, E, h, n => by
    unfold chk at h; split at h
    · simp only [Bool.and_eq_true, decide_eq_true_eq, Bool.not_eq_true'] at h
      obtain ⟨⟨rfl, h2⟩, h3⟩ := h
      obtain ⟨u, v, q1, q2, q3⟩ := g.glob x d n
      exact .of (PE_imp (pe_glob (g.gl h2) q1 q2 h3) fun σ H Q => tri_C q3) rfl
    · cases h
  | .bin op a b, W, sc, L, X, g, E, h, n => by
    unfold chk at h; split at h
    · simp only [decide_eq_true_eq, Bool.and_eq_true] at h
      obtain ⟨⟨rfl, h2⟩, h3⟩ := h
      exact .of (s_bin (o_bin g.room op) (chk_ok a g h2 n.1).val (chk_ok b g h3 n.2).val) rfl
    · cases h
  | .neg a, W, sc, L, X, g, E, h, n => by
    unfold chk at h; split at h
    · exact .of (s_neg (chk_ok a g h n).val) rfl
    · cases h
  | .cmp op a b, W, sc, L, X, g, E, h, n => by
    unfold chk at h; split at h
    · simp only [Bool.and_eq_true, decide_eq_true_eq, Bool.not_eq_true'] at h
      obtain ⟨⟨⟨rfl, h1⟩, h2⟩, h3⟩ := h
      exact .of2 (s_cmp (o_cmp g.room op) (nobehind' h1) (chk_ok a g h2 n.1).val (chk_ok b g h3 n.2).val) (s_cmpT (o_cmp g.room op) (nobehind' h1) (chk_ok a g h2 n.1).val (chk_ok b g h3 n.2).val)
    · cases h
  | .chain op op' a b c, W, sc, L, X, g, E, h, n => by
    unfold chk at h; split at h
    · simp only [Bool.and_eq_true, decide_eq_true_eq, Bool.not_eq_true'] at h
      obtain ⟨⟨⟨⟨⟨⟨rfl, rfl⟩, h1⟩, h1'⟩, h2⟩, h3⟩, h4⟩ := h
      have ka := (chk_ok a g h2 n.1).val
      have kb := (chk_ok b g h3 n.2.1).val
      have kc := (chk_ok c g h4 n.2.2).val
      exact .of2 (s_chain (o_cmp g.room op) (o_cmp g.room op') (nobehind' h1') ka kb kc) (s_chainT (o_cmp g.room op) (o_cmp g.room op') (nobehind' h1') ka kb kc)
    · cases h
  | .not a, W, sc, L, X, g, E, h, n => by
    unfold chk at h; split at h
    · have ka := chk_ok a g h n
      exact .of2 (s_not ka.val) (s_notT ka.tst)
    · cases h
  | .and_ l, W, sc, L, X, g, E, h, n => by
    unfold chk at h; split at h
    · simp only [Bool.not_eq_true', Bool.and_eq_true] at h
      obtain ⟨h1, h2⟩ := ((chkL_ok l g h.2 n).and_ _ (by intro z; rw [z] at h; simp at h))
      exact .of2 h1 h2.pt
    · cases h
  | .or_ l, W, sc, L, X, g, E, h, n => by
    unfold chk at h; split at h
    · simp only [Bool.not_eq_true', Bool.and_eq_true] at h
      obtain ⟨h1, h2⟩ := ((chkL_ok l g h.2 n).or_ _ (by intro z; rw [z] at h; simp at h))
      exact .of2 h1 h2.pt
    · cases h
  | .ite c a b, W, sc, L, X, g, E, h, n => by
    unfold chk at h; split at h
    · simp only [Bool.and_eq_true] at h
      have kc := chk_ok c g h.1.1 n.1
      have ka := chk_ok a g h.1.2 n.2.1
      have kb := chk_ok b g h.2 n.2.2
      refine .of2 (s_ite kc.tst ka.val kb.val) (s_iteT kc.tst ka.tst kb.tst)
    · cases h
  | .tup l, W, sc, L, X, g, E, h, n => by
    unfold chk at h; split at h
    · exact .of (s_tup (chkL_ok l g h n).sh) rfl
    · cases h
  | .lst l, W, sc, L, X, g, E, h, n => by
    unfold chk at h; split at h
    · exact .of (s_lst (chkL_ok l g h n).sh) rfl
    · cases h
  | .dict0 _, W, sc, L, X, g, E, h, n => by
    unfold chk at h; split at h
    · exact .of (p := fun S => .ok (.fr (.dic [] [])) S) s_dict0 rfl
    · cases h
  | .dic1 a b, W, sc, L, X, g, E, h, n => by
    unfold chk at h; split at h
    · simp only [Bool.and_eq_true] at h
      exact .of (s_dic1 (chk_ok a g h.1 n.1).val (chk_ok b g h.2 n.2).val) rfl
    · cases h
  | .lset a, W, sc, L, X, g, E, h, n => by
    unfold chk at h; split at h
    · simp only [Bool.and_eq_true, decide_eq_true_eq, Bool.not_eq_true'] at h
      obtain ⟨⟨⟨⟨⟨rfl, rfl⟩, h1⟩, h2⟩, h3⟩, h4⟩ := h
      exact .of (s_lset g.calm (g.gl h1) (g.mg _ (by decide +kernel)) (g.gl h2) (g.mg _ (by decide +kernel)) (chk_ok a g h4 n).val (star_cons h3)) rfl
    · cases h
  | .lrg tp (.rng1 a), W, sc, L, X, g, E, h, n => by
    unfold chk at h; split at h
    · simp only [decide_eq_true_eq, Bool.and_eq_true] at h
      obtain ⟨⟨⟨hx, h1⟩, _⟩, h2⟩ := h
      unfold chkI at h2; split at h2
      · simp only [Bool.and_eq_true, decide_eq_true_eq, Bool.not_eq_true'] at h2
        obtain ⟨⟨⟨rfl, q1⟩, q2⟩, q3⟩ := h2
        exact .of (p := kLrg tp (kRng1 (evc a).val)) (s_lrg1 hx g.calm (g.gl h1) (g.mg _ (by rw [hx]; cases tp <;> decide +kernel)) (g.gl q1) (g.mg _ (by decide +kernel)) (chk_ok a g q3 n).val (star_cons q2)) rfl
      · cases h2
    · cases h
  | .lrg tp (.rng2 a b), W, sc, L, X, g, E, h, n => by
    unfold chk at h; split at h
    · simp only [decide_eq_true_eq, Bool.and_eq_true] at h
      obtain ⟨⟨⟨hx, h1⟩, _⟩, h2⟩ := h
      unfold chkI at h2; split at h2
      · simp only [Bool.and_eq_true, decide_eq_true_eq, Bool.not_eq_true'] at h2
        obtain ⟨⟨⟨⟨⟨rfl, q1⟩, q2⟩, q2'⟩, q3⟩, q4⟩ := h2
        exact .of (p := kLrg tp (kRng2 (evc a).val (evc b).val)) (s_lrg2 hx g.calm (g.gl h1) (g.mg _ (by rw [hx]; cases tp <;> decide +kernel)) (g.gl q1) (g.mg _ (by decide +kernel)) (chk_ok a g q3 n.1).val (chk_ok b g q4 n.2).val (star_cons q2) (star_cons q2') (fun pos => star_any (by unfold noStars; simp [q2']))) rfl
      · cases h2
    · cases h
  | .lrg tp (.val _), W, sc, L, X, g, E, h, n => by
    unfold chk at h; split at h
    · simp [CI.isRng] at h
    · cases h
  | .lrg tp (.enum _), W, sc, L, X, g, E, h, n => by
    unfold chk at h; split at h
    · simp [CI.isRng] at h
    · cases h
  | .lrg tp (.zip _ _), W, sc, L, X, g, E, h, n => by
    unfold chk at h; split at h
    · simp [CI.isRng] at h
    · cases h
  | .sub a b, W, sc, L, X, g, E, h, n => by
    unfold chk at h; split at h
    · simp only [Bool.not_eq_true', Bool.and_eq_true] at h
      exact .of (s_sub (plain_ix h.1.1) (chk_ok a g h.1.2 n.1).val (chk_ok b g h.2 n.2).val) rfl
    · cases h
  | .noe, W, sc, L, X, g, E, h, n => by unfold chk at h; cases h
  | .slc a lo hi, W, sc, L, X, g, E, h, n => by
    unfold chk at h; split at h
    · rename_i l lo' hi' p2 pos
      simp only [Bool.and_eq_true] at h
      obtain ⟨⟨h1, h2⟩, h3⟩ := h
      refine .of (s_slc (nl := lo.isNoe) (nh := hi.isNoe) (chk_ok a g h1 n.1).val ?_ ?_ g.eK) rfl
      · cases lo' with
        | none => exact h2
        | some e =>
          simp only [Bool.not_eq_true', Bool.and_eq_true] at h2
          exact ⟨h2.1, (chk_ok lo g h2.2 n.2.1).val⟩
      · cases hi' with
        | none => exact h3
        | some e =>
          simp only [Bool.not_eq_true', Bool.and_eq_true] at h3
          exact ⟨h3.1, (chk_ok hi g h3.2 n.2.2).val⟩
    · cases h
  | .rev a, W, sc, L, X, g, E, h, n => by
    unfold chk at h; split at h
    · exact .of (s_rev (chk_ok a g h n).val) rfl
    · cases h
  | .fld a f cs, W, sc, L, X, g, E, h, n => by
    unfold chk at h; split at h
    · simp only [Bool.and_eq_true, decide_eq_true_eq, Bool.not_eq_true'] at h
      obtain ⟨⟨rfl, h1⟩, h2⟩ := h
      exact .of (s_fld (fun c hc => g.fld c f (n.2 c hc)) (chk_ok a g h2 n.1).val (attr_base h1)) rfl
    · cases h
  | .bi b l, W, sc, L, X, g, E, h, n => by
    unfold chk at h; split at h
    · simp only [decide_eq_true_eq, Bool.and_eq_true] at h
      obtain ⟨⟨⟨rfl, h1⟩, h2⟩, h3⟩ := h
      obtain ⟨s1, s2⟩ := noStars_cons h2
      exact .of (s_bi b g.room g.gd g.calm (g.gl h1) (g.mg _ (bi_mem b)) (chkL_ok l g h3 n).vw (star_cons s1) (star_any s2)) rfl
    · cases h
  | .bm _ _ _, W, sc, L, X, g, E, h, n => by unfold chk at h; cases h
  | .mm m i l, W, sc, L, X, g, E, h, n => by
    unfold chk at h; split at h
    · rename_i x xp f ap es cp
      simp only [decide_eq_true_eq, Bool.and_eq_true] at h
      obtain ⟨⟨⟨⟨⟨⟨rfl, ho⟩, hv⟩, hl⟩, hs⟩, hlen⟩, h2⟩ := h
      obtain ⟨v1, v2, v3, v4⟩ := g.var hv
      refine .of (p := kMm isSeqL (mmD m) i (evl l).sh) ?_ rfl
      cases es with
      | nil =>
        cases l <;> first | (cases h2) | skip
        exact s_mm0 ho v1 v2 v3 v4 hl rfl rfl
      | cons e es =>
        obtain ⟨s1, s2⟩ := noStars_cons hs
        refine s_mm ho v1 v2 v3 v4 hl rfl (chkL_ok l g h2 n).sh ?_ (star_cons s1) (star_any s2)
        rw [star_all hs]
        simp only [Bool.true_and]
        show (true && decide _) = true
        rw [Bool.true_and, decide_eq_true_eq]
        simp at hlen ⊢
        omega
    · cases h
  | .isi a ts, W, sc, L, X, g, E, h, n => by
    unfold chk at h; split at h
    · rename_i x xp e t pos
      simp only [decide_eq_true_eq, Bool.and_eq_true] at h
      obtain ⟨⟨⟨rfl, h1⟩, h2⟩, h3⟩ := h
      have hm := g.mg _ (show Str.ofString "isinstance" ∈ bnames by decide +kernel)
      have ka := (chk_ok a g h2 n).val
      have se : isStar e = false := by
        cases e <;> first | rfl | (exfalso; revert h2; cases a <;> (intro h2; unfold chk at h2; cases h2))
      split at h3
      · rename_i es kt pt
        simp only [Bool.and_eq_true, decide_eq_true_eq, Bool.not_eq_true'] at h3
        obtain ⟨t1, t2⟩ := tys_ok g h3.2
        cases ts with
        | nil => simp at h3
        | cons t ts => exact .of (s_isiT t1 h3.1.2 (g.gl h1) hm t2 ka (star_cons se)) rfl
      · rename_i y p
        cases ts with
        | nil => cases h3
        | cons t ts =>
          cases ts with
          | cons _ _ => have h3 : (tyC sc t (.Name y p) && false) = true := h3; rw [Bool.and_false] at h3; cases h3
          | nil =>
            have h3 : (tyC sc t (.Name y p) && true) = true := h3
            rw [Bool.and_true] at h3
            have h3 : (decide (y = Str.ofString t.nm) && glC sc y && t.ok) = true := h3
            simp only [decide_eq_true_eq, Bool.and_eq_true] at h3
            obtain ⟨⟨rfl, hg⟩, ho⟩ := h3
            exact .of (s_isi1 ho (g.gl h1) hm (g.gl hg) (g.mg _ (ty_mem ho)) ka (star_cons se) rfl) rfl
      · cases h3
    · cases h
  | .call x sg l, W, sc, L, X, g, E, h, n => by
    unfold chk at h; split at h
    · rename_i y yp es pos
      simp only [Bool.and_eq_true, decide_eq_true_eq, Bool.not_eq_true'] at h
      obtain ⟨⟨⟨⟨rfl, h1⟩, h2⟩, h3⟩, h4⟩ := h
      obtain ⟨f, fd, ps, F, f1, f2, f3⟩ := g.call x sg n.1
      refine .of (p := kCall sg (evl l).md) ?_ rfl
      cases es with
      | nil =>
        simp only [Bool.and_eq_true] at h4
        cases l <;> first | (cases h4.1) | skip
        refine s_call0 F g.gd g.room g.tk (g.gl h1) f1 f2 f3 ?_ h2
        have : sg.md = [] := List.isEmpty_iff.mp h4.2
        rw [this]; rfl
      | cons e es =>
        obtain ⟨s1, s2⟩ := noStars_cons h3
        exact s_call F g.gd g.room g.tk (g.gl h1) f1 f2 f3 ((chkL_ok l g h4 n.2).md _) h2 (star_cons s1) (star_any s2)
    · cases h
  | .callk x ps sg l ks kl, W, sc, L, X, g, E, h, n => by
    unfold chk at h; split at h
    · rename_i y yp es kws pos
      simp only [Bool.and_eq_true, decide_eq_true_eq, Bool.not_eq_true'] at h
      obtain ⟨⟨⟨⟨⟨⟨rfl, h1⟩, h2⟩, h3⟩, h5⟩, h6⟩, h4⟩ := h
      obtain ⟨f, fd, F, f1, f2, f3⟩ := g.callk x ps sg l.len ks n.1
      refine .of (p := kCallk sg ps ks l.len (evl l).sh (evl kl).sh) ?_ rfl
      have hk := chkK_ok kl g h6 n.2.2
      cases es with
      | nil =>
        cases l <;> first | (cases h4) | skip
        exact s_callk0 F g.gd g.room g.tk (g.gl h1) f1 f2 f3 hk h5 rfl h2
      | cons e es =>
        obtain ⟨s1, s2⟩ := noStars_cons h3
        exact s_callk F g.gd g.room g.tk (g.gl h1) f1 f2 f3 (chkL_ok l g h4 n.2.1).sh hk h5 h2 (star_cons s1) (star_any h3)
    · cases h
  | .meth _ _ _ _ _, W, sc, L, X, g, E, h, n => by unfold chk at h; cases h
  | .mk _ _ _ _, W, sc, L, X, g, E, h, n => by unfold chk at h; cases h
  | .comp elt tg it ifs own, W, sc, L, X, g, E, h, n => by
    have hp : plainT E = true := by
      unfold chk at h; split at h
      · rfl
      · cases h
    refine .of (CompOk.pe g.calm (g.eN ▸ g.nd) (N := N) ?_) hp
    unfold chk at h; split at h
    · rename_i e' tgE iter ifsE z scope pos
      simp only [decide_eq_true_eq, Bool.and_eq_true] at h
      obtain ⟨⟨⟨⟨⟨⟨⟨⟨rfl, h1⟩, h2⟩, h3⟩, h4⟩, h5⟩, h6⟩, h7⟩, h8⟩ := h
      refine ⟨e', tgE, iter, ifsE, scope, pos, rfl, (chkI_ok it g h1 n.1 tgE).1, ?_, fun j hj => ?_, fun s H C cl fp => chkT_ok g.inner h3, fun s H C cl fp => (chkL_ok ifs g.inner h7 n.2.1).pts h5, fun s H C cl fp => (chk_ok elt g.inner h8 n.2.2).val, (chkI_ok it g h1 n.1 tgE).2⟩
      · rw [g.eN, g.esc]; exact blkOk_by h2
      · have := List.all_eq_true.mp h4 j hj
        exact List.elem_iff.mp this
    · cases h
theorem chkL_ok : ∀ (l : CL) {W : WX} {sc : Scope} {L : List Str} {X : Cx} (g : Gd G W k w sc N L X) {es : List Expr}, chkL sc N L l es = true → needL w l → LOk G W X (evl l) es
  | .nil, W, sc, L, X, g, es, h, n => by
    unfold chkL at h
    cases es with
    | nil => exact .nil
    | cons _ _ => cases h
  | .cons e .nil, W, sc, L, X, g, es, h, n => by
    unfold chkL at h; split at h
    · rename_i E es
      simp only [Bool.not_eq_true', Bool.and_eq_true] at h
      obtain ⟨⟨h1, h2⟩, h3⟩ := h
      unfold chkL at h3
      cases es with
      | nil => exact .one (chk_ok e g h2 n.1) h1
      | cons _ _ => cases h3
    · cases h
  | .cons e (.cons e2 l), W, sc, L, X, g, es, h, n => by
    unfold chkL at h; split at h
    · rename_i E es
      simp only [Bool.not_eq_true', Bool.and_eq_true] at h
      obtain ⟨⟨h1, h2⟩, h3⟩ := h
      have r := chkL_ok (.cons e2 l) g h3 n.2
      cases es with
      | nil => unfold chkL at h3; cases h3
      | cons E2 es => exact .more (chk_ok e g h2 n.1) h1 r
    · cases h
  | .cons e (.star e2 l), W, sc, L, X, g, es, h, n => by
    unfold chkL at h; split at h
    · rename_i E es
      simp only [Bool.not_eq_true', Bool.and_eq_true] at h
      obtain ⟨⟨h1, h2⟩, h3⟩ := h
      refine .moreS (chk_ok e g h2 n.1) h1 (chkL_ok (.star e2 l) g h3 n.2) ?_
      unfold chkL at h3; split at h3
      · exact ⟨_, _, _, rfl⟩
      · cases h3
    · cases h
  | .star e l, W, sc, L, X, g, es, h, n => by
    unfold chkL at h; split at h
    · simp only [Bool.and_eq_true] at h
      exact .star (chk_ok e g h.1 n.1) (chkL_ok l g h.2 n.2)
    · cases h
theorem chkK_ok : ∀ (l : CL) {W : WX} {sc : Scope} {L : List Str} {X : Cx} (g : Gd G W k w sc N L X) {kws : List Keyword}, chkK sc N L l kws = true → needL w l → PK X kws (tL G W (ErD G) (evl l).sh)
  | .nil, W, sc, L, X, g, kws, h, n => by
    unfold chkK at h
    cases kws with
    | nil => exact sk_nil
    | cons _ _ => cases h
  | .cons e .nil, W, sc, L, X, g, kws, h, n => by
    unfold chkK at h; split at h
    · simp only [Bool.and_eq_true] at h
      rename_i kw kws
      obtain ⟨nm, V, kp⟩ := kw
      exact sk_cons (E := ErD G) lastsD (s_shr (chk_ok e g h.1 n.1).val) (chkK_ok .nil g h.2 n.2)
    · cases h
  | .cons e (.cons e2 l), W, sc, L, X, g, kws, h, n => by
    unfold chkK at h; split at h
    · simp only [Bool.and_eq_true] at h
      rename_i kw kws
      obtain ⟨nm, V, kp⟩ := kw
      exact sk_cons (E := ErD G) lastsD (s_shr (chk_ok e g h.1 n.1).val) (chkK_ok (.cons e2 l) g h.2 n.2)
    · cases h
  | .cons e (.star e2 l), W, sc, L, X, g, kws, h, n => by
    unfold chkK at h; split at h
    · simp only [Bool.and_eq_true] at h
      unfold chkK at h; cases h.2
    · cases h
  | .star e l, W, sc, L, X, g, kws, h, n => by unfold chkK at h; cases h
theorem chkI_ok : ∀ (it : CI) {W : WX} {sc : Scope} {L : List Str} {X : Cx} (g : Gd G W k w sc N L X) {E : Expr}, chkI sc N L it E = true → needI w it → ∀ tg, PI X tg E (tI G W (evi it)) ∧ ∀ x, foldedSetIterable E X.env x = pure x
  | .val e, W, sc, L, X, g, E, h, n, tg => by
    unfold chkI at h
    simp only [Bool.not_eq_true', Bool.and_eq_true] at h
    exact ⟨i_val (chk_ok e g h.2 n).val, fold_no h.1⟩
  | .rng1 a, W, sc, L, X, g, E, h, n, tg => by
    unfold chkI at h; split at h
    · simp only [Bool.and_eq_true, decide_eq_true_eq, Bool.not_eq_true'] at h
      obtain ⟨⟨⟨rfl, h1⟩, h2⟩, h3⟩ := h
      exact ⟨i_rng1 (g.gl h1) (g.mg _ (by decide +kernel)) (chk_ok a g h3 n).val (star_cons h2), fun _ => rfl⟩
    · cases h
  | .rng2 a b, W, sc, L, X, g, E, h, n, tg => by
    unfold chkI at h; split at h
    · simp only [Bool.and_eq_true, decide_eq_true_eq, Bool.not_eq_true'] at h
      obtain ⟨⟨⟨⟨⟨rfl, h1⟩, h2⟩, h3⟩, h4⟩, h5⟩ := h
      exact ⟨i_rng2 (g.gl h1) (g.mg _ (by decide +kernel)) (chk_ok a g h4 n.1).val (chk_ok b g h5 n.2).val (by rw [star_cons h2, star_cons h3]; rfl) (star_cons h3), fun _ => rfl⟩
    · cases h
  | .enum _, W, sc, L, X, g, E, h, n, tg => by unfold chkI at h; cases h
  | .zip _ _, W, sc, L, X, g, E, h, n, tg => by unfold chkI at h; cases h
end
end
end Eng

namespace Eng
open PySem PySem.Spec L2
open PyProof.Rows hiding St

def CE.isComp : CE → Bool
  | .comp _ _ _ _ _ => true
  | _ => false
/-- the two values of x, y = a, b are stored the other way round -/
def parC (sc : Scope) (x y : Str) (px py : Pos) (a b : Expr) : Bool := decide (sc.kind = .function) && decide (sc.names.lookup x = some .local) && decide (sc.names.lookup y = some .local) && (py.line == px.line) && !(x == y) && !isStar a && !isStar b &&
  !([a, b].all (foldedForSure 8)) && !([a, b].all (constantsAlone 8))
mutual
def chkS (sc : Scope) (N L : List Str) : CS → Stmt → Bool
  | .expr e, st => match st with
    | .Expr E _ => noComp E && chk sc N L e E
    | _ => false
  | .asg tg e, st => match tg with
    | .nm i => (match st with
      | .Assign [.Name x px] E pos => asgC sc N L i x && chk sc N L e E && (noComp E || (e.isComp && decide (sc.kind = .function)))
      | _ => false)
    | .tup l => (match st with
      | .Assign [T] E _ => chkT sc N L (.tup l) T && chk sc N L e E && noComp E && !isTupE E
      | _ => false)
    | _ => false
  | .par i j a b, st => match st with
    | .Assign [.Tuple [.Name x px, .Name y py] _ _] (.Tuple [A, B] _ _) _ => decide (N[i]? = some x) && decide (N[j]? = some y) && !(i == j) && parC sc x y px py A B && chk sc N L a A && chk sc N L b B
    | _ => false
  | .setix i ix e, st => match st with
    | .Assign [.Subscript (.Name x _) I _] E _ => varC sc N i x && !isSliceE I && noComp E && chk sc N L e E && chk sc N L ix I
    | _ => false
  | .setf i f c e, st => match st with
    | .Assign [.Attribute (.Name x _) f' _] E _ => varC sc N i x && decide (f = f') && noComp E && chk sc N L e E
    | _ => false
  | .ifs c a b, st => match st with
    | .If C A B _ => chk sc N L c C && chkB sc N L a A && chkB sc N L b B
    | _ => false
  | .for_ tg it b, st => match st with
    | .For T I B [] _ => chkT sc N L tg T && chkI sc N L it I && chkB sc N L b B
    | _ => false
  | .whl fuel c b, st => match st with
    | .While C B [] _ => chk sc N L c C && chkB sc N L b B
    | _ => false
  | .ret e, st => match st with
    | .Return (some E) _ => chk sc N L e E
    | _ => false
  | .retn, st => match st with
    | .Return none _ => true
    | _ => false
  | .pass, st => match st with
    | .Pass _ => true
    | _ => false
  | .brk, st => match st with
    | .Break _ => true
    | _ => false
  | .cnt, st => match st with
    | .Continue _ => true
    | _ => false
  | .never, _ => true
def chkB (sc : Scope) (N L : List Str) : CB → List Stmt → Bool
  | .nil, [] => true
  | .cons s b, st :: r => chkS sc N L s st && chkB sc N L b r
  | _, _ => false
end
mutual
def needS (w : Wants) : CS → Prop
  | .expr e => needE w e
  | .asg _ e => needE w e
  | .par _ _ a b => needE w a ∧ needE w b
  | .setix _ ix e => needE w ix ∧ needE w e
  | .setf _ f c e => w.fld c f ∧ needE w e
  | .ifs c a b => needE w c ∧ needB w a ∧ needB w b
  | .for_ _ it b => needI w it ∧ needB w b
  | .whl _ c b => needE w c ∧ needB w b
  | .ret e => needE w e
  | .retn => True
  | .pass => True
  | .brk => True
  | .cnt => True
  | .never => True
def needB (w : Wants) : CB → Prop
  | .nil => True
  | .cons s b => needS w s ∧ needB w b
end
section
variable {G : Gs} {W : WX} {k : Nat} {w : Wants} {sc : Scope} {N L : List Str} {X : Cx}
theorem comp_ok {elt : CE} {tg : Tg} {it : CI} {ifs : CL} {own : List Nat} (g : Gd G W k w sc N L X) {E : Expr} (h : chk sc N L (.comp elt tg it ifs own) E = true) (n : needE w (.comp elt tg it ifs own)) : CompOk G W X (evc elt).val tg (evi it) ((evl ifs).tn true) own N E := by
  unfold chk at h; split at h
  · rename_i e' tgE iter ifsE z scope pos
    simp only [decide_eq_true_eq, Bool.and_eq_true] at h
    obtain ⟨⟨⟨⟨⟨⟨⟨⟨rfl, h1⟩, h2⟩, h3⟩, h4⟩, h5⟩, h6⟩, h7⟩, h8⟩ := h
    refine ⟨e', tgE, iter, ifsE, scope, pos, rfl, (chkI_ok it g h1 n.1 tgE).1, ?_, fun j hj => ?_, fun s H C cl fp => chkT_ok g.inner h3, fun s H C cl fp => (chkL_ok ifs g.inner h7 n.2.1).pts h5, fun s H C cl fp => (chk_ok elt g.inner h8 n.2.2).val, (chkI_ok it g h1 n.1 tgE).2⟩
    · rw [g.eN, g.esc]; exact blkOk_by h2
    · exact List.elem_iff.mp (List.all_eq_true.mp h4 j hj)
  · cases h
theorem sw_comp {elt : Expr} {gs : List Comprehension} {scope : Scope} {pos py : Pos} {y : Str} {l : Nat} {env : Env} (hk : env.scope.kind = .function) :
    swapsWith (.ListComp elt gs scope pos) (some (.Name y py)) l env = pure (env.kindOf y == some .local && py.line == pos.line && !(scope.names.any fun (n, k) => n == y && (k == .local || k == .cell))) := by
  have hb : env.blockKind = .function := by unfold Env.blockKind; rw [hk]; rfl
  unfold swapsWith
  simp only [hb, Expr.pos]
  rfl
theorem b_setLc {elt : KE} {tg : Tg} {it : SS → R (List D × Option Nat)} {ifs : KT} {own : List Nat} {E : Expr} {i : Nat} {y : Str} {py spos : Pos} (hc : X.calm = true) (hN : X.N.Nodup) (h : CompOk G W X elt tg it ifs own N E) (hy : X.N[i]? = some y) (hyl : X.env.scope.names.lookup y = some .local)
    (hsw : swapsWith E (some (.Name y py)) spos.line X.env = pure true) : PS X (.Assign [.Name y py] E spos) (tS G W fun S => (kComp elt tg it ifs own S).toF fun r S1 => asgV (.nm i) r S1) := by
  obtain ⟨e', tgE, iter, ifsE, scope, pos, rfl, h1, h2, h3, h4, h5, h6, h7⟩ := h.ex
  exact PS_imp (ps_setLc hc hN hy hyl hsw h1 h2 h4 h5 h6 h7) fun D σ H q => by
    have q := tri_set q
    rw [ownP_snd]
    exact tri_comp h3 q
theorem any2 {a b : Expr} {f : Expr → Bool} (ha : isStar a = false) (hb : isStar b = false) (hf : ∀ e, isStar e = false → f e = false) : [a, b].any f = false := by
  simp [hf a ha, hf b hb]
theorem fm2 {α β : Type} {a b : α} {x y : β} {f : α → Option β} (ha : f a = some x) (hb : f b = some y) : [a, b].filterMap f = [x, y] := by
  simp [ha, hb]
theorem par_sw {x y : Str} {px py pt pt2 : Pos} {kt k2 : Nat} {a b : Expr} {env : Env} (h : parC env.scope x y px py a b = true) : swappedStores [.Tuple [.Name x px, .Name y py] kt pt] (.Tuple [a, b] k2 pt2) env = pure (some [x, y]) ∧ env.scope.names.lookup x = some .local ∧ env.scope.names.lookup y = some .local := by
  unfold parC at h
  simp only [Bool.and_eq_true, decide_eq_true_eq, Bool.not_eq_true'] at h
  obtain ⟨⟨⟨⟨⟨⟨⟨⟨h1, h2⟩, h3⟩, h4⟩, h5⟩, h6⟩, h7⟩, h8⟩, h9⟩ := h
  refine ⟨?_, h2, h3⟩
  have hb : env.blockKind = .function := by unfold Env.blockKind; rw [h1]; rfl
  have kx : env.kindOf x = some .local := h2
  have ky : env.kindOf y = some .local := h3
  have nd : (y == x) = false := by
    cases e : (y == x) with
    | false => rfl
    | true => rw [eq_of_beq e] at h5; rw [beq_self_eq_true] at h5; cases h5
  unfold swappedStores
  dsimp only
  generalize hn : List.filterMap _ [Expr.Name x px, Expr.Name y py] = names
  have en : names = [x, y] := by
    rw [← hn]
    refine fm2 ?_ ?_
    · show (if (env.kindOf x == some .local && px.line == px.line) = true then some x else none) = some x
      rw [kx]; simp
    · show (if (env.kindOf y == some .local && py.line == px.line) = true then some y else none) = some y
      rw [ky, h4]; simp
  rw [any2 h6 h7 (fun e he => by cases e <;> first | rfl | cases he), h8, h9, hb, en]
  have ed : [x, y].eraseDups = [x, y] := by
    simp [List.eraseDups, List.eraseDupsBy, List.eraseDupsBy.loop, nd]
  rw [ed]
  rfl
theorem swap_tup {T E : Expr} {env : Env} (h : isTupE E = false) : swappedStores [T] E env = pure none := by
  cases E <;> first | (cases h) | skip
  all_goals (cases T <;> rfl)
mutual
theorem chkS_ok : ∀ (s : CS) (g : Gd G W k w sc N L X) {st : Stmt}, chkS sc N L s st = true → needS w s → PS X st (tS G W (exs s))
  | .expr e, g, st, h, n => by
    unfold chkS at h; split at h
    · simp only [Bool.and_eq_true] at h
      exact b_expr (chk_ok e g h.2 n).val (sw_no h.1)
    · cases h
  | .asg tg e, g, st, h, n => by
    unfold chkS at h; split at h
    · rename_i i
      split at h
      · rename_i x px E pos
        simp only [Bool.and_eq_true, Bool.or_eq_true, decide_eq_true_eq] at h
        obtain ⟨⟨h1, h2⟩, h3⟩ := h
        obtain ⟨q1, q2, q3⟩ := g.asg h1
        cases hnc : noComp E with
        | true => exact b_set (g.eN ▸ g.nd) q1 q2 (chk_ok e g h2 n).val (sw_no hnc) q3
        | false =>
          obtain ⟨hc, hk⟩ := h3.resolve_left (by rw [hnc]; simp)
          cases e <;> first | (cases hc) | skip
          rename_i elt tg' it ifs own
          have co := comp_ok g h2 n
          obtain ⟨e', tgE, iter, ifsE, scope, pos', rfl, _⟩ := co.ex
          have hk' : X.env.scope.kind = .function := by rw [g.esc]; exact hk
          have sw := sw_comp (elt := e') (gs := [⟨tgE, iter, ifsE, 0⟩]) (scope := scope) (pos := pos') (py := px) (y := x) (l := pos.line) (env := X.env) hk'
          cases hb : (X.env.kindOf x == some .local && px.line == pos'.line && !(scope.names.any fun (n, k) => n == x && (k == .local || k == .cell))) with
          | true =>
            rw [hb] at sw
            simp only [Bool.and_eq_true] at hb
            exact b_setLc g.calm (g.eN ▸ g.nd) co q1 (eq_of_beq hb.1.1) sw
          | false =>
            rw [hb] at sw
            exact b_set (g.eN ▸ g.nd) q1 q2 (chk_ok _ g h2 n).val sw q3
      · cases h
    · rename_i l
      split at h
      · rename_i T E pos
        simp only [Bool.not_eq_true', Bool.and_eq_true] at h
        obtain ⟨⟨⟨h1, h2⟩, h3⟩, h4⟩ := h
        refine b_asgT (chk_ok e g h2 n).val (chkT_ok g h1) (sw_no h3) (swap_tup h4) ?_
        cases T <;> first | rfl | (cases h1)
      · cases h
    · cases h
  | .par i j a b, g, st, h, n => by
    unfold chkS at h; split at h
    · rename_i x px y py kt pt A B k2 pt2 pos
      simp only [Bool.and_eq_true, decide_eq_true_eq, Bool.not_eq_true'] at h
      obtain ⟨⟨⟨⟨⟨h1, h2⟩, h3⟩, h4⟩, h5⟩, h6⟩ := h
      rw [← g.esc] at h4
      obtain ⟨s1, s2, s3⟩ := par_sw (pt := pt) (pt2 := pt2) (kt := kt) (k2 := k2) h4
      have hs : isStar A = false ∧ isStar B = false := by
        unfold parC at h4
        simp only [Bool.and_eq_true, decide_eq_true_eq, Bool.not_eq_true'] at h4
        exact ⟨h4.1.1.1.2, h4.1.1.2⟩
      exact b_par g.calm (g.eN ▸ g.nd) (g.eN ▸ h1) (g.eN ▸ h2) (fun z => by rw [z] at h3; simp at h3) s2 s3 (chk_ok a g h5 n.1).val (chk_ok b g h6 n.2).val (star_cons hs.1) (star_cons hs.2) s1 rfl
    · cases h
  | .setix i ix e, g, st, h, n => by
    unfold chkS at h; split at h
    · rename_i x xp I ap E pos
      simp only [Bool.not_eq_true', Bool.and_eq_true] at h
      obtain ⟨⟨⟨⟨h1, h2⟩, h3⟩, h4⟩, h5⟩ := h
      obtain ⟨q1, q2, q3, q4⟩ := g.var h1
      refine b_setix q1 q2 q3 q4 (chk_ok e g h4 n.2).val (chk_ok ix g h5 n.1).val (show swapsWith E (some (.Subscript (.Name x xp) I ap)) pos.line X.env = pure false from sw_no h3) ?_ rfl fun v => ?_
      · cases E <;> rfl
      · cases I <;> first | rfl | (cases h2)
    · cases h
  | .setf i f c e, g, st, h, n => by
    unfold chkS at h; split at h
    · simp only [decide_eq_true_eq, Bool.and_eq_true] at h
      obtain ⟨⟨⟨h1, rfl⟩, h3⟩, h4⟩ := h
      obtain ⟨q1, q2, q3, q4⟩ := g.var h1
      obtain ⟨c1, c2⟩ := g.fld c f n.1
      exact b_setf q1 q2 q3 q4 (chk_ok e g h4 n.2).val c1 c2 (sw_no h3)
    · cases h
  | .ifs c a b, g, st, h, n => by
    unfold chkS at h; split at h
    · simp only [Bool.and_eq_true] at h
      exact b_if (chk_ok c g h.1.1 n.1).tst (chkB_ok a g h.1.2 n.2.1) (chkB_ok b g h.2 n.2.2)
    · cases h
  | .for_ tg it b, g, st, h, n => by
    unfold chkS at h; split at h
    · simp only [Bool.and_eq_true] at h
      have hi := chkI_ok it g h.1.2 n.1
      exact b_for g.own g.calm (hi _).1 (chkT_ok g h.1.1) (chkB_ok b g h.2 n.2) (hi (.Tuple [] 0 ⟨0, 0, 0, 0⟩)).2
    · cases h
  | .whl fuel c b, g, st, h, n => by
    unfold chkS at h; split at h
    · simp only [Bool.and_eq_true] at h
      exact b_whl g.own (chk_ok c g h.1 n.1).tst (chkB_ok b g h.2 n.2)
    · cases h
  | .ret e, g, st, h, n => by
    unfold chkS at h; split at h
    · exact b_ret (chk_ok e g h n).val
    · cases h
  | .retn, g, st, h, n => by
    unfold chkS at h; split at h
    · exact b_retn
    · cases h
  | .pass, g, st, h, n => by
    unfold chkS at h; split at h
    · exact b_pass
    · cases h
  | .brk, g, st, h, n => by
    unfold chkS at h; split at h
    · exact b_brk
    · cases h
  | .cnt, g, st, h, n => by
    unfold chkS at h; split at h
    · exact b_cnt
    · cases h
  | .never, g, st, h, n => b_never
theorem chkB_ok : ∀ (b : CB) (g : Gd G W k w sc N L X) {sts : List Stmt}, chkB sc N L b sts = true → needB w b → PSs X sts (tS G W (exb b))
  | .nil, g, [], h, n => b_nil
  | .cons s b, g, st :: r, h, n => by
    have h : (chkS sc N L s st && chkB sc N L b r) = true := by unfold chkB at h; exact h
    rw [Bool.and_eq_true] at h
    exact b_cons (chkS_ok s g h.1 n.1) (chkB_ok b g h.2 n.2)
  | .nil, g, _ :: _, h, n => by unfold chkB at h; cases h
  | .cons _ _, g, [], h, n => by unfold chkB at h; cases h
end
end
end Eng

namespace Eng
open PySem PySem.Spec L2
open PyProof.Rows hiding St

/-- a def that may be called by its name -/
def FnAt (P : Program) (w : World) (K : PySem.W.Frag) (mg : Str → Option Value) (base : Heap) (k : Nat) (G : Gs) (x : Str) (sg : FSig) : Prop :=
  ∃ f fd ps, FnG P w K mg base k f fd ps (spG G sg) ∧ mg x = some (.ref f) ∧ PySem.W.keepIn K (.ref f) = true ∧ Binds K fd ps []
theorem FnAt.mono {P : Program} {w : World} {K : PySem.W.Frag} {mg : Str → Option Value} {base : Heap} {j k : Nat} {G : Gs} {x : Str} {sg : FSig} (F : FnAt P w K mg base j G x sg) (h : j ≤ k) : FnAt P w K mg base k G x sg :=
  let ⟨f, fd, ps, a, b⟩ := F; ⟨f, fd, ps, a.mono h, b⟩
def wants (P : Program) (w : World) (K : PySem.W.Frag) (mg : Str → Option Value) (base : Heap) (k : Nat) (G : Gs) : Wants where
  call := FnAt P w K mg base k G
  callk := fun x ps sg n ks => ∃ f fd, FnG P w K mg base k f fd ps (spG G sg) ∧ mg x = some (.ref f) ∧ PySem.W.keepIn K (.ref f) = true ∧ BindsK fd ps ks n
  glob := fun x d => ∃ u v, mg x = some u ∧ RelV v u ∧ ∀ Av H, Rep G Av H d v
  fld := fun c f => Cls K (G.c c) ∧ NoAttr K (G.c c) f
theorem fnG_mk {P : Program} {w : World} {K : PySem.W.Frag} {mg : Str → Option Value} {base : Heap} {k : Nat} {G : Gs} {f : Addr} {name qual : Str} {args : Arguments} {body : List Stmt} {scope : Scope} {dV kV doc pm cdv ct oc : Value} {an od : Option Addr} {osl : Array (Option Value)} {N ps : List Str} {ms : List Bool} {b : CB}
    (hK : K = G.K) (lk : K.lookup f = some ⟨oc, od, .func (PySem.W.fnOf name qual args body scope dV kV doc pm an cdv ct), osl⟩) (hcd : PySem.W.codeIn K cdv qual = true)
    (hmg : ∀ x ∈ bnames, mg x = none) (hsc : C8.scC N ps scope = true) (hms : ms.length = ps.length) (hchk : chkB scope N (cellsOf scope) b body = true) (hneed : needB (wants P w K mg base k G) b) :
    FnG P w K mg base (k + 1) f (PySem.W.fnOf name qual args body scope dV kV doc pm an cdv ct) ps (spG G ⟨ms, runS N.length ms (exb b)⟩) := by
  have S := C8.fnScope_by hsc
  refine fnG_of lk hcd S (fun vs H Q E h => (spG_len h).trans hms) fun A outer s H vs Q E hgd hr hsp => ?_
  have g : Gd G (fun cls d _ H => E cls d H) k (wants P w K mg base k G) scope N (cellsOf scope) (cxOf (L2.CX P w) P w K mg base N qual scope f cdv A outer s H E) :=
    ⟨rfl, rfl, S.nd, rfl, hK, hr, hgd, takes_of rfl rfl rfl rfl, passes_of rfl, fun _ _ => rfl, hmg, fun x sg h => h, fun x ps sg n ks h => h, fun x d h => h, fun c f h => h⟩
  have hpl : ps.length ≤ N.length := by have := congrArg List.length S.pre; rw [List.length_take] at this; omega
  exact body_G (by rw [spG_len hsp]; show ms.length ≤ N.length; omega) (chkB_ok b g hchk hneed) hsp

/-! ### the law's end -/
theorem reps_ints {G : Gs} {Av : Addr → Prop} {H : Hp} : ∀ ns : List Int, Reps G Av H (ns.map Eng.D.int) (ns.map V.int)
  | [] => rfl
  | n :: ns => ⟨.int n, ns.map V.int, rfl, rfl, reps_ints ns⟩
theorem law_sp {G : Gs} {K : PySem.W.Frag} (hK : K = G.K) {sg : FSig} {H : Hp} {a : Addr} {ns : List Int} {outs : List D} (hm : sg.md = [false]) (h : sg.m [.scr (ns.map Eng.D.int)] = .ok false (.bl true) outs) (hS : SqL K H a (ns.map V.int)) :
    spG G sg [.ref a] H (fun v _ => v = .bl true) fun _ _ _ => False := by
  refine ⟨fun _ => False, [.scr (ns.map Eng.D.int)], fun _ z => z.elim, ?_, fun i j v h1 => ?_, ?_⟩
  · rw [hm]
    refine ⟨.ref a, [], rfl, ?_, rfl⟩
    show Rep G _ H (.scr _) (.ref a)
    refine ⟨a, ns.map V.int, rfl, ?_, reps_ints ns⟩
    rcases hS with hS | hS
    · exact .inl ⟨fun z => z, hS⟩
    · exact .inr (hK ▸ hS)
  · rw [hm] at h1
    cases i with
    | zero => cases h1
    | succ i => simp at h1
  · rw [h]
    exact fun Av' v H' _ r => r
/-- ahead of the call: at most the script is told; what lies below is the heap without it -/
structure Eve (P : Program) (w : World) (K : PySem.W.Frag) (mg mb : Str → Option Value) (s : Shared) (a : Addr) (vs : List Value) (H : Hp) : Prop where
  kin : K.In s.heap
  glob : s.heap.Ns mainGlobals mg
  blt : s.heap.Ns builtinsNs mb
  boot : ∀ x : Str, x ≠ "__name__" → mb x = bootBuiltins x
  free : s.heap.NoLimit
  gens : s.gens = #[]
  scr : s.heap.get? a = some { cls := .type "list", data := .seq vs.toArray }
  told : HOk P w H s.heap
  lone : ∀ c, H c ≠ none → c = a
  own : H a ≠ none → K.lookup a = none
section
variable {P : Program} {w : World} {K : PySem.W.Frag} {mg mb : Str → Option Value} {s : Shared} {a : Addr} {vs : List Value} {H : Hp}
theorem Eve.untold (E : Eve P w K mg mb s a vs H) {c : Addr} (n : c ≠ a) : H c = none := Classical.byContradiction fun z => n (E.lone c z)
theorem Eve.dictless (E : Eve P w K mg mb s a vs H) {c : Addr} {o : Obj} {es : Array DictEntry} {ep : Nat} (e : s.heap.get? c = some o) (d : o.data = .dict es ep) : c ≠ a := by
  rintro rfl
  cases E.scr.symm.trans e
  exact Data.noConfusion d
theorem Eve.ns (E : Eve P w K mg mb s a vs H) {c : Addr} {m : Str → Option Value} (N : s.heap.Ns c m) : (hidT s.heap H).Ns c m :=
  let ⟨o, es, ep, e, d, r⟩ := N
  ⟨o, es, ep, hidT_get e (E.untold (E.dictless e d)), d, r⟩
theorem Eve.kinB (E : Eve P w K mg mb s a vs H) : K.In (hidT s.heap H) := by
  intro c o e
  refine hidT_get (E.kin c o e) ?_
  by_cases n : c = a
  · subst n
    exact Classical.byContradiction fun z => by have := E.own z; rw [this] at e; cases e
  · exact E.untold n
theorem Eve.env (E : Eve P w K mg mb s a vs H) : Env0 P w K mg (hidT s.heap H) callerA [] s H where
  frames := rfl
  mod := ⟨E.kinB, E.ns E.glob, ⟨mb, E.ns E.blt, E.boot⟩, let ⟨m, h1, h2⟩ := E.free; ⟨m, E.ns h1, h2⟩⟩
  bs := fun _ _ e => of_hidT e
  bsz := by rw [hidT_size]; exact Nat.le_refl _
  funs := trivial
  frf := fun c z => by cases z
  hok := E.told
  bare := .of_eq E.gens
/-- the def is called -/
theorem Eve.runs (E : Eve P w K mg mb s a vs H) {k : Nat} {fa : Addr} {fd : FuncData} {x : Str} {sp : Sp} (hgd : callerA.guards = some []) (hr : Room k callerA)
    (F : FnG P w K mg (hidT s.heap H) k fa fd [x] sp) (hbind : ∀ (s : Shared) (u : Value), BindsTo s fd ⟨[u], []⟩ [(x, u)]) (hO : L2.Only H) (want : sp [.ref a] H (fun v _ => v = .bl true) fun _ _ _ => False)
    (hCX : ∀ e s', L2.CX P w [] H s (fun _ _ _ => False) e s' → False) :
    codeAny (model P w) callerA (.call (.ref fa) ⟨[.ref a], []⟩) (fun r s' => r = .ok (.ret (.bool true)) ∧ OldK s.heap s'.heap ∧ s'.os = s.os ∧ AllBare s'.gens) s := by
  refine codeAny_mono (F.run _ _ _ _ _ [.ref a] [.ref a] _ _ hgd hr E.env (hbind s (.ref a)) (.cons rfl .nil) want) ?_
  intro r s' z
  match r, z with
  | .error e, z => exact absurd z fun y => hCX e s' y
  | .ok .next, z => exact z.elim
  | .ok .brk, z => exact z.elim
  | .ok .cont, z => exact z.elim
  | .ok (.ret u), ⟨v, H', os, bare, un, told, rel, post⟩ =>
    cases (show v = .bl true from post)
    cases (show u = Value.bool true from rel)
    refine ⟨rfl, .of_keep ?_, os, bare⟩
    intro c o e
    cases q : H c with
    | none => exact un.keep c o e q (fun y => by cases y) (fun y => by cases y)
    | some y =>
      obtain ⟨ob, xs, y'⟩ := (hO c).resolve_left (by rw [q]; simp)
      have before := (E.told c _ y').1
      have behind := (told c _ (un.frzs c ob _ y')).1
      rw [e] at before
      cases before
      exact behind
end
theorem law_callG {P : Program} {w : World} {K : PySem.W.Frag} {mg mb : Str → Option Value} {k : Nat} {fa a : Addr} {fd : FuncData} {x : Str} {sp : Sp} {s : Shared} {vs : List Value} {ns : List Int}
    (E : ∀ H, HOk P w H s.heap → (∀ c, H c ≠ none → c = a) → (H a ≠ none → K.lookup a = none) → Eve P w K mg mb s a vs H) (hi : IntsAre vs ns) (hl : ns.length ≤ sizeLine) (hgd : callerA.guards = some []) (hr : Room k callerA)
    (F : ∀ base : Heap, K.In base → base.Ns mainGlobals mg → FnG P w K mg base k fa fd [x] sp) (hbind : ∀ (s : Shared) (u : Value), BindsTo s fd ⟨[u], []⟩ [(x, u)])
    (hsp : ∀ H : Hp, L2.Only H → SqL K H a (ns.map V.int) → sp [.ref a] H (fun v _ => v = .bl true) fun _ _ _ => False)
    (hCX : ∀ H e s', L2.CX P w [] H s (fun _ _ _ => False) e s' → False) :
    codeAny (model P w) callerA (.call (.ref fa) ⟨[.ref a], []⟩) (fun r s' => r = .ok (.ret (.bool true)) ∧ OldK s.heap s'.heap ∧ s'.os = s.os ∧ AllBare s'.gens) s := by
  have go : ∀ H, L2.Only H → SqL K H a (ns.map V.int) → HOk P w H s.heap → (∀ c, H c ≠ none → c = a) → (H a ≠ none → K.lookup a = none) → _ := fun H hO hS t l o =>
    Eve.runs (E H t l o) hgd hr (F _ (E H t l o).kinB ((E H t l o).ns (E H t l o).glob)) hbind hO (hsp H hO hS) (hCX H)
  have E0 := E (fun _ => none) (fun _ _ z => by cases z) (fun _ z => absurd rfl z) (fun z => absurd rfl z)
  have rv := vals_ints hi
  by_cases hk : K.lookup a = none
  · -- the script is an object of the caller's
    let H : Hp := fun c => if c = a then some (.frz { cls := .type "list", data := .seq vs.toArray } (.lst (ns.map V.int))) else none
    have at_a : H a = some (.frz { cls := .type "list", data := .seq vs.toArray } (.lst (ns.map V.int))) := if_pos rfl
    have off : ∀ c, c ≠ a → H c = none := fun c n => if_neg n
    have lone : ∀ c, H c ≠ none → c = a := fun c z => Classical.byContradiction fun n => z (off c n)
    refine go H (fun c => ?_) (.inl (.inr ⟨_, at_a⟩)) (fun c u e => ?_) lone fun _ => hk
    · by_cases n : c = a
      · exact .inr ⟨_, _, n ▸ at_a⟩
      · exact .inl (off c n)
    · obtain rfl := lone c (by rw [e]; simp)
      cases at_a.symm.trans e
      exact ⟨E0.scr, by simpa using hl, vs, _, rv, E0.scr⟩
  · -- .. or of the module's
    obtain ⟨o, ho⟩ := Option.ne_none_iff_exists'.mp hk
    cases E0.scr.symm.trans (E0.kin a o ho)
    refine go (fun _ => none) (fun _ => .inl rfl) (.inr ⟨_, vs.toArray, _, ho, rfl, rfl, rfl, ?_, by simpa using rv⟩) (fun _ _ z => by cases z) (fun _ z => absurd rfl z) fun z => absurd rfl z
    simp only [List.size_toArray, hi.length]
    exact hl
theorem noCX {P : Program} {w : World} {H : Hp} {s : Shared} {e : Value} {s' : Shared} (h : L2.CX P w [] H s (fun _ _ _ => False) e s') : False := by
  obtain ⟨_, _, _, _, _, _, _, _, _, _, _, _, z⟩ := h
  exact z
theorem walkG {l : PySem.W.OpenLaw} {n k : Nat} {q : Program} {loose : List Str} {XP : (Str → Option Value) → Heap → Prop} {YP : World → Heap → Prop} {d : DefRec} {K : Params → PySem.W.Frag} {x : Str} {c : World → Nat → Addr} {sg : FSig}
    (hn : l.most = some n) (hn2 : n ≤ sizeLine) (hdf : d.params.defaults = []) (hgd : callerA.guards = some []) (hr : Room k callerA)
    (hY : ∀ (w : World) (h : Heap), YP w h → (K w.params).In h) (hm : sg.md = [false])
    (F : ∀ (w : World) (mg : Str → Option Value) (fa : Addr) (h : Heap), (K w.params).In h → h.Ns mainGlobals mg → mg d.name = some (.ref fa) →
      ∃ fd : FuncData, (∀ (s : Shared) (u : Value), BindsTo s fd ⟨[u], []⟩ [(x, u)]) ∧
        ∀ base : Heap, (K w.params).In base → base.Ns mainGlobals mg → FnG l.prog w (K w.params) mg base k fa fd [x] (spG ⟨K w.params, c w⟩ sg))
    (hlaw : ∀ ns : List Int, ns.length ≤ n → ∃ outs, sg.m [.scr (ns.map Eng.D.int)] = .ok false (.bl true) outs) :
    PySem.W.WalkO q loose XP YP l.row.toRowW d [] (fun f vs => PySem.call f vs) := by
  apply Att.attach_call hn hdf
  intro w _ s' mg mb fa _ _ _ _ a vs ns top see _ _ _ name script whole len gens
  have kin := hY w _ see
  obtain ⟨fd, binds, def_⟩ := F w mg fa _ kin top.T.g name
  obtain ⟨outs, run⟩ := hlaw ns len
  exact law_callG (fun H t l o => ⟨kin, top.T.g, top.T.b, top.T.builtins, top.T.nolimit, gens, script, t, l, o⟩) whole (Nat.le_trans len hn2) hgd hr def_ binds (fun H _ seq => law_sp (G := ⟨K w.params, c w⟩) rfl hm run seq) fun H e s' => noCX
end Eng

namespace Eng
open PySem PySem.Spec
open PyProof.Rows hiding St
/-! ### to compute by rewriting: every rule acts at a given state only -/
def frO (o : Option SV) : Bool := match o with
  | some .no => true
  | some (.sh _) => true
  | some (.ow _) => true
  | _ => false
namespace Q
section
variable {α β : Type} {a : α} {S : SS} {f : α → SS → R β} {g : α → SS → F} {h : SS → F} {d e x : D} {p q o : KE} {t u v : KT} {i j : Nat} {b : Bool} {ro : RO} {rv : RV}
theorem b_ok : R.bind (.ok a S) f = f a S := rfl
theorem b_ex : R.bind (.exc d S : R α) f = .exc d S := rfl
theorem b_bd : R.bind (.bad : R α) f = .bad := rfl
theorem t_ok : R.toF (.ok a S) g = g a S := rfl
theorem t_ex : R.toF (.exc d S : R α) g = .exc d S := rfl
theorem t_bd : R.toF (.bad : R α) g = .bad := rfl
theorem s_nx : F.seq (.nx S) h = h S := rfl
theorem s_rt : F.seq (.rt b d S) h = .rt b d S := rfl
theorem s_bk : F.seq (.bk S) h = .bk S := rfl
theorem s_ct : F.seq (.ct S) h = .ct S := rfl
theorem s_ex : F.seq (.exc d S) h = .exc d S := rfl
theorem s_bd : F.seq .bad h = .bad := rfl
theorem p_sm : prim (some ro) S = .ok ro.rv S := rfl
theorem p_no : prim none S = .bad := rfl
theorem r_sh : RO.rv (.sh d) = .sh d := rfl
theorem r_l {ds : List D} : RO.rv (.nw (.lst ds)) = .fr (.lst ds) := rfl
theorem r_t {ds : List D} : RO.rv (.nw (.tup ds)) = .sh (.tup ds) := rfl
theorem r_d {ks vs : List D} : RO.rv (.nw (.dic ks vs)) = .fr (.dic ks vs) := rfl
theorem w_sh : RV.vw (.sh d) = .sh d := rfl
theorem w_fr : RV.vw (.fr d) = .sh d := rfl
theorem w_br : RV.vw (.br i) = .br i := rfl
theorem d_sh : deref S (.sh d) = some d := rfl
theorem d_fr : deref S (.fr d) = some d := rfl
theorem d_br : deref S (.br i) = (S[i]?).bind SV.dat := rfl
theorem a_sh : SV.dat (.sh d) = some d := rfl
theorem a_ow : SV.dat (.ow d) = some d := rfl
theorem a_io : SV.dat (.io d) = some d := rfl
theorem a_lk : SV.dat (.lk d) = some d := rfl
theorem m_ow : SV.mu (.ow d) = some d := rfl
theorem m_io : SV.mu (.io d) = some d := rfl
theorem m_sh : SV.mu (.sh d) = none := rfl
theorem h_sh : shr (.sh d) S = .ok d S := rfl
theorem h_fr : shr (.fr d) S = .ok d S := rfl
theorem h_br : shr (.br i) S = (match S[i]? with
  | some (.sh d) => .ok d S
  | some (.ow d) => .ok d (S.set i (.sh d))
  | _ => .bad) := rfl
theorem c_sh : cap (.sh d) S = .ok (.sh d) S := rfl
theorem c_fr : cap (.fr d) S = .ok (.fr d) S := rfl
theorem c_br : cap (.br i) S = (shr (.br i) S).bind fun d S1 => .ok (.sh d) S1 := rfl
theorem v_sh : RV.sv (.sh d) = .sh d := rfl
theorem v_fr : RV.sv (.fr d) = .ow d := rfl
theorem e_val : (mkp p).val = p := rfl
theorem e_tst : (mkp p).tst = kTest p := rfl
theorem e_io : (mkp p).io = none := rfl
theorem e_md {P : EP} : P.md b = kMd P.io P.val b := rfl
theorem kC' : kC d S = .ok (.sh d) S := rfl
theorem kV' : kVar i S = (match S[i]? with
  | some (.sh d) => .ok (.sh d) S
  | some s => if s.dat.isSome then .ok (.br i) S else .bad
  | none => .bad) := rfl
theorem kU' {f : D → Option RO} : kUn f p S = (p S).bind fun r S1 => prim ((deref S1 r.vw).bind f) S1 := rfl
theorem kB' {f : D → D → Option RO} : kBin f p q S = (p S).bind fun r S1 => (q S1).bind fun t S2 => prim ((deref S2 r.vw).bind fun d => (deref S2 t.vw).bind fun e => f d e) S2 := rfl
theorem kP0 {q : KE} : kPart true q S = .ok none S := rfl
theorem kP1 {q : KE} : kPart false q S = (q S).bind fun r S1 => match r with
  | .sh (.int i) => .ok (some i) S1
  | _ => .bad := rfl
theorem kS' {q o : SS → R (Option Int)} : kSlc p q o S = (p S).bind fun r S1 => (q S1).bind fun l S2 => (o S2).bind fun h S3 => prim ((deref S3 r.vw).bind (slcD l h)) S3 := rfl
theorem kT' : kTest p S = (p S).bind fun r S1 => match (deref S1 r.vw).bind truthD with
  | some b => .ok b S1
  | none => .bad := rfl
theorem kCh' {f g : D → D → Option RO} : kChain f g p q o S = (p S).bind fun r S1 => (q S1).bind fun t S2 =>
  match boolOf ((deref S2 r.vw).bind fun d => (deref S2 t.vw).bind fun e => f d e) with
  | some true => (o S2).bind fun u S3 => (match boolOf ((deref S3 t.vw).bind fun d => (deref S3 u.vw).bind fun e => g d e) with
    | some b => .ok b S3
    | none => .bad)
  | some false => .ok false S2
  | none => .bad := rfl
theorem bl_s : boolOf (some (.sh (.bl b))) = some b := rfl
theorem kVa : kVal t S = (t S).bind fun b S1 => .ok (.sh (.bl b)) S1 := rfl
theorem kN' : kNot t S = (t S).bind fun b S1 => .ok (!b) S1 := rfl
theorem kI' : kIf t p q S = (t S).bind fun b S1 => if b then p S1 else q S1 := rfl
theorem kIT : kIfT t u v S = (t S).bind fun b S1 => if b then u S1 else v S1 := rfl
theorem kAV : kAndV b p q S = (p S).bind fun r S1 => match (deref S1 r.vw).bind truthD with
  | some b' => if b' = b then q S1 else .ok r.vw S1
  | none => .bad := rfl
theorem kAT : kAndT b t u S = (t S).bind fun b' S1 => if b' = b then u S1 else .ok b' S1 := rfl
theorem kSh : kShr p S = (p S).bind shr := rfl
theorem kNl : (kNil S : R (List α)) = .ok [] S := rfl
theorem kCo {p : SS → R α} {q : SS → R (List α)} : kCons p q S = (p S).bind fun x S1 => (q S1).bind fun xs S2 => .ok (x :: xs) S2 := rfl
theorem kVw' : kVw p S = (p S).bind fun r S1 => .ok r.vw S1 := rfl
theorem kSt {q : SS → R (List D)} : kStar p q S = (p S).bind fun r S1 => match (deref S1 r.vw).bind seqOf with
  | some xs => (q S1).bind fun ys S2 => .ok (xs ++ ys) S2
  | none => .bad := rfl
theorem kTu {q : SS → R (List D)} : Eng.kTup q S = (q S).bind fun ds S1 => if ds.length ≤ sizeLine then .ok (.sh (.tup ds)) S1 else .bad := rfl
theorem kLs {q : SS → R (List D)} : kLst q S = (q S).bind fun ds S1 => if ds.length ≤ sizeLine then .ok (.fr (.lst ds)) S1 else .bad := rfl
theorem kBi' {f : List D → Option RO} {q : SS → R (List RV)} : kBi f q S = (q S).bind fun rs S1 => prim ((derefs S1 rs).bind f) S1 := rfl
theorem dr_n : derefs S [] = some [] := rfl
theorem dr_c {r : RV} {rs : List RV} : derefs S (r :: rs) = (deref S r).bind fun d => (derefs S rs).map fun ds => d :: ds := rfl
theorem kMm' {ty : D → Bool} {f : D → List D → Option (D × D)} {q : SS → R (List D)} : kMm ty f i q S = (match (S[i]?).bind SV.dat with
  | some d0 => if ty d0 then (q S).bind fun es S1 => (match (S1[i]?).bind SV.mu with
    | some d => (match f d es with
      | some (y, d') => (match setAt S1 i d' with
        | some S2 => .ok (.sh y) S2
        | none => .bad)
      | none => .bad)
    | none => .bad) else .bad
  | none => .bad) := rfl
theorem kMt : kMd (some i) p true S = (if ((S[i]?).bind SV.mu).isSome then .ok (.io i) S else .bad) := rfl
theorem kMf {io : Option Nat} : kMd io p false S = (kShr p S).bind fun d S1 => .ok (.sh d) S1 := rfl
theorem kCa {sg : FSig} {q : List Bool → SS → R (List AV)} : kCall sg q S = (q sg.md S).bind fun as S1 => callSem sg as S1 := rfl
theorem kCk {sg : FSig} {ps ks : List Str} {n : Nat} {q o : SS → R (List D)} : kCallk sg ps ks n q o S = (q S).bind fun ds S1 => (o S1).bind fun es S2 => if ds.length = n ∧ es.length = ks.length then callSem sg ((kwG ps ks ds es).map .sh) S2 else .bad := rfl
theorem cs {sg : FSig} {as : List AV} : callSem sg as S = (match avDs S as with
  | none => .bad
  | some ds => if (avIos as).Nodup ∧ as.map AV.isIo = sg.md then match sg.m ds with
    | .ok fr d outs => (match setIos S (avIos as) outs with
      | some S' => .ok (if fr then .fr d else .sh d) S'
      | none => .bad)
    | .exc e outs => (match setIos S (avIos as) outs with
      | some S' => .exc e S'
      | none => .bad)
    | .bad => .bad
    else .bad) := rfl
theorem av_n : avDs S [] = some [] := rfl
theorem av_s {as : List AV} : avDs S (.sh d :: as) = (avDs S as).map fun ds => d :: ds := rfl
theorem av_i {as : List AV} : avDs S (.io i :: as) = (match (S[i]?).bind SV.mu with
  | some d => (avDs S as).map fun ds => d :: ds
  | _ => none) := rfl
theorem ai_n : avIos [] = [] := rfl
theorem ai_s {as : List AV} : avIos (.sh d :: as) = avIos as := rfl
theorem ai_i {as : List AV} : avIos (.io i :: as) = i :: avIos as := rfl
theorem io_s : AV.isIo (.sh d) = false := rfl
theorem io_i : AV.isIo (.io i) = true := rfl
theorem st_n : setIos S [] [] = some S := rfl
theorem st_c {is : List Nat} {ds : List D} : setIos S (i :: is) (d :: ds) = (if MutD d then (setAt S i d).bind fun S' => setIos S' is ds else none) := rfl
theorem mu_l {ds : List D} : MutD (.lst ds) = true := rfl
theorem mu_d {ks vs : List D} : MutD (.dic ks vs) = true := rfl
theorem mu_o {c : Nat} {ns : List Str} {vs : List D} : MutD (.obj c ns vs) = true := rfl
theorem sa : setAt S i d = (match S[i]? with
  | some (.ow _) => some (S.set i (.ow d))
  | some (.io _) => some (S.set i (.io d))
  | _ => none) := rfl
theorem fa : freeAt S i = frO (S[i]?) := rfl
theorem f_no : frO (some .no) = true := rfl
theorem f_sh : frO (some (.sh d)) = true := rfl
theorem f_ow : frO (some (.ow d)) = true := rfl
theorem bv : bindV i rv S = (cap rv S).toF fun r S1 => if freeAt S1 i then .nx (S1.set i r.sv) else .bad := rfl
theorem ag_n : asgV (.nm i) rv S = bindV i rv S := rfl
theorem ag_t {l : Tg} : asgV (.tup l) rv S = (shr rv S).toF fun d S1 => match assign (.tup l) d S1 with
    | some S2 => .nx S2
    | none => .bad := rfl
theorem an : assign (.nm i) d S = (if freeAt S i then some (S.set i (.sh d)) else none) := rfl
theorem at_ {l : Tg} {ds : List D} : assign (.tup l) (.tup ds) S = assign.assigns l ds S := rfl
theorem as_n : assign.assigns .nil [] S = some S := rfl
theorem as_c {a b : Tg} {ds : List D} : assign.assigns (.cons a b) (d :: ds) S = (assign a d S).bind (assign.assigns b ds) := rfl
theorem pv {r t : RV} : parV i j r t S = (cap r S).toF fun r S1 => (cap t S1).toF fun t S2 => if freeAt S2 i && freeAt S2 j && i != j then .nx ((S2.set i r.sv).set j t.sv) else .bad := rfl
theorem rt_s : retV (.sh d) S = .rt false d S := rfl
theorem rt_f : retV (.fr d) S = .rt true d S := rfl
theorem rt_b : retV (.br i) S = (match S[i]? with
    | some (.ow d) => .rt true d (S.set i .no)
    | some (.sh d) => .rt false d S
    | _ => .bad) := rfl
theorem kIv : kItv p S = (p S).bind itemsOf := rfl
theorem kYs : kYes S = .ok true S := rfl
theorem os_n : outsS [] S = some [] := rfl
theorem os_t {ms : List Bool} : outsS (true :: ms) (.io d :: S) = (outsS ms S).map fun r => d :: r := rfl
theorem os_f {ms : List Bool} {s : SV} : outsS (false :: ms) (s :: S) = outsS ms S := rfl
theorem is_t {ms : List Bool} {ds : List D} : initS (true :: ms) (d :: ds) = .io d :: initS ms ds := rfl
theorem is_f {ms : List Bool} {ds : List D} : initS (false :: ms) (d :: ds) = .sh d :: initS ms ds := rfl
theorem is_n : initS [] [] = [] := rfl
theorem rs {n : Nat} {ms : List Bool} {b : SS → F} {ds : List D} : runS n ms b ds = if ms.length = ds.length then (match b (slotsOf n ms ds) with
    | .nx S => (match outsS ms S with
      | some o => .ok false .non o
      | none => .bad)
    | .rt fr d S => (match outsS ms S with
      | some o => .ok fr d o
      | none => .bad)
    | .exc e S => (match outsS ms S with
      | some o => .exc e o
      | none => .bad)
    | _ => .bad) else .bad := rfl
theorem so {n : Nat} {ms : List Bool} {ds : List D} : slotsOf n ms ds = initS ms ds ++ List.replicate (n - ds.length) .no := rfl
theorem l_int {i j : Int} : cmpD .Lt (.int i) (.int j) = some (.sh (.bl (decide (i < j)))) := rfl
theorem le_int {i j : Int} : cmpD .LtE (.int i) (.int j) = some (.sh (.bl (decide (i ≤ j)))) := rfl
theorem g_int {i j : Int} : cmpD .Gt (.int i) (.int j) = some (.sh (.bl (decide (j < i)))) := rfl
theorem ge_int {i j : Int} : cmpD .GtE (.int i) (.int j) = some (.sh (.bl (decide (j ≤ i)))) := rfl
theorem eq_d : cmpD .Eq d e = (eqD d e).map bo := rfl
theorem ne_d : cmpD .NotEq d e = (eqD d e).map fun b => bo (!b) := rfl
theorem is_non : cmpD .Is d .non = some (bo (Eng.isNon d)) := rfl
theorem bo' : bo b = .sh (.bl b) := rfl
theorem tr_b : truthD (.bl b) = some b := rfl
theorem tr_i {i : Int} : truthD (.int i) = some (i != 0) := rfl
theorem tr_l {ds : List D} : truthD (.lst ds) = some (!ds.isEmpty) := rfl
theorem ad_i {i j : Int} : binD .Add (.int i) (.int j) = some (.sh (.int (i + j))) := rfl
theorem sb_i {i j : Int} : binD .Sub (.int i) (.int j) = some (.sh (.int (i - j))) := rfl
theorem ml_i {i j : Int} : binD .Mult (.int i) (.int j) = if smallB i || smallB j then some (.sh (.int (i * j))) else none := rfl
theorem fd_i {i j : Int} : binD .FloorDiv (.int i) (.int j) = if decide (0 < j) && decide (j.natAbs.log2 < 9000) then some (.sh (.int (i / j))) else none := rfl
theorem md_i {i j : Int} : binD .Mod (.int i) (.int j) = if 0 < j then some (.sh (.int (i % j))) else none := rfl
theorem pw_i {i j : Int} : binD .Pow (.int i) (.int j) = if decide (0 ≤ j) && decide (j ≤ 1000000) && decide (i.natAbs < 2 ^ 64) then some (.sh (.int (i ^ j.toNat))) else none := rfl
theorem ad_l {xs ys : List D} : binD .Add (.lst xs) (.lst ys) = if xs.length + ys.length ≤ sizeLine then some (.nw (.lst (xs ++ ys))) else none := rfl
theorem su_l {ds : List D} {i : Int} : subD (.lst ds) (.int i) = (L2.atI ds i).map .sh := rfl
theorem su_t {ds : List D} {i : Int} : subD (.tup ds) (.int i) = (L2.atI ds i).map .sh := rfl
theorem bi1' {k : BI} : biD k [d] = bi1 k d := rfl
theorem i_i {i : Int} : bi1 .int (.int i) = some (.sh (.int i)) := rfl
theorem i_b : bi1 .int (.bl b) = some (.sh (.int (if b then 1 else 0))) := rfl
theorem ab_i {i : Int} : bi1 .abs (.int i) = some (.sh (.int (if i < 0 then -i else i))) := rfl
theorem le_l {ds : List D} : bi1 .len (.lst ds) = some (.sh (.int (ds.length : Nat))) := rfl
theorem le_t {ds : List D} : bi1 .len (.tup ds) = some (.sh (.int (ds.length : Nat))) := rfl
theorem li_l {ds : List D} : bi1 .list (.lst ds) = some (.nw (.lst ds)) := rfl
theorem tu_l {ds : List D} : bi1 .tuple (.lst ds) = some (.nw (.tup ds)) := rfl
theorem ng_i {i : Int} : negD (.int i) = some (.sh (.int (-i))) := rfl
theorem sx_l {ds : List D} {k : Int} : setixD (.lst ds) (.int k) e = (L2.ixN ds.length k).map fun n => .lst (ds.set n e) := rfl
theorem bm_s : (some a : Option α).bind (fun x => some x) = some a := rfl
end
end Q
end Eng

namespace Eng
open PySem PySem.Spec
open PyProof.Rows hiding St

/-! ### values that == and repr may see -/
def PD (n : Nat) (d : D) : Prop := ∃ p, toP d = some p ∧ p.canLay0 = true ∧ p.depth ≤ n
theorem PD.int {n : Nat} {i : Int} (h : 1 ≤ n) : PD n (.int i) := ⟨.int i, rfl, by simp [PyData.canLay0], by simp [PyData.depth]; try omega⟩
theorem PD.bl {n : Nat} {i : Bool} (h : 1 ≤ n) : PD n (.bl i) := ⟨.bool i, rfl, by simp [PyData.canLay0], by simp [PyData.depth]; try omega⟩
theorem PD.non {n : Nat} (h : 1 ≤ n) : PD n .non := ⟨.none, rfl, by simp [PyData.canLay0], by simp [PyData.depth]; try omega⟩
theorem PDs {n : Nat} : ∀ {ds : List D}, (∀ d ∈ ds, PD n d) → ∃ ps, toPs ds = some ps ∧ PyData.canLayAll0 ps = true ∧ PyData.depthAll ps ≤ n
  | [], _ => ⟨[], rfl, by simp [PyData.canLayAll0], by simp [PyData.depthAll]⟩
  | d :: ds, h => by
    obtain ⟨p, h1, h2, h3⟩ := h d (by simp)
    obtain ⟨ps, k1, k2, k3⟩ := PDs (ds := ds) fun e he => h e (by simp [he])
    refine ⟨p :: ps, by show (toP d).bind _ = _; rw [h1]; show (toPs ds).map _ = _; rw [k1]; rfl, by simp [PyData.canLayAll0, h2, k2], by simp [PyData.depthAll]; omega⟩
theorem PD.lst {n : Nat} {ds : List D} (h : ∀ d ∈ ds, PD n d) : PD (n + 1) (.lst ds) := by
  obtain ⟨ps, h1, h2, h3⟩ := PDs h
  exact ⟨.list ps, by show (toPs ds).map _ = _; rw [h1]; rfl, by simp [PyData.canLay0, h2], by simp [PyData.depth]; omega⟩
theorem eqD_of {n : Nat} {d e : D} (hn : n ≤ 64) (h : PD n d) (k : PD n e) : ∃ p q, toP d = some p ∧ toP e = some q ∧ eqD d e = some (PyData.eqv p q) := by
  obtain ⟨p, h1, h2, h3⟩ := h
  obtain ⟨q, k1, k2, k3⟩ := k
  refine ⟨p, q, h1, k1, ?_⟩
  unfold eqD
  rw [h1, k1]
  have a : SeqAt.shaped p = true := by unfold SeqAt.shaped; rw [h2]; simp; omega
  have b : SeqAt.shaped q = true := by unfold SeqAt.shaped; rw [k2]; simp; omega
  simp [a, b]
theorem eqD_nil {ds : List D} (h : ∀ d ∈ ds, PD 40 d) : eqD (.lst ds) (.lst []) = some ds.isEmpty := by
  obtain ⟨p, q, h1, h2, h3⟩ := eqD_of (n := 41) (by decide) (PD.lst h) (PD.lst (ds := []) (fun _ z => nomatch z))
  rw [h3]
  cases h2
  obtain ⟨ps, k1, rfl⟩ := Option.map_eq_some_iff.mp (show (toPs ds).map PyData.list = some p from h1)
  cases ds with
  | nil => cases k1; rfl
  | cons d ds =>
    obtain ⟨p, _, k1⟩ := Option.bind_eq_some_iff.mp (show (toP d).bind (fun p => (toPs ds).map fun ps => p :: ps) = some ps from k1)
    obtain ⟨ps', _, rfl⟩ := Option.map_eq_some_iff.mp k1
    rfl
theorem ints_PD (c : List Int) : ∀ d ∈ c.map D.int, PD 40 d := fun d h => by
  obtain ⟨i, _, rfl⟩ := List.mem_map.mp h
  exact PD.int (by decide)
theorem atI_nat {α : Type} {xs : List α} {i : Int} {x : α} (h0 : 0 ≤ i) (h : xs[i.toNat]? = some x) : L2.atI xs i = some x := by
  have hl := (List.getElem?_eq_some_iff.mp h).1
  unfold L2.atI L2.ixN
  rw [if_pos h0, if_pos (by omega)]
  exact h

/-! ### the tub -/
def Tub (c : List Int) (t r : Int) : D := .lst [.lst (c.map D.int), .int t, .int r]
def TubOk (n : Nat) (d : D) : Prop := ∃ c t r, d = Tub c t r ∧ 0 ≤ t ∧ t ≤ n ∧ 0 ≤ r
theorem TubOk.mono {m n : Nat} {d : D} (h : TubOk m d) (le : m ≤ n) : TubOk n d := by
  obtain ⟨c, t, r, e, h1, h2, h3⟩ := h
  exact ⟨c, t, r, e, h1, by omega, h3⟩
def Draws (sg : FSig) : Prop := sg.md = [true, false] ∧ ∀ n d m, TubOk n d → n ≤ 4000 → 0 < m → m < 2 ^ 40 → ∃ v d', sg.m [d, .int m] = .ok false (.int v) [d'] ∧ 0 ≤ v ∧ v < m ∧ TubOk (n + 1) d'
def Picks (sg : FSig) : Prop := sg.md = [true, false] ∧ ∀ n d xs, TubOk n d → n ≤ 4000 → xs ≠ [] → xs.length < 2 ^ 40 → ∃ (i : Nat) (x : D) (d' : D), xs[i]? = some x ∧ sg.m [d, .lst xs] = .ok false x [d'] ∧ TubOk (n + 1) d'
theorem log_small {m : Int} (h0 : 0 < m) (h : m < 2 ^ 40) : m.natAbs.log2 < 9000 := by
  rw [Nat.log2_lt (by omega)]
  have : m.natAbs < 2 ^ 40 := by omega
  calc m.natAbs < 2 ^ 40 := this
    _ ≤ 2 ^ 9000 := Nat.pow_le_pow_right (by decide) (by decide)
theorem small_of {x : Int} (h1 : -(2 ^ 64) < x) (h2 : x < 2 ^ 64) : smallB x = true := by unfold smallB; simp only [Bool.and_eq_true, decide_eq_true_eq]; exact ⟨h1, h2⟩
theorem small_mod {x k : Int} (h : 0 < k) (h2 : k ≤ 2 ^ 64) : smallB (x % k) = true := small_of (by have := Int.emod_nonneg x (show k ≠ 0 by omega); omega) (by have := Int.emod_lt_of_pos x h; omega)
/-- the base of the second power -/
theorem base2 {y t a b k : Int} (hy : 0 ≤ y) (hy2 : y < 2 ^ 32) (ht : 0 ≤ t) (ht2 : t ≤ 4096) (ha : 0 ≤ a) (ha2 : a < 2 ^ 20) (hk : 0 ≤ k) (hk2 : k < 2 ^ 20) (hb : 0 ≤ b) (hb2 : b < 2 ^ 20) : (y * (2 * t + a) + k * t * t + b).natAbs < 2 ^ 64 := by
  have h1 : y * (2 * t + a) ≤ 2 ^ 32 * (2 ^ 21) := Int.mul_le_mul (by omega) (by omega) (by omega) (by omega)
  have h0 : 0 ≤ y * (2 * t + a) := Int.mul_nonneg hy (by omega)
  have h2 : k * t ≤ 2 ^ 20 * 4096 := Int.mul_le_mul (by omega) ht2 ht (by omega)
  have h3 : 0 ≤ k * t := Int.mul_nonneg hk ht
  have h4 : k * t * t ≤ 2 ^ 20 * 4096 * 4096 := Int.mul_le_mul h2 ht2 ht (by omega)
  have h5 : 0 ≤ k * t * t := Int.mul_nonneg h3 ht
  omega
def CB.of : List CS → CB
  | [] => .nil
  | s :: r => .cons s (CB.of r)
/-- the tail of a draw -/
def scoopT (M1 k3 k4 M2 c1 k5 k6 M3 q : Int) : CB :=
  (.cons (.asg (.nm 4) (.bin .Mod (.bi .int (.cons (.bin .Pow (.bin .Add (.bin .Add (.bin .Mod (.bi .int (.cons (.var 3) .nil)) (.int M1)) (.bin .Mult (.int k3) (.var 2))) (.int k4)) (.int 5)) .nil)) (.int M2)))
  (.cons (.asg (.nm 4) (.bin .Mod (.bi .int (.cons (.bin .Pow (.bin .Add (.bin .Add (.bin .Mult (.var 4) (.bin .Add (.bin .Mult (.int 2) (.var 2)) (.int c1))) (.bin .Mult (.bin .Mult (.int k5) (.var 2)) (.var 2))) (.int k6)) (.int 3)) .nil)) (.int M3)))
  (.cons (.ret (.bin .Mod (.bi .int (.cons (.bin .FloorDiv (.var 4) (.int q)) .nil)) (.var 1)))
  .nil)))
def ok20 (k : Int) : Prop := 0 < k ∧ k < 2 ^ 20
def ok32 (k : Int) : Prop := 0 < k ∧ k < 2 ^ 32
theorem tail_eq {M1 k3 k4 M2 c1 k5 k6 M3 q : Int} {d : D} {m t x : Int} {s4 s5 : SV} (h4 : s4 = .no) (hM1 : ok32 M1) (hM2 : ok32 M2) (hM3 : ok32 M3) (h3 : ok20 k3) (hk4 : ok20 k4) (hc1 : ok20 c1) (h5 : ok20 k5) (h6 : ok20 k6) (hq : ok20 q) (ht : 0 ≤ t) (ht2 : t ≤ 4096) (hm : 0 < m) :
    ∃ v S, exb (scoopT M1 k3 k4 M2 c1 k5 k6 M3 q) [.io d, .sh (.int m), .sh (.int t), .sh (.int x), s4, s5] = .rt false (.int v) (.io d :: .sh (.int m) :: S) ∧ 0 ≤ v ∧ v < m := by
  subst h4
  have a1 : smallB k3 = true := small_of (by have := h3.1; omega) (by have := h3.2; omega)
  have a2 : smallB k5 = true := small_of (by have := h5.1; omega) (by have := h5.2; omega)
  have a3 : smallB t = true := small_of (by omega) (by omega)
  have a4 : smallB 2 = true := by decide
  have a5 : ∀ y : Int, smallB (y % M2) = true := fun y => small_mod hM2.1 (by have := hM2.2; omega)
  have b1 : ∀ y : Int, (y % M1 + k3 * t + k4).natAbs < 2 ^ 64 := fun y => by
    have e1 := Int.emod_nonneg y (show M1 ≠ 0 by have := hM1.1; omega)
    have e2 := Int.emod_lt_of_pos y hM1.1
    have e3 : k3 * t ≤ 2 ^ 20 * 4096 := Int.mul_le_mul (by have := h3.2; omega) ht2 ht (by omega)
    have e4 : 0 ≤ k3 * t := Int.mul_nonneg (by have := h3.1; omega) ht
    have := hM1.2; have := hk4.1; have := hk4.2
    omega
  have b2 : ∀ y : Int, ((y % M2) * (2 * t + c1) + k5 * t * t + k6).natAbs < 2 ^ 64 := fun y => by
    have e1 := Int.emod_nonneg y (show M2 ≠ 0 by have := hM2.1; omega)
    have e2 := Int.emod_lt_of_pos y hM2.1
    exact base2 e1 (by have := hM2.2; omega) ht ht2 (by have := hc1.1; omega) hc1.2 (by have := h5.1; omega) h5.2 (by have := h6.1; omega) h6.2
  have c1' : (0 < M1) = True := eq_true hM1.1
  have c2' : (0 < M2) = True := eq_true hM2.1
  have c3' : (0 < M3) = True := eq_true hM3.1
  have c4' : (0 < q) = True := eq_true hq.1
  have c5' : (0 < m) = True := eq_true hm
  have lq : (q.natAbs.log2 < 9000) = True := eq_true (log_small hq.1 (by have := hq.2; omega))
  have p1 : (0 ≤ (5 : Int)) = True := by simp
  have p2 : ((5 : Int) ≤ 1000000) = True := by simp
  have p3 : (0 ≤ (3 : Int)) = True := by simp
  have p4 : ((3 : Int) ≤ 1000000) = True := by simp
  have b1' : ∀ y : Int, ((y % M1 + k3 * t + k4).natAbs < 2 ^ 64) = True := fun y => eq_true (b1 y)
  have b2' : ∀ y : Int, (((y % M2) * (2 * t + c1) + k5 * t * t + k6).natAbs < 2 ^ 64) = True := fun y => eq_true (b2 y)
  refine ⟨?v, ?S, ?h, ?a, ?b⟩
  case h =>
    unfold scoopT
    simp only [Q.b_ok, Q.b_ex, Q.b_bd, Q.t_ok, Q.t_ex, Q.t_bd, Q.s_nx, Q.s_rt, Q.s_bk, Q.s_ct, Q.s_ex, Q.s_bd, Q.p_sm, Q.p_no, Q.r_sh, Q.r_l, Q.r_t, Q.r_d, Q.w_sh, Q.w_fr, Q.w_br, Q.d_sh, Q.d_fr, Q.d_br, Q.a_sh, Q.a_ow, Q.a_io, Q.a_lk, Q.m_ow, Q.m_io, Q.m_sh, Q.h_sh, Q.h_fr, Q.h_br, Q.c_sh, Q.c_fr, Q.c_br, Q.v_sh, Q.v_fr, Q.e_val, Q.e_tst, Q.e_io, Q.e_md, Q.kC', Q.kV', Q.kU', Q.kB', Q.kP0, Q.kP1, Q.kS', Q.kT', Q.kCh', Q.bl_s, Q.kVa, Q.kN', Q.kI', Q.kIT, Q.kAV, Q.kAT, Q.kSh, Q.kNl, Q.kCo, Q.kVw', Q.kSt, Q.kTu, Q.kLs, Q.kBi', Q.dr_n, Q.dr_c, Q.kMm', Q.kMt, Q.kMf, Q.kCa, Q.kCk, Q.cs, Q.av_n, Q.av_s, Q.av_i, Q.ai_n, Q.ai_s, Q.ai_i, Q.io_s, Q.io_i, Q.st_n, Q.st_c, Q.mu_l, Q.mu_d, Q.mu_o, Q.sa, Q.fa, Q.f_no, Q.f_sh, Q.f_ow, Q.bv, Q.ag_n, Q.ag_t, Q.an, Q.at_, Q.as_n, Q.as_c, Q.pv, Q.rt_s, Q.rt_f, Q.rt_b, Q.kIv, Q.kYs, Q.os_n, Q.os_t, Q.os_f, Q.is_t, Q.is_f, Q.is_n, Q.rs, Q.so, Q.l_int, Q.le_int, Q.g_int, Q.ge_int, Q.eq_d, Q.ne_d, Q.is_non, Q.bo', Q.tr_b, Q.tr_i, Q.tr_l, Q.ad_i, Q.sb_i, Q.ml_i, Q.fd_i, Q.md_i, Q.pw_i, Q.ad_l, Q.su_l, Q.su_t, Q.bi1', Q.i_i, Q.i_b, Q.ab_i, Q.le_l, Q.le_t, Q.li_l, Q.tu_l, Q.ng_i, Q.sx_l, Q.bm_s, exb, exs, evc, evl, evi, List.getElem?_cons_zero, List.getElem?_cons_succ, List.getElem?_nil, List.set_cons_zero, List.set_cons_succ, List.length_cons, List.length_nil, Option.bind_some, Option.bind_none, Option.map_some, Option.map_none, List.map_cons, List.map_nil, List.replicate_zero, List.replicate_succ, List.append_nil, List.cons_append, List.nil_append, Bool.not_true, Bool.not_false, Bool.false_eq_true, if_true, if_false, ite_true, ite_false, Option.isSome_some, Option.isSome_none, Bool.and_true, Bool.true_and, Bool.and_false, Bool.false_and, Bool.or_true, Bool.true_or, Bool.or_false, Bool.false_or, Nat.reduceAdd, Nat.reduceSub, Nat.sub_self, Nat.add_zero, Nat.zero_add, Nat.reduceLT, Nat.reduceLeDiff, reduceCtorEq, List.nodup_nil, List.nodup_cons, List.not_mem_nil, not_false_eq_true, and_self, and_true, true_and, decide_true, decide_false, List.tail_cons, List.headD_cons, CE.isNoe, CL.len, Bool.true_eq_false, Int.reduceLT, Int.reduceLE, Int.reduceToNat, reduceIte, a1, a2, a3, a4, a5, b1', b2', c1', c2', c3', c4', c5', lq, p1, p2, p3, p4]
    rfl
  case a => exact Int.emod_nonneg _ (by omega)
  case b => exact Int.emod_lt_of_pos _ hm
def midB (tl : CB) : CB :=
  (.cons (.ifs (.and_ (.cons (.cmp .Lt (.var 2) (.bi .len (.cons (.sub (.var 0) (.int 0)) .nil))) (.cons (.cmp .GtE (.bi .abs (.cons (.var 3) .nil)) (.bin .Pow (.int 10) (.int 18))) .nil))) (.cons (.asg (.nm 5) (.bin .Add (.bin .Mult (.int 2) (.bin .Sub (.bi .abs (.cons (.var 3) .nil)) (.bin .Pow (.int 10) (.int 18)))) (.bi .int (.cons (.cmp .Lt (.var 3) (.int 0)) .nil))))
  (.cons (.setix 0 (.int 2) (.bin .FloorDiv (.var 5) (.var 1)))
  (.cons (.ret (.bin .Mod (.bi .int (.cons (.var 5) .nil)) (.var 1)))
  .nil))) .nil)
  tl)
/-- a draw; the first cell's form k1 * t + k2 -/
def scoopB (k1 k2 : Int) (tl : CB) : CB :=
  (.cons (.ifs (.cmp .Gt (.sub (.var 0) (.int 2)) (.int 0)) (.cons (.asg (.nm 5) (.bi .int (.cons (.sub (.var 0) (.int 2)) .nil)))
  (.cons (.setix 0 (.int 2) (.bin .FloorDiv (.var 5) (.var 1)))
  (.cons (.ret (.bin .Mod (.bi .int (.cons (.var 5) .nil)) (.var 1)))
  .nil))) .nil)
  (.cons (.asg (.nm 2) (.sub (.var 0) (.int 1)))
  (.cons (.setix 0 (.int 1) (.bin .Add (.var 2) (.int 1)))
  (.cons (.asg (.nm 3) (.bin .Add (.bin .Mult (.int k1) (.var 2)) (.int k2)))
  (.cons (.ifs (.cmp .NotEq (.sub (.var 0) (.int 0)) (.lst .nil)) (.cons (.asg (.nm 3) (.sub (.sub (.var 0) (.int 0)) (.bin .Mod (.bi .int (.cons (.var 2) .nil)) (.bi .len (.cons (.sub (.var 0) (.int 0)) .nil)))))
  .nil) .nil)
  (midB tl))))))
theorem sizeLine_pos : (0 ≤ sizeLine) = True := eq_true (Nat.zero_le _)
theorem ix32 : L2.ixN 3 2 = some 2 := rfl
theorem ix31 : L2.ixN 3 1 = some 1 := rfl
theorem atTub0 {a b c : D} : L2.atI [a, b, c] 0 = some a := rfl
theorem atTub1 {a b c : D} : L2.atI [a, b, c] 1 = some b := rfl
theorem atTub2 {a b c : D} : L2.atI [a, b, c] 2 = some c := rfl
theorem scoop_draws {k1 k2 M1 k3 k4 M2 c1 k5 k6 M3 q : Int} (hM1 : ok32 M1) (hM2 : ok32 M2) (hM3 : ok32 M3) (h3 : ok20 k3) (hk4 : ok20 k4) (hc1 : ok20 c1) (h5 : ok20 k5) (h6 : ok20 k6) (hq : ok20 q) (hk1 : ok20 k1) :
    Draws ⟨[true, false], runS 6 [true, false] (exb (scoopB k1 k2 (scoopT M1 k3 k4 M2 c1 k5 k6 M3 q)))⟩ := by
  refine ⟨rfl, ?_⟩
  rintro n d m ⟨c, t, r, rfl, ht, ht2, hr⟩ hn hm hm2
  have cm : (0 < m) = True := eq_true hm
  have lm : (m.natAbs.log2 < 9000) = True := eq_true (log_small hm hm2)
  have a1 : smallB k1 = true := small_of (by have := hk1.1; omega) (by have := hk1.2; omega)
  have a3 : smallB t = true := small_of (by omega) (by omega)
  have a4 : smallB 2 = true := by decide
  have rc : (0 < r) = (0 < r) := rfl
  have el := eqD_nil (ints_PD c)
  have p1 : (0 ≤ (18 : Int)) = True := by simp
  have p2 : ((18 : Int) ≤ 1000000) = True := by simp
  have p3 : ((10 : Int).natAbs < 2 ^ 64) = True := by simp
  by_cases hr0 : 0 < r
  · refine ⟨r % m, Tub c t (r / m), ?_, Int.emod_nonneg _ (by omega), Int.emod_lt_of_pos _ hm, c, t, r / m, rfl, ht, by omega, Int.ediv_nonneg hr (by omega)⟩
    unfold Tub scoopB
    have hr0' : (0 < r) = True := eq_true hr0
    simp only [Q.b_ok, Q.b_ex, Q.b_bd, Q.t_ok, Q.t_ex, Q.t_bd, Q.s_nx, Q.s_rt, Q.s_bk, Q.s_ct, Q.s_ex, Q.s_bd, Q.p_sm, Q.p_no, Q.r_sh, Q.r_l, Q.r_t, Q.r_d, Q.w_sh, Q.w_fr, Q.w_br, Q.d_sh, Q.d_fr, Q.d_br, Q.a_sh, Q.a_ow, Q.a_io, Q.a_lk, Q.m_ow, Q.m_io, Q.m_sh, Q.h_sh, Q.h_fr, Q.h_br, Q.c_sh, Q.c_fr, Q.c_br, Q.v_sh, Q.v_fr, Q.e_val, Q.e_tst, Q.e_io, Q.e_md, Q.kC', Q.kV', Q.kU', Q.kB', Q.kP0, Q.kP1, Q.kS', Q.kT', Q.kCh', Q.bl_s, Q.kVa, Q.kN', Q.kI', Q.kIT, Q.kAV, Q.kAT, Q.kSh, Q.kNl, Q.kCo, Q.kVw', Q.kSt, Q.kTu, Q.kLs, Q.kBi', Q.dr_n, Q.dr_c, Q.kMm', Q.kMt, Q.kMf, Q.kCa, Q.kCk, Q.cs, Q.av_n, Q.av_s, Q.av_i, Q.ai_n, Q.ai_s, Q.ai_i, Q.io_s, Q.io_i, Q.st_n, Q.st_c, Q.mu_l, Q.mu_d, Q.mu_o, Q.sa, Q.fa, Q.f_no, Q.f_sh, Q.f_ow, Q.bv, Q.ag_n, Q.ag_t, Q.an, Q.at_, Q.as_n, Q.as_c, Q.pv, Q.rt_s, Q.rt_f, Q.rt_b, Q.kIv, Q.kYs, Q.os_n, Q.os_t, Q.os_f, Q.is_t, Q.is_f, Q.is_n, Q.rs, Q.so, Q.l_int, Q.le_int, Q.g_int, Q.ge_int, Q.eq_d, Q.ne_d, Q.is_non, Q.bo', Q.tr_b, Q.tr_i, Q.tr_l, Q.ad_i, Q.sb_i, Q.ml_i, Q.fd_i, Q.md_i, Q.pw_i, Q.ad_l, Q.su_l, Q.su_t, Q.bi1', Q.i_i, Q.i_b, Q.ab_i, Q.le_l, Q.le_t, Q.li_l, Q.tu_l, Q.ng_i, Q.sx_l, Q.bm_s, exb, exs, evc, evl, evi, List.getElem?_cons_zero, List.getElem?_cons_succ, List.getElem?_nil, List.set_cons_zero, List.set_cons_succ, List.length_cons, List.length_nil, Option.bind_some, Option.bind_none, Option.map_some, Option.map_none, List.map_cons, List.map_nil, List.replicate_zero, List.replicate_succ, List.append_nil, List.cons_append, List.nil_append, Bool.not_true, Bool.not_false, Bool.false_eq_true, if_true, if_false, ite_true, ite_false, Option.isSome_some, Option.isSome_none, Bool.and_true, Bool.true_and, Bool.and_false, Bool.false_and, Bool.or_true, Bool.true_or, Bool.or_false, Bool.false_or, Nat.reduceAdd, Nat.reduceSub, Nat.sub_self, Nat.add_zero, Nat.zero_add, Nat.reduceLT, Nat.reduceLeDiff, reduceCtorEq, List.nodup_nil, List.nodup_cons, List.not_mem_nil, not_false_eq_true, and_self, and_true, true_and, decide_true, decide_false, List.tail_cons, List.headD_cons, CE.isNoe, CL.len, Bool.true_eq_false, Int.reduceLT, Int.reduceLE, Int.reduceToNat, reduceIte, cm, lm, hr0', ix32, ix31, atTub0, atTub1, atTub2]
  · have hr0' : (0 < r) = False := eq_false hr0
    -- the cell
    have big : ∀ (x : Int), (∃ v d', exb (midB (scoopT M1 k3 k4 M2 c1 k5 k6 M3 q)) [.io (Tub c (t + 1) r), .sh (.int m), .sh (.int t), .sh (.int x), .no, .no] = .rt false (.int v) d' ∧ (∃ S d2, d' = .io d2 :: .sh (.int m) :: S ∧ TubOk (n + 1) d2) ∧ 0 ≤ v ∧ v < m) := fun x => by
      obtain ⟨v, S, he, v0, v1⟩ := tail_eq (M1 := M1) (k3 := k3) (k4 := k4) (M2 := M2) (c1 := c1) (k5 := k5) (k6 := k6) (M3 := M3) (q := q) (d := Tub c (t + 1) r) (m := m) (t := t) (x := x) (s5 := .no) rfl hM1 hM2 hM3 h3 hk4 hc1 h5 h6 hq ht (by omega) hm
      have tok : TubOk (n + 1) (Tub c (t + 1) r) := ⟨c, t + 1, r, rfl, by omega, by omega, hr⟩
      by_cases b1 : t < (c.map D.int).length
      · have b1' : (t < (c.map D.int).length) = True := eq_true b1
        by_cases b2 : (10 : Int) ^ (18 : Int).toNat ≤ (if x < 0 then -x else x)
        · have b2' : ((10 : Int) ^ (18 : Int).toNat ≤ (if x < 0 then -x else x)) = True := eq_true b2
          refine ⟨?v, ?d, ?h, ⟨?S, ?d2, ?e, ?k⟩, ?a, ?b⟩
          case h =>
            unfold Tub midB
            simp only [Q.b_ok, Q.b_ex, Q.b_bd, Q.t_ok, Q.t_ex, Q.t_bd, Q.s_nx, Q.s_rt, Q.s_bk, Q.s_ct, Q.s_ex, Q.s_bd, Q.p_sm, Q.p_no, Q.r_sh, Q.r_l, Q.r_t, Q.r_d, Q.w_sh, Q.w_fr, Q.w_br, Q.d_sh, Q.d_fr, Q.d_br, Q.a_sh, Q.a_ow, Q.a_io, Q.a_lk, Q.m_ow, Q.m_io, Q.m_sh, Q.h_sh, Q.h_fr, Q.h_br, Q.c_sh, Q.c_fr, Q.c_br, Q.v_sh, Q.v_fr, Q.e_val, Q.e_tst, Q.e_io, Q.e_md, Q.kC', Q.kV', Q.kU', Q.kB', Q.kP0, Q.kP1, Q.kS', Q.kT', Q.kCh', Q.bl_s, Q.kVa, Q.kN', Q.kI', Q.kIT, Q.kAV, Q.kAT, Q.kSh, Q.kNl, Q.kCo, Q.kVw', Q.kSt, Q.kTu, Q.kLs, Q.kBi', Q.dr_n, Q.dr_c, Q.kMm', Q.kMt, Q.kMf, Q.kCa, Q.kCk, Q.cs, Q.av_n, Q.av_s, Q.av_i, Q.ai_n, Q.ai_s, Q.ai_i, Q.io_s, Q.io_i, Q.st_n, Q.st_c, Q.mu_l, Q.mu_d, Q.mu_o, Q.sa, Q.fa, Q.f_no, Q.f_sh, Q.f_ow, Q.bv, Q.ag_n, Q.ag_t, Q.an, Q.at_, Q.as_n, Q.as_c, Q.pv, Q.rt_s, Q.rt_f, Q.rt_b, Q.kIv, Q.kYs, Q.os_n, Q.os_t, Q.os_f, Q.is_t, Q.is_f, Q.is_n, Q.rs, Q.so, Q.l_int, Q.le_int, Q.g_int, Q.ge_int, Q.eq_d, Q.ne_d, Q.is_non, Q.bo', Q.tr_b, Q.tr_i, Q.tr_l, Q.ad_i, Q.sb_i, Q.ml_i, Q.fd_i, Q.md_i, Q.pw_i, Q.ad_l, Q.su_l, Q.su_t, Q.bi1', Q.i_i, Q.i_b, Q.ab_i, Q.le_l, Q.le_t, Q.li_l, Q.tu_l, Q.ng_i, Q.sx_l, Q.bm_s, exb, exs, evc, evl, evi, List.getElem?_cons_zero, List.getElem?_cons_succ, List.getElem?_nil, List.set_cons_zero, List.set_cons_succ, List.length_cons, List.length_nil, Option.bind_some, Option.bind_none, Option.map_some, Option.map_none, List.map_cons, List.map_nil, List.replicate_zero, List.replicate_succ, List.append_nil, List.cons_append, List.nil_append, Bool.not_true, Bool.not_false, Bool.false_eq_true, if_true, if_false, ite_true, ite_false, Option.isSome_some, Option.isSome_none, Bool.and_true, Bool.true_and, Bool.and_false, Bool.false_and, Bool.or_true, Bool.true_or, Bool.or_false, Bool.false_or, Nat.reduceAdd, Nat.reduceSub, Nat.sub_self, Nat.add_zero, Nat.zero_add, Nat.reduceLT, Nat.reduceLeDiff, reduceCtorEq, List.nodup_nil, List.nodup_cons, List.not_mem_nil, not_false_eq_true, and_self, and_true, true_and, decide_true, decide_false, List.tail_cons, List.headD_cons, CE.isNoe, CL.len, Bool.true_eq_false, Int.reduceLT, Int.reduceLE, Int.reduceToNat, reduceIte, cm, lm, a4, b1', b2', p1, p2, p3, ix32, ix31, atTub0, atTub1, atTub2, -Int.reduceToNat, -Int.reducePow, -Int.reduceNeg]
            rfl
          case e => rfl
          case k =>
            refine ⟨c, t + 1, _, rfl, by omega, by omega, Int.ediv_nonneg ?_ (by omega)⟩
            split <;> omega
          case a => exact Int.emod_nonneg _ (by omega)
          case b => exact Int.emod_lt_of_pos _ hm
        · have b2' : ((10 : Int) ^ (18 : Int).toNat ≤ (if x < 0 then -x else x)) = False := eq_false b2
          refine ⟨v, _, ?_, ⟨S, _, rfl, tok⟩, v0, v1⟩
          rw [← he]
          unfold Tub midB
          simp only [Q.b_ok, Q.b_ex, Q.b_bd, Q.t_ok, Q.t_ex, Q.t_bd, Q.s_nx, Q.s_rt, Q.s_bk, Q.s_ct, Q.s_ex, Q.s_bd, Q.p_sm, Q.p_no, Q.r_sh, Q.r_l, Q.r_t, Q.r_d, Q.w_sh, Q.w_fr, Q.w_br, Q.d_sh, Q.d_fr, Q.d_br, Q.a_sh, Q.a_ow, Q.a_io, Q.a_lk, Q.m_ow, Q.m_io, Q.m_sh, Q.h_sh, Q.h_fr, Q.h_br, Q.c_sh, Q.c_fr, Q.c_br, Q.v_sh, Q.v_fr, Q.e_val, Q.e_tst, Q.e_io, Q.e_md, Q.kC', Q.kV', Q.kU', Q.kB', Q.kP0, Q.kP1, Q.kS', Q.kT', Q.kCh', Q.bl_s, Q.kVa, Q.kN', Q.kI', Q.kIT, Q.kAV, Q.kAT, Q.kSh, Q.kNl, Q.kCo, Q.kVw', Q.kSt, Q.kTu, Q.kLs, Q.kBi', Q.dr_n, Q.dr_c, Q.kMm', Q.kMt, Q.kMf, Q.kCa, Q.kCk, Q.cs, Q.av_n, Q.av_s, Q.av_i, Q.ai_n, Q.ai_s, Q.ai_i, Q.io_s, Q.io_i, Q.st_n, Q.st_c, Q.mu_l, Q.mu_d, Q.mu_o, Q.sa, Q.fa, Q.f_no, Q.f_sh, Q.f_ow, Q.bv, Q.ag_n, Q.ag_t, Q.an, Q.at_, Q.as_n, Q.as_c, Q.pv, Q.rt_s, Q.rt_f, Q.rt_b, Q.kIv, Q.kYs, Q.os_n, Q.os_t, Q.os_f, Q.is_t, Q.is_f, Q.is_n, Q.rs, Q.so, Q.l_int, Q.le_int, Q.g_int, Q.ge_int, Q.eq_d, Q.ne_d, Q.is_non, Q.bo', Q.tr_b, Q.tr_i, Q.tr_l, Q.ad_i, Q.sb_i, Q.ml_i, Q.fd_i, Q.md_i, Q.pw_i, Q.ad_l, Q.su_l, Q.su_t, Q.bi1', Q.i_i, Q.i_b, Q.ab_i, Q.le_l, Q.le_t, Q.li_l, Q.tu_l, Q.ng_i, Q.sx_l, Q.bm_s, exb, exs, evc, evl, evi, List.getElem?_cons_zero, List.getElem?_cons_succ, List.getElem?_nil, List.set_cons_zero, List.set_cons_succ, List.length_cons, List.length_nil, Option.bind_some, Option.bind_none, Option.map_some, Option.map_none, List.map_cons, List.map_nil, List.replicate_zero, List.replicate_succ, List.append_nil, List.cons_append, List.nil_append, Bool.not_true, Bool.not_false, Bool.false_eq_true, if_true, if_false, ite_true, ite_false, Option.isSome_some, Option.isSome_none, Bool.and_true, Bool.true_and, Bool.and_false, Bool.false_and, Bool.or_true, Bool.true_or, Bool.or_false, Bool.false_or, Nat.reduceAdd, Nat.reduceSub, Nat.sub_self, Nat.add_zero, Nat.zero_add, Nat.reduceLT, Nat.reduceLeDiff, reduceCtorEq, List.nodup_nil, List.nodup_cons, List.not_mem_nil, not_false_eq_true, and_self, and_true, true_and, decide_true, decide_false, List.tail_cons, List.headD_cons, CE.isNoe, CL.len, Bool.true_eq_false, Int.reduceLT, Int.reduceLE, Int.reduceToNat, reduceIte, cm, lm, a4, b1', b2', p1, p2, p3, ix32, ix31, atTub0, atTub1, atTub2, -Int.reduceToNat, -Int.reducePow, -Int.reduceNeg]
      · have b1' : (t < (c.map D.int).length) = False := eq_false b1
        refine ⟨v, _, ?_, ⟨S, _, rfl, tok⟩, v0, v1⟩
        rw [← he]
        unfold Tub midB
        simp only [Q.b_ok, Q.b_ex, Q.b_bd, Q.t_ok, Q.t_ex, Q.t_bd, Q.s_nx, Q.s_rt, Q.s_bk, Q.s_ct, Q.s_ex, Q.s_bd, Q.p_sm, Q.p_no, Q.r_sh, Q.r_l, Q.r_t, Q.r_d, Q.w_sh, Q.w_fr, Q.w_br, Q.d_sh, Q.d_fr, Q.d_br, Q.a_sh, Q.a_ow, Q.a_io, Q.a_lk, Q.m_ow, Q.m_io, Q.m_sh, Q.h_sh, Q.h_fr, Q.h_br, Q.c_sh, Q.c_fr, Q.c_br, Q.v_sh, Q.v_fr, Q.e_val, Q.e_tst, Q.e_io, Q.e_md, Q.kC', Q.kV', Q.kU', Q.kB', Q.kP0, Q.kP1, Q.kS', Q.kT', Q.kCh', Q.bl_s, Q.kVa, Q.kN', Q.kI', Q.kIT, Q.kAV, Q.kAT, Q.kSh, Q.kNl, Q.kCo, Q.kVw', Q.kSt, Q.kTu, Q.kLs, Q.kBi', Q.dr_n, Q.dr_c, Q.kMm', Q.kMt, Q.kMf, Q.kCa, Q.kCk, Q.cs, Q.av_n, Q.av_s, Q.av_i, Q.ai_n, Q.ai_s, Q.ai_i, Q.io_s, Q.io_i, Q.st_n, Q.st_c, Q.mu_l, Q.mu_d, Q.mu_o, Q.sa, Q.fa, Q.f_no, Q.f_sh, Q.f_ow, Q.bv, Q.ag_n, Q.ag_t, Q.an, Q.at_, Q.as_n, Q.as_c, Q.pv, Q.rt_s, Q.rt_f, Q.rt_b, Q.kIv, Q.kYs, Q.os_n, Q.os_t, Q.os_f, Q.is_t, Q.is_f, Q.is_n, Q.rs, Q.so, Q.l_int, Q.le_int, Q.g_int, Q.ge_int, Q.eq_d, Q.ne_d, Q.is_non, Q.bo', Q.tr_b, Q.tr_i, Q.tr_l, Q.ad_i, Q.sb_i, Q.ml_i, Q.fd_i, Q.md_i, Q.pw_i, Q.ad_l, Q.su_l, Q.su_t, Q.bi1', Q.i_i, Q.i_b, Q.ab_i, Q.le_l, Q.le_t, Q.li_l, Q.tu_l, Q.ng_i, Q.sx_l, Q.bm_s, exb, exs, evc, evl, evi, List.getElem?_cons_zero, List.getElem?_cons_succ, List.getElem?_nil, List.set_cons_zero, List.set_cons_succ, List.length_cons, List.length_nil, Option.bind_some, Option.bind_none, Option.map_some, Option.map_none, List.map_cons, List.map_nil, List.replicate_zero, List.replicate_succ, List.append_nil, List.cons_append, List.nil_append, Bool.not_true, Bool.not_false, Bool.false_eq_true, if_true, if_false, ite_true, ite_false, Option.isSome_some, Option.isSome_none, Bool.and_true, Bool.true_and, Bool.and_false, Bool.false_and, Bool.or_true, Bool.true_or, Bool.or_false, Bool.false_or, Nat.reduceAdd, Nat.reduceSub, Nat.sub_self, Nat.add_zero, Nat.zero_add, Nat.reduceLT, Nat.reduceLeDiff, reduceCtorEq, List.nodup_nil, List.nodup_cons, List.not_mem_nil, not_false_eq_true, and_self, and_true, true_and, decide_true, decide_false, List.tail_cons, List.headD_cons, CE.isNoe, CL.len, Bool.true_eq_false, Int.reduceLT, Int.reduceLE, Int.reduceToNat, reduceIte, cm, lm, a4, b1', p1, p2, p3, ix32, ix31, atTub0, atTub1, atTub2]
    have fin : ∀ x : Int, (exb (scoopB k1 k2 (scoopT M1 k3 k4 M2 c1 k5 k6 M3 q)) [.io (Tub c t r), .sh (.int m), .no, .no, .no, .no] = exb (midB (scoopT M1 k3 k4 M2 c1 k5 k6 M3 q)) [.io (Tub c (t + 1) r), .sh (.int m), .sh (.int t), .sh (.int x), .no, .no]) →
        ∃ v d', (runS 6 [true, false] (exb (scoopB k1 k2 (scoopT M1 k3 k4 M2 c1 k5 k6 M3 q)))) [Tub c t r, .int m] = .ok false (.int v) [d'] ∧ 0 ≤ v ∧ v < m ∧ TubOk (n + 1) d' := fun x e => by
      obtain ⟨v, d', h1, ⟨S, d2, rfl, tok⟩, v0, v1⟩ := big x
      refine ⟨v, d2, ?_, v0, v1, tok⟩
      have e2 : slotsOf 6 [true, false] [Tub c t r, .int m] = [.io (Tub c t r), .sh (.int m), .no, .no, .no, .no] := rfl
      rw [Q.rs, if_pos (show [true, false].length = [Tub c t r, D.int m].length from rfl), e2, e, h1]
      rfl
    cases c with
    | nil =>
      refine fin (k1 * t + k2) ?_
      unfold scoopB Tub
      have el : eqD (.lst []) (.lst []) = some true := rfl
      simp only [Q.b_ok, Q.b_ex, Q.b_bd, Q.t_ok, Q.t_ex, Q.t_bd, Q.s_nx, Q.s_rt, Q.s_bk, Q.s_ct, Q.s_ex, Q.s_bd, Q.p_sm, Q.p_no, Q.r_sh, Q.r_l, Q.r_t, Q.r_d, Q.w_sh, Q.w_fr, Q.w_br, Q.d_sh, Q.d_fr, Q.d_br, Q.a_sh, Q.a_ow, Q.a_io, Q.a_lk, Q.m_ow, Q.m_io, Q.m_sh, Q.h_sh, Q.h_fr, Q.h_br, Q.c_sh, Q.c_fr, Q.c_br, Q.v_sh, Q.v_fr, Q.e_val, Q.e_tst, Q.e_io, Q.e_md, Q.kC', Q.kV', Q.kU', Q.kB', Q.kP0, Q.kP1, Q.kS', Q.kT', Q.kCh', Q.bl_s, Q.kVa, Q.kN', Q.kI', Q.kIT, Q.kAV, Q.kAT, Q.kSh, Q.kNl, Q.kCo, Q.kVw', Q.kSt, Q.kTu, Q.kLs, Q.kBi', Q.dr_n, Q.dr_c, Q.kMm', Q.kMt, Q.kMf, Q.kCa, Q.kCk, Q.cs, Q.av_n, Q.av_s, Q.av_i, Q.ai_n, Q.ai_s, Q.ai_i, Q.io_s, Q.io_i, Q.st_n, Q.st_c, Q.mu_l, Q.mu_d, Q.mu_o, Q.sa, Q.fa, Q.f_no, Q.f_sh, Q.f_ow, Q.bv, Q.ag_n, Q.ag_t, Q.an, Q.at_, Q.as_n, Q.as_c, Q.pv, Q.rt_s, Q.rt_f, Q.rt_b, Q.kIv, Q.kYs, Q.os_n, Q.os_t, Q.os_f, Q.is_t, Q.is_f, Q.is_n, Q.rs, Q.so, Q.l_int, Q.le_int, Q.g_int, Q.ge_int, Q.eq_d, Q.ne_d, Q.is_non, Q.bo', Q.tr_b, Q.tr_i, Q.tr_l, Q.ad_i, Q.sb_i, Q.ml_i, Q.fd_i, Q.md_i, Q.pw_i, Q.ad_l, Q.su_l, Q.su_t, Q.bi1', Q.i_i, Q.i_b, Q.ab_i, Q.le_l, Q.le_t, Q.li_l, Q.tu_l, Q.ng_i, Q.sx_l, Q.bm_s, exb, exs, evc, evl, evi, List.getElem?_cons_zero, List.getElem?_cons_succ, List.getElem?_nil, List.set_cons_zero, List.set_cons_succ, List.length_cons, List.length_nil, Option.bind_some, Option.bind_none, Option.map_some, Option.map_none, List.map_cons, List.map_nil, List.replicate_zero, List.replicate_succ, List.append_nil, List.cons_append, List.nil_append, Bool.not_true, Bool.not_false, Bool.false_eq_true, if_true, if_false, ite_true, ite_false, Option.isSome_some, Option.isSome_none, Bool.and_true, Bool.true_and, Bool.and_false, Bool.false_and, Bool.or_true, Bool.true_or, Bool.or_false, Bool.false_or, Nat.reduceAdd, Nat.reduceSub, Nat.sub_self, Nat.add_zero, Nat.zero_add, Nat.reduceLT, Nat.reduceLeDiff, reduceCtorEq, List.nodup_nil, List.nodup_cons, List.not_mem_nil, not_false_eq_true, and_self, and_true, true_and, decide_true, decide_false, List.tail_cons, List.headD_cons, CE.isNoe, CL.len, Bool.true_eq_false, Int.reduceLT, Int.reduceLE, Int.reduceToNat, reduceIte, cm, lm, hr0', a1, el, ix32, ix31, atTub0, atTub1, atTub2, sizeLine_pos]
    | cons x0 cs =>
      obtain ⟨x, hx⟩ : ∃ x, L2.atI ((x0 :: cs).map D.int) (t % (((x0 :: cs).map D.int).length : Nat)) = some (.int x) := by
        have hl : (0 : Int) < (((x0 :: cs).map D.int).length : Nat) := by simp <;> omega
        have h0 := Int.emod_nonneg t (show ((((x0 :: cs).map D.int).length : Nat) : Int) ≠ 0 by omega)
        have h1 := Int.emod_lt_of_pos t hl
        rw [List.length_map] at h0 h1
        have h2 : (t % (((x0 :: cs).length : Nat) : Int)).toNat < (x0 :: cs).length := by omega
        refine ⟨(x0 :: cs)[(t % (((x0 :: cs).length : Nat) : Int)).toNat], atI_nat (by rw [List.length_map]; exact h0) ?_⟩
        rw [List.length_map, List.getElem?_map, List.getElem?_eq_getElem h2]; rfl
      have hn0 : (0 < (((x0 :: cs).map D.int).length : Int)) = True := eq_true (by simp <;> omega)
      refine fin x ?_
      unfold scoopB Tub
      generalize hC : (x0 :: cs).map D.int = C at *
      have el' : eqD (.lst C) (.lst []) = some false := by rw [el, ← hC]; rfl
      simp only [Q.b_ok, Q.b_ex, Q.b_bd, Q.t_ok, Q.t_ex, Q.t_bd, Q.s_nx, Q.s_rt, Q.s_bk, Q.s_ct, Q.s_ex, Q.s_bd, Q.p_sm, Q.p_no, Q.r_sh, Q.r_l, Q.r_t, Q.r_d, Q.w_sh, Q.w_fr, Q.w_br, Q.d_sh, Q.d_fr, Q.d_br, Q.a_sh, Q.a_ow, Q.a_io, Q.a_lk, Q.m_ow, Q.m_io, Q.m_sh, Q.h_sh, Q.h_fr, Q.h_br, Q.c_sh, Q.c_fr, Q.c_br, Q.v_sh, Q.v_fr, Q.e_val, Q.e_tst, Q.e_io, Q.e_md, Q.kC', Q.kV', Q.kU', Q.kB', Q.kP0, Q.kP1, Q.kS', Q.kT', Q.kCh', Q.bl_s, Q.kVa, Q.kN', Q.kI', Q.kIT, Q.kAV, Q.kAT, Q.kSh, Q.kNl, Q.kCo, Q.kVw', Q.kSt, Q.kTu, Q.kLs, Q.kBi', Q.dr_n, Q.dr_c, Q.kMm', Q.kMt, Q.kMf, Q.kCa, Q.kCk, Q.cs, Q.av_n, Q.av_s, Q.av_i, Q.ai_n, Q.ai_s, Q.ai_i, Q.io_s, Q.io_i, Q.st_n, Q.st_c, Q.mu_l, Q.mu_d, Q.mu_o, Q.sa, Q.fa, Q.f_no, Q.f_sh, Q.f_ow, Q.bv, Q.ag_n, Q.ag_t, Q.an, Q.at_, Q.as_n, Q.as_c, Q.pv, Q.rt_s, Q.rt_f, Q.rt_b, Q.kIv, Q.kYs, Q.os_n, Q.os_t, Q.os_f, Q.is_t, Q.is_f, Q.is_n, Q.rs, Q.so, Q.l_int, Q.le_int, Q.g_int, Q.ge_int, Q.eq_d, Q.ne_d, Q.is_non, Q.bo', Q.tr_b, Q.tr_i, Q.tr_l, Q.ad_i, Q.sb_i, Q.ml_i, Q.fd_i, Q.md_i, Q.pw_i, Q.ad_l, Q.su_l, Q.su_t, Q.bi1', Q.i_i, Q.i_b, Q.ab_i, Q.le_l, Q.le_t, Q.li_l, Q.tu_l, Q.ng_i, Q.sx_l, Q.bm_s, exb, exs, evc, evl, evi, List.getElem?_cons_zero, List.getElem?_cons_succ, List.getElem?_nil, List.set_cons_zero, List.set_cons_succ, List.length_cons, List.length_nil, Option.bind_some, Option.bind_none, Option.map_some, Option.map_none, List.map_cons, List.map_nil, List.replicate_zero, List.replicate_succ, List.append_nil, List.cons_append, List.nil_append, Bool.not_true, Bool.not_false, Bool.false_eq_true, if_true, if_false, ite_true, ite_false, Option.isSome_some, Option.isSome_none, Bool.and_true, Bool.true_and, Bool.and_false, Bool.false_and, Bool.or_true, Bool.true_or, Bool.or_false, Bool.false_or, Nat.reduceAdd, Nat.reduceSub, Nat.sub_self, Nat.add_zero, Nat.zero_add, Nat.reduceLT, Nat.reduceLeDiff, reduceCtorEq, List.nodup_nil, List.nodup_cons, List.not_mem_nil, not_false_eq_true, and_self, and_true, true_and, decide_true, decide_false, List.tail_cons, List.headD_cons, CE.isNoe, CL.len, Bool.true_eq_false, Int.reduceLT, Int.reduceLE, Int.reduceToNat, reduceIte, cm, lm, hr0', a1, el', hx, hn0, ix32, ix31, atTub0, atTub1, atTub2, sizeLine_pos]
def pickB (nm : Str) (sg : FSig) : CB := .cons (.ret (.sub (.var 1) (.call nm sg (.cons (.var 0) (.cons (.bi .len (.cons (.var 1) .nil)) .nil))))) .nil
theorem TubOk.mu {n : Nat} {d : D} (h : TubOk n d) : MutD d = true := by obtain ⟨c, t, r, rfl, _⟩ := h; rfl
theorem pick_of {nm : Str} {sg : FSig} (hd : Draws sg) : Picks ⟨[true, false], runS 2 [true, false] (exb (pickB nm sg))⟩ := by
  refine ⟨rfl, fun n d xs tok hn hne hlen => ?_⟩
  have hp : 0 < xs.length := by cases xs with
    | nil => exact absurd rfl hne
    | cons _ _ => simp
  obtain ⟨v, d', hm, v0, v1, tok'⟩ := hd.2 n d (xs.length : Nat) tok hn (by omega) (by omega)
  have hv : v.toNat < xs.length := by omega
  refine ⟨v.toNat, xs[v.toNat], d', List.getElem?_eq_getElem hv, ?_, tok'⟩
  have ha : L2.atI xs v = some xs[v.toNat] := atI_nat v0 (List.getElem?_eq_getElem hv)
  have hmd := hd.1
  have mu := tok'.mu
  unfold pickB
  simp only [Q.b_ok, Q.b_ex, Q.b_bd, Q.t_ok, Q.t_ex, Q.t_bd, Q.s_nx, Q.s_rt, Q.s_bk, Q.s_ct, Q.s_ex, Q.s_bd, Q.p_sm, Q.p_no, Q.r_sh, Q.r_l, Q.r_t, Q.r_d, Q.w_sh, Q.w_fr, Q.w_br, Q.d_sh, Q.d_fr, Q.d_br, Q.a_sh, Q.a_ow, Q.a_io, Q.a_lk, Q.m_ow, Q.m_io, Q.m_sh, Q.h_sh, Q.h_fr, Q.h_br, Q.c_sh, Q.c_fr, Q.c_br, Q.v_sh, Q.v_fr, Q.e_val, Q.e_tst, Q.e_io, Q.e_md, Q.kC', Q.kV', Q.kU', Q.kB', Q.kP0, Q.kP1, Q.kS', Q.kT', Q.kCh', Q.bl_s, Q.kVa, Q.kN', Q.kI', Q.kIT, Q.kAV, Q.kAT, Q.kSh, Q.kNl, Q.kCo, Q.kVw', Q.kSt, Q.kTu, Q.kLs, Q.kBi', Q.dr_n, Q.dr_c, Q.kMm', Q.kMt, Q.kMf, Q.kCa, Q.kCk, Q.cs, Q.av_n, Q.av_s, Q.av_i, Q.ai_n, Q.ai_s, Q.ai_i, Q.io_s, Q.io_i, Q.st_n, Q.st_c, Q.mu_l, Q.mu_d, Q.mu_o, Q.sa, Q.fa, Q.f_no, Q.f_sh, Q.f_ow, Q.bv, Q.ag_n, Q.ag_t, Q.an, Q.at_, Q.as_n, Q.as_c, Q.pv, Q.rt_s, Q.rt_f, Q.rt_b, Q.kIv, Q.kYs, Q.os_n, Q.os_t, Q.os_f, Q.is_t, Q.is_f, Q.is_n, Q.rs, Q.so, Q.l_int, Q.le_int, Q.g_int, Q.ge_int, Q.eq_d, Q.ne_d, Q.is_non, Q.bo', Q.tr_b, Q.tr_i, Q.tr_l, Q.ad_i, Q.sb_i, Q.ml_i, Q.fd_i, Q.md_i, Q.pw_i, Q.ad_l, Q.su_l, Q.su_t, Q.bi1', Q.i_i, Q.i_b, Q.ab_i, Q.le_l, Q.le_t, Q.li_l, Q.tu_l, Q.ng_i, Q.sx_l, Q.bm_s, exb, exs, evc, evl, evi, List.getElem?_cons_zero, List.getElem?_cons_succ, List.getElem?_nil, List.set_cons_zero, List.set_cons_succ, List.length_cons, List.length_nil, Option.bind_some, Option.bind_none, Option.map_some, Option.map_none, List.map_cons, List.map_nil, List.replicate_zero, List.replicate_succ, List.append_nil, List.cons_append, List.nil_append, Bool.not_true, Bool.not_false, Bool.false_eq_true, if_true, if_false, ite_true, ite_false, Option.isSome_some, Option.isSome_none, Bool.and_true, Bool.true_and, Bool.and_false, Bool.false_and, Bool.or_true, Bool.true_or, Bool.or_false, Bool.false_or, Nat.reduceAdd, Nat.reduceSub, Nat.sub_self, Nat.add_zero, Nat.zero_add, Nat.reduceLT, Nat.reduceLeDiff, reduceCtorEq, List.nodup_nil, List.nodup_cons, List.not_mem_nil, not_false_eq_true, and_self, and_true, true_and, decide_true, decide_false, List.tail_cons, List.headD_cons, CE.isNoe, CL.len, Bool.true_eq_false, Int.reduceLT, Int.reduceLE, Int.reduceToNat, reduceIte, hmd, hm, mu, ha]
def stirB (nm : Str) (sg : FSig) : CB :=
  (.cons (.par 2 3 (.bi .list (.cons (.var 1) .nil)) (.lst .nil))
  (.cons (.whl 4096 (.cmp .NotEq (.var 2) (.lst .nil)) (.cons (.expr (.mm .append 3 (.cons (.mm .popAt 2 (.cons (.call nm sg (.cons (.var 0) (.cons (.bi .len (.cons (.var 2) .nil)) .nil))) .nil)) .nil)))
  .nil))
  (.cons (.ret (.var 3))
  .nil)))
def Stirs (sg : FSig) : Prop := sg.md = [true, false] ∧ ∀ n d xs, TubOk n d → n + xs.length ≤ 4000 → (∀ x ∈ xs, PD 40 x) → ∃ (ys : List D) (d' : D), ys.Perm xs ∧ sg.m [d, .lst xs] = .ok true (.lst ys) [d'] ∧ TubOk (n + xs.length) d'
theorem sizeLine_big {n : Nat} (h : n ≤ 4096) : n < sizeLine := by rw [sizeLine_eq]; omega
theorem whl_go {c : KT} {b : SS → F} {n : Nat} {S S1 S2 : SS} (hc : c S = .ok true S1) (hb : b S1 = .nx S2) : whlF c b (n + 1) S = whlF c b n S2 := by
  rw [whlF, hc]
  simp only [Q.t_ok, if_true, hb]
theorem whl_end {c : KT} {b : SS → F} {n : Nat} {S S1 : SS} (hc : c S = .ok false S1) : whlF c b (n + 1) S = .nx S1 := by
  rw [whlF, hc]
  simp only [Q.t_ok, Bool.false_eq_true, if_false]
theorem exb_nx {s : CS} {b : CB} {S S1 : SS} (h : exs s S = .nx S1) : exb (.cons s b) S = exb b S1 := by
  rw [exb, h]; rfl
theorem exb_wh {fuel : Nat} {c : CE} {b r : CB} {S S1 : SS} (h : whlF (evc c).tst (exb b) fuel S = .nx S1) : exb (.cons (.whl fuel c b) r) S = exb r S1 := exb_nx (by rw [exs]; exact h)
theorem exb_rt {s : CS} {b : CB} {S S1 : SS} {fr : Bool} {d : D} (h : exs s S = .rt fr d S1) : exb (.cons s b) S = .rt fr d S1 := by
  rw [exb, h]; rfl
theorem runS_rt {n : Nat} {ms : List Bool} {b : SS → F} {ds o : List D} {fr : Bool} {d : D} {S : SS} (hl : ms.length = ds.length) (h : b (slotsOf n ms ds) = .rt fr d S) (ho : outsS ms S = some o) : runS n ms b ds = .ok fr d o := by
  rw [Q.rs, if_pos hl, h]
  simp only [ho]
theorem erase_perm {α : Type} : ∀ (l : List α) (i : Nat) (h : i < l.length), (l[i] :: l.eraseIdx i).Perm l
  | [], i, h => absurd h (Nat.not_lt_zero i)
  | x :: l, 0, h => .refl _
  | x :: l, i + 1, h => by
    have hi : i < l.length := by simpa using h
    have ih := erase_perm l i hi
    show (l[i] :: x :: l.eraseIdx i).Perm (x :: l)
    exact (List.Perm.swap x _ _).trans (ih.cons x)
theorem stir_loop {sg : FSig} {nm : Str} (hd : Draws sg) (k : Nat) : ∀ (n : Nat) (fuel : Nat) (d z : D) (left found : List D), left.length = k → k < fuel → TubOk n d → n + k ≤ 4000 → found.length + k ≤ 4000 → (∀ x ∈ left, PD 40 x) →
    ∃ (ys : List D) (d' : D), ys.Perm left ∧ TubOk (n + k) d' ∧ whlF (evc (.cmp .NotEq (.var 2) (.lst .nil))).tst (exb (.cons (.expr (.mm .append 3 (.cons (.mm .popAt 2 (.cons (.call nm sg (.cons (.var 0) (.cons (.bi .len (.cons (.var 2) .nil)) .nil))) .nil)) .nil))) .nil)) fuel
      [.io d, .sh z, .ow (.lst left), .ow (.lst found)] = .nx [.io d', .sh z, .ow (.lst []), .ow (.lst (found ++ ys))] := by
  induction k with
  | zero =>
    intro n fuel d z left found hl hf tok _ _ _
    cases fuel with
    | zero => exact absurd hf (Nat.not_lt_zero _)
    | succ fuel =>
      have : left = [] := List.length_eq_zero_iff.mp hl
      subst this
      refine ⟨[], d, .refl _, tok, ?_⟩
      have e : eqD (.lst []) (.lst []) = some true := rfl
      rw [List.append_nil]
      refine whl_end ?_
      simp only [Q.b_ok, Q.b_ex, Q.b_bd, Q.t_ok, Q.t_ex, Q.t_bd, Q.s_nx, Q.s_rt, Q.s_bk, Q.s_ct, Q.s_ex, Q.s_bd, Q.p_sm, Q.p_no, Q.r_sh, Q.r_l, Q.r_t, Q.r_d, Q.w_sh, Q.w_fr, Q.w_br, Q.d_sh, Q.d_fr, Q.d_br, Q.a_sh, Q.a_ow, Q.a_io, Q.a_lk, Q.m_ow, Q.m_io, Q.m_sh, Q.h_sh, Q.h_fr, Q.h_br, Q.c_sh, Q.c_fr, Q.c_br, Q.v_sh, Q.v_fr, Q.e_val, Q.e_tst, Q.e_io, Q.e_md, Q.kC', Q.kV', Q.kU', Q.kB', Q.kP0, Q.kP1, Q.kS', Q.kT', Q.kCh', Q.bl_s, Q.kVa, Q.kN', Q.kI', Q.kIT, Q.kAV, Q.kAT, Q.kSh, Q.kNl, Q.kCo, Q.kVw', Q.kSt, Q.kTu, Q.kLs, Q.kBi', Q.dr_n, Q.dr_c, Q.kMm', Q.kMt, Q.kMf, Q.kCa, Q.kCk, Q.cs, Q.av_n, Q.av_s, Q.av_i, Q.ai_n, Q.ai_s, Q.ai_i, Q.io_s, Q.io_i, Q.st_n, Q.st_c, Q.mu_l, Q.mu_d, Q.mu_o, Q.sa, Q.fa, Q.f_no, Q.f_sh, Q.f_ow, Q.bv, Q.ag_n, Q.ag_t, Q.an, Q.at_, Q.as_n, Q.as_c, Q.pv, Q.rt_s, Q.rt_f, Q.rt_b, Q.kIv, Q.kYs, Q.os_n, Q.os_t, Q.os_f, Q.is_t, Q.is_f, Q.is_n, Q.rs, Q.so, Q.l_int, Q.le_int, Q.g_int, Q.ge_int, Q.eq_d, Q.ne_d, Q.is_non, Q.bo', Q.tr_b, Q.tr_i, Q.tr_l, Q.ad_i, Q.sb_i, Q.ml_i, Q.fd_i, Q.md_i, Q.pw_i, Q.ad_l, Q.su_l, Q.su_t, Q.bi1', Q.i_i, Q.i_b, Q.ab_i, Q.le_l, Q.le_t, Q.li_l, Q.tu_l, Q.ng_i, Q.sx_l, Q.bm_s, exb, exs, evc, evl, evi, List.getElem?_cons_zero, List.getElem?_cons_succ, List.getElem?_nil, List.set_cons_zero, List.set_cons_succ, List.length_cons, List.length_nil, Option.bind_some, Option.bind_none, Option.map_some, Option.map_none, List.map_cons, List.map_nil, List.replicate_zero, List.replicate_succ, List.append_nil, List.cons_append, List.nil_append, Bool.not_true, Bool.not_false, Bool.false_eq_true, if_true, if_false, ite_true, ite_false, Option.isSome_some, Option.isSome_none, Bool.and_true, Bool.true_and, Bool.and_false, Bool.false_and, Bool.or_true, Bool.true_or, Bool.or_false, Bool.false_or, Nat.reduceAdd, Nat.reduceSub, Nat.sub_self, Nat.add_zero, Nat.zero_add, Nat.reduceLT, Nat.reduceLeDiff, reduceCtorEq, List.nodup_nil, List.nodup_cons, List.not_mem_nil, not_false_eq_true, and_self, and_true, true_and, decide_true, decide_false, List.tail_cons, List.headD_cons, CE.isNoe, CL.len, Bool.true_eq_false, Int.reduceLT, Int.reduceLE, Int.reduceToNat, reduceIte, e, sizeLine_pos]
  | succ k ih =>
    intro n fuel d z left found hl hf tok hn hfd hp
    cases fuel with
    | zero => exact absurd hf (Nat.not_lt_zero _)
    | succ fuel =>
    have e : eqD (.lst left) (.lst []) = some false := by
      rw [eqD_nil hp]
      cases left with
      | nil => cases hl
      | cons _ _ => rfl
    obtain ⟨v, d', hm, v0, v1, tok'⟩ := hd.2 n d (left.length : Nat) tok (by omega) (by omega) (by omega)
    have hv : v.toNat < left.length := by omega
    have hpop : mmD .popAt (.lst left) [.int v] = some (left[v.toNat], .lst (left.eraseIdx v.toNat)) := by
      show (if decide (-(2 ^ 63) ≤ v) && decide (v < 2 ^ 63) then (seqIndex? v left.length).bind fun k => (left[k]?).map fun y => (y, D.lst (left.eraseIdx k)) else none) = _
      rw [if_pos (by simp only [Bool.and_eq_true, decide_eq_true_eq]; omega), seqIndex_of v0 v1]
      show (left[v.toNat]?).map _ = _
      rw [List.getElem?_eq_getElem hv]; rfl
    have happ : mmD .append (.lst found) [left[v.toNat]] = some (.non, .lst (found ++ [left[v.toNat]])) := by
      show (if found.length < sizeLine then some (D.non, D.lst (found ++ [left[v.toNat]])) else none) = _
      rw [if_pos (sizeLine_big (by omega))]
    have pm : (left[v.toNat] :: left.eraseIdx v.toNat).Perm left := erase_perm left v.toNat hv
    have hl' : (left.eraseIdx v.toNat).length = k := by rw [List.length_eraseIdx_of_lt hv]; omega
    obtain ⟨ys, d2, p2, tok2, h2⟩ := ih (n + 1) fuel d' z (left.eraseIdx v.toNat) (found ++ [left[v.toNat]]) hl' (by omega) tok' (by omega) (by simp; omega) (fun x hx => hp x (List.mem_of_mem_eraseIdx hx))
    refine ⟨left[v.toNat] :: ys, d2, (p2.cons _).trans pm, (show n + (k + 1) = n + 1 + k by omega) ▸ tok2, ?_⟩
    have hmd := hd.1
    have mu := tok'.mu
    have is1 : isSeqL (.lst left) = true := rfl
    have is2 : isSeqL (.lst found) = true := rfl
    rw [List.append_assoc] at h2
    refine (whl_go (S1 := [.io d, .sh z, .ow (.lst left), .ow (.lst found)]) ?_ ?_).trans h2
    · simp only [Q.b_ok, Q.b_ex, Q.b_bd, Q.t_ok, Q.t_ex, Q.t_bd, Q.s_nx, Q.s_rt, Q.s_bk, Q.s_ct, Q.s_ex, Q.s_bd, Q.p_sm, Q.p_no, Q.r_sh, Q.r_l, Q.r_t, Q.r_d, Q.w_sh, Q.w_fr, Q.w_br, Q.d_sh, Q.d_fr, Q.d_br, Q.a_sh, Q.a_ow, Q.a_io, Q.a_lk, Q.m_ow, Q.m_io, Q.m_sh, Q.h_sh, Q.h_fr, Q.h_br, Q.c_sh, Q.c_fr, Q.c_br, Q.v_sh, Q.v_fr, Q.e_val, Q.e_tst, Q.e_io, Q.e_md, Q.kC', Q.kV', Q.kU', Q.kB', Q.kP0, Q.kP1, Q.kS', Q.kT', Q.kCh', Q.bl_s, Q.kVa, Q.kN', Q.kI', Q.kIT, Q.kAV, Q.kAT, Q.kSh, Q.kNl, Q.kCo, Q.kVw', Q.kSt, Q.kTu, Q.kLs, Q.kBi', Q.dr_n, Q.dr_c, Q.kMm', Q.kMt, Q.kMf, Q.kCa, Q.kCk, Q.cs, Q.av_n, Q.av_s, Q.av_i, Q.ai_n, Q.ai_s, Q.ai_i, Q.io_s, Q.io_i, Q.st_n, Q.st_c, Q.mu_l, Q.mu_d, Q.mu_o, Q.sa, Q.fa, Q.f_no, Q.f_sh, Q.f_ow, Q.bv, Q.ag_n, Q.ag_t, Q.an, Q.at_, Q.as_n, Q.as_c, Q.pv, Q.rt_s, Q.rt_f, Q.rt_b, Q.kIv, Q.kYs, Q.os_n, Q.os_t, Q.os_f, Q.is_t, Q.is_f, Q.is_n, Q.rs, Q.so, Q.l_int, Q.le_int, Q.g_int, Q.ge_int, Q.eq_d, Q.ne_d, Q.is_non, Q.bo', Q.tr_b, Q.tr_i, Q.tr_l, Q.ad_i, Q.sb_i, Q.ml_i, Q.fd_i, Q.md_i, Q.pw_i, Q.ad_l, Q.su_l, Q.su_t, Q.bi1', Q.i_i, Q.i_b, Q.ab_i, Q.le_l, Q.le_t, Q.li_l, Q.tu_l, Q.ng_i, Q.sx_l, Q.bm_s, exb, exs, evc, evl, evi, List.getElem?_cons_zero, List.getElem?_cons_succ, List.getElem?_nil, List.set_cons_zero, List.set_cons_succ, List.length_cons, List.length_nil, Option.bind_some, Option.bind_none, Option.map_some, Option.map_none, List.map_cons, List.map_nil, List.replicate_zero, List.replicate_succ, List.append_nil, List.cons_append, List.nil_append, Bool.not_true, Bool.not_false, Bool.false_eq_true, if_true, if_false, ite_true, ite_false, Option.isSome_some, Option.isSome_none, Bool.and_true, Bool.true_and, Bool.and_false, Bool.false_and, Bool.or_true, Bool.true_or, Bool.or_false, Bool.false_or, Nat.reduceAdd, Nat.reduceSub, Nat.sub_self, Nat.add_zero, Nat.zero_add, Nat.reduceLT, Nat.reduceLeDiff, reduceCtorEq, List.nodup_nil, List.nodup_cons, List.not_mem_nil, not_false_eq_true, and_self, and_true, true_and, decide_true, decide_false, List.tail_cons, List.headD_cons, CE.isNoe, CL.len, Bool.true_eq_false, Int.reduceLT, Int.reduceLE, Int.reduceToNat, reduceIte, e, sizeLine_pos]
    · simp only [Q.b_ok, Q.b_ex, Q.b_bd, Q.t_ok, Q.t_ex, Q.t_bd, Q.s_nx, Q.s_rt, Q.s_bk, Q.s_ct, Q.s_ex, Q.s_bd, Q.p_sm, Q.p_no, Q.r_sh, Q.r_l, Q.r_t, Q.r_d, Q.w_sh, Q.w_fr, Q.w_br, Q.d_sh, Q.d_fr, Q.d_br, Q.a_sh, Q.a_ow, Q.a_io, Q.a_lk, Q.m_ow, Q.m_io, Q.m_sh, Q.h_sh, Q.h_fr, Q.h_br, Q.c_sh, Q.c_fr, Q.c_br, Q.v_sh, Q.v_fr, Q.e_val, Q.e_tst, Q.e_io, Q.e_md, Q.kC', Q.kV', Q.kU', Q.kB', Q.kP0, Q.kP1, Q.kS', Q.kT', Q.kCh', Q.bl_s, Q.kVa, Q.kN', Q.kI', Q.kIT, Q.kAV, Q.kAT, Q.kSh, Q.kNl, Q.kCo, Q.kVw', Q.kSt, Q.kTu, Q.kLs, Q.kBi', Q.dr_n, Q.dr_c, Q.kMm', Q.kMt, Q.kMf, Q.kCa, Q.kCk, Q.cs, Q.av_n, Q.av_s, Q.av_i, Q.ai_n, Q.ai_s, Q.ai_i, Q.io_s, Q.io_i, Q.st_n, Q.st_c, Q.mu_l, Q.mu_d, Q.mu_o, Q.sa, Q.fa, Q.f_no, Q.f_sh, Q.f_ow, Q.bv, Q.ag_n, Q.ag_t, Q.an, Q.at_, Q.as_n, Q.as_c, Q.pv, Q.rt_s, Q.rt_f, Q.rt_b, Q.kIv, Q.kYs, Q.os_n, Q.os_t, Q.os_f, Q.is_t, Q.is_f, Q.is_n, Q.rs, Q.so, Q.l_int, Q.le_int, Q.g_int, Q.ge_int, Q.eq_d, Q.ne_d, Q.is_non, Q.bo', Q.tr_b, Q.tr_i, Q.tr_l, Q.ad_i, Q.sb_i, Q.ml_i, Q.fd_i, Q.md_i, Q.pw_i, Q.ad_l, Q.su_l, Q.su_t, Q.bi1', Q.i_i, Q.i_b, Q.ab_i, Q.le_l, Q.le_t, Q.li_l, Q.tu_l, Q.ng_i, Q.sx_l, Q.bm_s, exb, exs, evc, evl, evi, List.getElem?_cons_zero, List.getElem?_cons_succ, List.getElem?_nil, List.set_cons_zero, List.set_cons_succ, List.length_cons, List.length_nil, Option.bind_some, Option.bind_none, Option.map_some, Option.map_none, List.map_cons, List.map_nil, List.replicate_zero, List.replicate_succ, List.append_nil, List.cons_append, List.nil_append, Bool.not_true, Bool.not_false, Bool.false_eq_true, if_true, if_false, ite_true, ite_false, Option.isSome_some, Option.isSome_none, Bool.and_true, Bool.true_and, Bool.and_false, Bool.false_and, Bool.or_true, Bool.true_or, Bool.or_false, Bool.false_or, Nat.reduceAdd, Nat.reduceSub, Nat.sub_self, Nat.add_zero, Nat.zero_add, Nat.reduceLT, Nat.reduceLeDiff, reduceCtorEq, List.nodup_nil, List.nodup_cons, List.not_mem_nil, not_false_eq_true, and_self, and_true, true_and, decide_true, decide_false, List.tail_cons, List.headD_cons, CE.isNoe, CL.len, Bool.true_eq_false, Int.reduceLT, Int.reduceLE, Int.reduceToNat, reduceIte, hmd, hm, mu, hpop, happ, is1, is2]
theorem stir_of {nm : Str} {sg : FSig} (hd : Draws sg) : Stirs ⟨[true, false], runS 4 [true, false] (exb (stirB nm sg))⟩ := by
  refine ⟨rfl, fun n d xs tok hn hp => ?_⟩
  obtain ⟨ys, d', p, tok', h⟩ := stir_loop (nm := nm) hd xs.length n 4096 d (.lst xs) xs [] rfl (by omega) tok hn (by simp; omega) hp
  refine ⟨ys, d', p, ?_, tok'⟩
  have b1 : ((2 : Nat) != 3) = true := rfl
  refine runS_rt (n := 4) (ds := [d, .lst xs]) (b := exb (stirB nm sg)) (ms := [true, false]) (o := [d']) (S := [.io d', .sh (.lst xs), .ow (.lst []), .no]) rfl ?_ rfl
  have e0 : slotsOf 4 [true, false] [d, .lst xs] = [.io d, .sh (.lst xs), .no, .no] := rfl
  rw [e0]
  unfold stirB
  refine (exb_nx (S1 := [.io d, .sh (.lst xs), .ow (.lst xs), .ow (.lst [])]) ?_).trans ((exb_wh h).trans (exb_rt ?_))
  · simp only [Q.b_ok, Q.b_ex, Q.b_bd, Q.t_ok, Q.t_ex, Q.t_bd, Q.s_nx, Q.s_rt, Q.s_bk, Q.s_ct, Q.s_ex, Q.s_bd, Q.p_sm, Q.p_no, Q.r_sh, Q.r_l, Q.r_t, Q.r_d, Q.w_sh, Q.w_fr, Q.w_br, Q.d_sh, Q.d_fr, Q.d_br, Q.a_sh, Q.a_ow, Q.a_io, Q.a_lk, Q.m_ow, Q.m_io, Q.m_sh, Q.h_sh, Q.h_fr, Q.h_br, Q.c_sh, Q.c_fr, Q.c_br, Q.v_sh, Q.v_fr, Q.e_val, Q.e_tst, Q.e_io, Q.e_md, Q.kC', Q.kV', Q.kU', Q.kB', Q.kP0, Q.kP1, Q.kS', Q.kT', Q.kCh', Q.bl_s, Q.kVa, Q.kN', Q.kI', Q.kIT, Q.kAV, Q.kAT, Q.kSh, Q.kNl, Q.kCo, Q.kVw', Q.kSt, Q.kTu, Q.kLs, Q.kBi', Q.dr_n, Q.dr_c, Q.kMm', Q.kMt, Q.kMf, Q.kCa, Q.kCk, Q.cs, Q.av_n, Q.av_s, Q.av_i, Q.ai_n, Q.ai_s, Q.ai_i, Q.io_s, Q.io_i, Q.st_n, Q.st_c, Q.mu_l, Q.mu_d, Q.mu_o, Q.sa, Q.fa, Q.f_no, Q.f_sh, Q.f_ow, Q.bv, Q.ag_n, Q.ag_t, Q.an, Q.at_, Q.as_n, Q.as_c, Q.pv, Q.rt_s, Q.rt_f, Q.rt_b, Q.kIv, Q.kYs, Q.os_n, Q.os_t, Q.os_f, Q.is_t, Q.is_f, Q.is_n, Q.rs, Q.so, Q.l_int, Q.le_int, Q.g_int, Q.ge_int, Q.eq_d, Q.ne_d, Q.is_non, Q.bo', Q.tr_b, Q.tr_i, Q.tr_l, Q.ad_i, Q.sb_i, Q.ml_i, Q.fd_i, Q.md_i, Q.pw_i, Q.ad_l, Q.su_l, Q.su_t, Q.bi1', Q.i_i, Q.i_b, Q.ab_i, Q.le_l, Q.le_t, Q.li_l, Q.tu_l, Q.ng_i, Q.sx_l, Q.bm_s, exb, exs, evc, evl, evi, List.getElem?_cons_zero, List.getElem?_cons_succ, List.getElem?_nil, List.set_cons_zero, List.set_cons_succ, List.length_cons, List.length_nil, Option.bind_some, Option.bind_none, Option.map_some, Option.map_none, List.map_cons, List.map_nil, List.replicate_zero, List.replicate_succ, List.append_nil, List.cons_append, List.nil_append, Bool.not_true, Bool.not_false, Bool.false_eq_true, if_true, if_false, ite_true, ite_false, Option.isSome_some, Option.isSome_none, Bool.and_true, Bool.true_and, Bool.and_false, Bool.false_and, Bool.or_true, Bool.true_or, Bool.or_false, Bool.false_or, Nat.reduceAdd, Nat.reduceSub, Nat.sub_self, Nat.add_zero, Nat.zero_add, Nat.reduceLT, Nat.reduceLeDiff, reduceCtorEq, List.nodup_nil, List.nodup_cons, List.not_mem_nil, not_false_eq_true, and_self, and_true, true_and, decide_true, decide_false, List.tail_cons, List.headD_cons, CE.isNoe, CL.len, Bool.true_eq_false, Int.reduceLT, Int.reduceLE, Int.reduceToNat, reduceIte, sizeLine_pos, b1]
  · simp only [Q.b_ok, Q.b_ex, Q.b_bd, Q.t_ok, Q.t_ex, Q.t_bd, Q.s_nx, Q.s_rt, Q.s_bk, Q.s_ct, Q.s_ex, Q.s_bd, Q.p_sm, Q.p_no, Q.r_sh, Q.r_l, Q.r_t, Q.r_d, Q.w_sh, Q.w_fr, Q.w_br, Q.d_sh, Q.d_fr, Q.d_br, Q.a_sh, Q.a_ow, Q.a_io, Q.a_lk, Q.m_ow, Q.m_io, Q.m_sh, Q.h_sh, Q.h_fr, Q.h_br, Q.c_sh, Q.c_fr, Q.c_br, Q.v_sh, Q.v_fr, Q.e_val, Q.e_tst, Q.e_io, Q.e_md, Q.kC', Q.kV', Q.kU', Q.kB', Q.kP0, Q.kP1, Q.kS', Q.kT', Q.kCh', Q.bl_s, Q.kVa, Q.kN', Q.kI', Q.kIT, Q.kAV, Q.kAT, Q.kSh, Q.kNl, Q.kCo, Q.kVw', Q.kSt, Q.kTu, Q.kLs, Q.kBi', Q.dr_n, Q.dr_c, Q.kMm', Q.kMt, Q.kMf, Q.kCa, Q.kCk, Q.cs, Q.av_n, Q.av_s, Q.av_i, Q.ai_n, Q.ai_s, Q.ai_i, Q.io_s, Q.io_i, Q.st_n, Q.st_c, Q.mu_l, Q.mu_d, Q.mu_o, Q.sa, Q.fa, Q.f_no, Q.f_sh, Q.f_ow, Q.bv, Q.ag_n, Q.ag_t, Q.an, Q.at_, Q.as_n, Q.as_c, Q.pv, Q.rt_s, Q.rt_f, Q.rt_b, Q.kIv, Q.kYs, Q.os_n, Q.os_t, Q.os_f, Q.is_t, Q.is_f, Q.is_n, Q.rs, Q.so, Q.l_int, Q.le_int, Q.g_int, Q.ge_int, Q.eq_d, Q.ne_d, Q.is_non, Q.bo', Q.tr_b, Q.tr_i, Q.tr_l, Q.ad_i, Q.sb_i, Q.ml_i, Q.fd_i, Q.md_i, Q.pw_i, Q.ad_l, Q.su_l, Q.su_t, Q.bi1', Q.i_i, Q.i_b, Q.ab_i, Q.le_l, Q.le_t, Q.li_l, Q.tu_l, Q.ng_i, Q.sx_l, Q.bm_s, exb, exs, evc, evl, evi, List.getElem?_cons_zero, List.getElem?_cons_succ, List.getElem?_nil, List.set_cons_zero, List.set_cons_succ, List.length_cons, List.length_nil, Option.bind_some, Option.bind_none, Option.map_some, Option.map_none, List.map_cons, List.map_nil, List.replicate_zero, List.replicate_succ, List.append_nil, List.cons_append, List.nil_append, Bool.not_true, Bool.not_false, Bool.false_eq_true, if_true, if_false, ite_true, ite_false, Option.isSome_some, Option.isSome_none, Bool.and_true, Bool.true_and, Bool.and_false, Bool.false_and, Bool.or_true, Bool.true_or, Bool.or_false, Bool.false_or, Nat.reduceAdd, Nat.reduceSub, Nat.sub_self, Nat.add_zero, Nat.zero_add, Nat.reduceLT, Nat.reduceLeDiff, reduceCtorEq, List.nodup_nil, List.nodup_cons, List.not_mem_nil, not_false_eq_true, and_self, and_true, true_and, decide_true, decide_false, List.tail_cons, List.headD_cons, CE.isNoe, CL.len, Bool.true_eq_false, Int.reduceLT, Int.reduceLE, Int.reduceToNat, reduceIte, sizeLine_pos, b1]
/-! ### comprehensions that only look -/
theorem loopC_map {step : D → SS → R (Option D)} {S : SS} {f : D → D} : ∀ {xs acc : List D}, (∀ x ∈ xs, step x S = .ok (some (f x)) S) → acc.length + xs.length ≤ 4000 → loopC step xs acc S = .ok (acc ++ xs.map f) S
  | [], acc, _, _ => by rw [loopC, List.map_nil, List.append_nil]
  | x :: xs, acc, h, hl => by
    have hl' : acc.length + (xs.length + 1) ≤ 4000 := hl
    rw [loopC, h x (by simp)]
    simp only [Q.b_ok]
    rw [if_pos (sizeLine_big (by omega)), loopC_map (fun y hy => h y (by simp [hy])) (by simp; omega), List.map_cons, List.append_assoc]
    rfl
theorem kComp_map {elt : KE} {tg : Tg} {it : SS → R (List D × Option Nat)} {ifs : KT} {own : List Nat} {S S1 : SS} {xs : List D} {u : Option Nat} {f : D → D} (hi : it S = .ok (xs, u) S1) (h : ∀ x ∈ xs, turnC elt tg ifs own x S1 = .ok (some (f x)) S1) (hl : xs.length ≤ 4000) :
    kComp elt tg it ifs own S = .ok (.fr (.lst (xs.map f))) (unlock S1 u) := by
  unfold kComp
  rw [hi]
  simp only [Q.b_ok]
  rw [loopC_map (f := f) h (by simp; omega)]
  rfl
theorem allB_map (g : D → Bool) : ∀ xs : List D, allB (xs.map fun x => .bl (g x)) = some (xs.map g)
  | [] => rfl
  | x :: xs => by rw [List.map_cons, List.map_cons, allB, allB_map g xs]; rfl
theorem allI_ints : ∀ ns : List Int, allI (ns.map D.int) = some ns
  | [] => rfl
  | n :: ns => by rw [List.map_cons, allI, allI_ints ns]; rfl
theorem eq_ii {i j : Int} : eqD (.int i) (.int j) = some (i == j) := rfl
/-- the tub at the start -/
def tubB (k : Int) : CB := (.cons (.ret (.lst (.cons (.comp (.bi .int (.cons (.var 1) .nil)) (.nm 1) (.val (.slc (.var 0) .noe (.int k))) .nil [1]) (.cons (.int 0) (.cons (.int 0) .nil)))))
  .nil)
def MakesTub (sg : FSig) : Prop := sg.md = [false] ∧ ∀ ns : List Int, ns.length ≤ 4000 → ∃ c, sg.m [.scr (ns.map D.int)] = .ok true (Tub c 0 0) []
theorem cutD_map (ns : List Int) (l h : Option Int) : ∃ c : List Int, cutD (ns.map D.int) l h = c.map D.int ∧ c.length ≤ ns.length := by
  unfold cutD
  exact ⟨(ns.drop (HT.sIx (ns.map D.int).length 0 l)).take (HT.sIx (ns.map D.int).length (ns.map D.int).length h - HT.sIx (ns.map D.int).length 0 l), by rw [List.map_take, List.map_drop], by rw [List.length_take, List.length_drop]; omega⟩
theorem sizeLine3 : (3 ≤ sizeLine) = True := eq_true (by rw [sizeLine_eq]; decide)
theorem tub_of {k : Int} : MakesTub ⟨[false], runS 2 [false] (exb (tubB k))⟩ := by
  refine ⟨rfl, fun ns hn => ?_⟩
  obtain ⟨c, hc, hcl⟩ := cutD_map ns none (some k)
  refine ⟨c, ?_⟩
  have hs : slcD none (some k) (.scr (ns.map D.int)) = some (.nw (.lst (c.map D.int))) := by rw [← hc]; rfl
  have hi : evi (.val (.slc (.var 0) .noe (.int k))) [.sh (.scr (ns.map D.int)), .no] = .ok (c.map D.int, none) [.sh (.scr (ns.map D.int)), .no] := by
    simp only [Q.b_ok, Q.b_ex, Q.b_bd, Q.t_ok, Q.t_ex, Q.t_bd, Q.s_nx, Q.s_rt, Q.s_bk, Q.s_ct, Q.s_ex, Q.s_bd, Q.p_sm, Q.p_no, Q.r_sh, Q.r_l, Q.r_t, Q.r_d, Q.w_sh, Q.w_fr, Q.w_br, Q.d_sh, Q.d_fr, Q.d_br, Q.a_sh, Q.a_ow, Q.a_io, Q.a_lk, Q.m_ow, Q.m_io, Q.m_sh, Q.h_sh, Q.h_fr, Q.h_br, Q.c_sh, Q.c_fr, Q.c_br, Q.v_sh, Q.v_fr, Q.e_val, Q.e_tst, Q.e_io, Q.e_md, Q.kC', Q.kV', Q.kU', Q.kB', Q.kP0, Q.kP1, Q.kS', Q.kT', Q.kCh', Q.bl_s, Q.kVa, Q.kN', Q.kI', Q.kIT, Q.kAV, Q.kAT, Q.kSh, Q.kNl, Q.kCo, Q.kVw', Q.kSt, Q.kTu, Q.kLs, Q.kBi', Q.dr_n, Q.dr_c, Q.kMm', Q.kMt, Q.kMf, Q.kCa, Q.kCk, Q.cs, Q.av_n, Q.av_s, Q.av_i, Q.ai_n, Q.ai_s, Q.ai_i, Q.io_s, Q.io_i, Q.st_n, Q.st_c, Q.mu_l, Q.mu_d, Q.mu_o, Q.sa, Q.fa, Q.f_no, Q.f_sh, Q.f_ow, Q.bv, Q.ag_n, Q.ag_t, Q.an, Q.at_, Q.as_n, Q.as_c, Q.pv, Q.rt_s, Q.rt_f, Q.rt_b, Q.kIv, Q.kYs, Q.os_n, Q.os_t, Q.os_f, Q.is_t, Q.is_f, Q.is_n, Q.rs, Q.so, Q.l_int, Q.le_int, Q.g_int, Q.ge_int, Q.eq_d, Q.ne_d, Q.is_non, Q.bo', Q.tr_b, Q.tr_i, Q.tr_l, Q.ad_i, Q.sb_i, Q.ml_i, Q.fd_i, Q.md_i, Q.pw_i, Q.ad_l, Q.su_l, Q.su_t, Q.bi1', Q.i_i, Q.i_b, Q.ab_i, Q.le_l, Q.le_t, Q.li_l, Q.tu_l, Q.ng_i, Q.sx_l, Q.bm_s, exb, exs, evc, evl, evi, List.getElem?_cons_zero, List.getElem?_cons_succ, List.getElem?_nil, List.set_cons_zero, List.set_cons_succ, List.length_cons, List.length_nil, Option.bind_some, Option.bind_none, Option.map_some, Option.map_none, List.map_cons, List.map_nil, List.replicate_zero, List.replicate_succ, List.append_nil, List.cons_append, List.nil_append, Bool.not_true, Bool.not_false, Bool.false_eq_true, if_true, if_false, ite_true, ite_false, Option.isSome_some, Option.isSome_none, Bool.and_true, Bool.true_and, Bool.and_false, Bool.false_and, Bool.or_true, Bool.true_or, Bool.or_false, Bool.false_or, Nat.reduceAdd, Nat.reduceSub, Nat.sub_self, Nat.add_zero, Nat.zero_add, Nat.reduceLT, Nat.reduceLeDiff, reduceCtorEq, List.nodup_nil, List.nodup_cons, List.not_mem_nil, not_false_eq_true, and_self, and_true, true_and, decide_true, decide_false, List.tail_cons, List.headD_cons, CE.isNoe, CL.len, Bool.true_eq_false, Int.reduceLT, Int.reduceLE, Int.reduceToNat, reduceIte, hs, itemsOf]
  have ht : ∀ x ∈ c.map D.int, turnC (evc (.bi .int (.cons (.var 1) .nil))).val (.nm 1) ((evl .nil).tn true) [1] x [.sh (.scr (ns.map D.int)), .no] = .ok (some (id x)) [.sh (.scr (ns.map D.int)), .no] := fun x hx => by
    obtain ⟨i, _, rfl⟩ := List.mem_map.mp hx
    unfold turnC
    simp only [Q.b_ok, Q.b_ex, Q.b_bd, Q.t_ok, Q.t_ex, Q.t_bd, Q.s_nx, Q.s_rt, Q.s_bk, Q.s_ct, Q.s_ex, Q.s_bd, Q.p_sm, Q.p_no, Q.r_sh, Q.r_l, Q.r_t, Q.r_d, Q.w_sh, Q.w_fr, Q.w_br, Q.d_sh, Q.d_fr, Q.d_br, Q.a_sh, Q.a_ow, Q.a_io, Q.a_lk, Q.m_ow, Q.m_io, Q.m_sh, Q.h_sh, Q.h_fr, Q.h_br, Q.c_sh, Q.c_fr, Q.c_br, Q.v_sh, Q.v_fr, Q.e_val, Q.e_tst, Q.e_io, Q.e_md, Q.kC', Q.kV', Q.kU', Q.kB', Q.kP0, Q.kP1, Q.kS', Q.kT', Q.kCh', Q.bl_s, Q.kVa, Q.kN', Q.kI', Q.kIT, Q.kAV, Q.kAT, Q.kSh, Q.kNl, Q.kCo, Q.kVw', Q.kSt, Q.kTu, Q.kLs, Q.kBi', Q.dr_n, Q.dr_c, Q.kMm', Q.kMt, Q.kMf, Q.kCa, Q.kCk, Q.cs, Q.av_n, Q.av_s, Q.av_i, Q.ai_n, Q.ai_s, Q.ai_i, Q.io_s, Q.io_i, Q.st_n, Q.st_c, Q.mu_l, Q.mu_d, Q.mu_o, Q.sa, Q.fa, Q.f_no, Q.f_sh, Q.f_ow, Q.bv, Q.ag_n, Q.ag_t, Q.an, Q.at_, Q.as_n, Q.as_c, Q.pv, Q.rt_s, Q.rt_f, Q.rt_b, Q.kIv, Q.kYs, Q.os_n, Q.os_t, Q.os_f, Q.is_t, Q.is_f, Q.is_n, Q.rs, Q.so, Q.l_int, Q.le_int, Q.g_int, Q.ge_int, Q.eq_d, Q.ne_d, Q.is_non, Q.bo', Q.tr_b, Q.tr_i, Q.tr_l, Q.ad_i, Q.sb_i, Q.ml_i, Q.fd_i, Q.md_i, Q.pw_i, Q.ad_l, Q.su_l, Q.su_t, Q.bi1', Q.i_i, Q.i_b, Q.ab_i, Q.le_l, Q.le_t, Q.li_l, Q.tu_l, Q.ng_i, Q.sx_l, Q.bm_s, exb, exs, evc, evl, evi, List.getElem?_cons_zero, List.getElem?_cons_succ, List.getElem?_nil, List.set_cons_zero, List.set_cons_succ, List.length_cons, List.length_nil, Option.bind_some, Option.bind_none, Option.map_some, Option.map_none, List.map_cons, List.map_nil, List.replicate_zero, List.replicate_succ, List.append_nil, List.cons_append, List.nil_append, Bool.not_true, Bool.not_false, Bool.false_eq_true, if_true, if_false, ite_true, ite_false, Option.isSome_some, Option.isSome_none, Bool.and_true, Bool.true_and, Bool.and_false, Bool.false_and, Bool.or_true, Bool.true_or, Bool.or_false, Bool.false_or, Nat.reduceAdd, Nat.reduceSub, Nat.sub_self, Nat.add_zero, Nat.zero_add, Nat.reduceLT, Nat.reduceLeDiff, reduceCtorEq, List.nodup_nil, List.nodup_cons, List.not_mem_nil, not_false_eq_true, and_self, and_true, true_and, decide_true, decide_false, List.tail_cons, List.headD_cons, CE.isNoe, CL.len, Bool.true_eq_false, Int.reduceLT, Int.reduceLE, Int.reduceToNat, reduceIte, wipeS, backS, Option.getD_some, id]
  have hk := kComp_map (elt := (evc (.bi .int (.cons (.var 1) .nil))).val) (tg := .nm 1) (ifs := (evl .nil).tn true) (own := [1]) hi ht (by rw [List.length_map]; omega)
  rw [List.map_id, show unlock [SV.sh (.scr (ns.map D.int)), .no] none = [.sh (.scr (ns.map D.int)), .no] from rfl] at hk
  have he : (evc (.comp (.bi .int (.cons (.var 1) .nil)) (.nm 1) (.val (.slc (.var 0) .noe (.int k))) .nil [1])).val [.sh (.scr (ns.map D.int)), .no] = .ok (.fr (.lst (c.map D.int))) [.sh (.scr (ns.map D.int)), .no] := hk
  refine runS_rt (n := 2) (ds := [.scr (ns.map D.int)]) (b := exb (tubB k)) (ms := [false]) (o := []) (S := [.sh (.scr (ns.map D.int)), .no]) rfl ?_ rfl
  have e0 : slotsOf 2 [false] [.scr (ns.map D.int)] = [.sh (.scr (ns.map D.int)), .no] := rfl
  rw [e0]
  unfold tubB
  refine exb_rt ?_
  have hl : (evl (.cons (.comp (.bi .int (.cons (.var 1) .nil)) (.nm 1) (.val (.slc (.var 0) .noe (.int k))) .nil [1]) (.cons (.int 0) (.cons (.int 0) .nil)))).sh [.sh (.scr (ns.map D.int)), .no] = .ok [.lst (c.map D.int), .int 0, .int 0] [.sh (.scr (ns.map D.int)), .no] := by
    show kCons (kShr (evc (.comp (.bi .int (.cons (.var 1) .nil)) (.nm 1) (.val (.slc (.var 0) .noe (.int k))) .nil [1])).val) (evl (.cons (.int 0) (.cons (.int 0) .nil))).sh _ = _
    simp only [Q.kCo, Q.kSh, he]
    simp only [Q.b_ok, Q.b_ex, Q.b_bd, Q.t_ok, Q.t_ex, Q.t_bd, Q.s_nx, Q.s_rt, Q.s_bk, Q.s_ct, Q.s_ex, Q.s_bd, Q.p_sm, Q.p_no, Q.r_sh, Q.r_l, Q.r_t, Q.r_d, Q.w_sh, Q.w_fr, Q.w_br, Q.d_sh, Q.d_fr, Q.d_br, Q.a_sh, Q.a_ow, Q.a_io, Q.a_lk, Q.m_ow, Q.m_io, Q.m_sh, Q.h_sh, Q.h_fr, Q.h_br, Q.c_sh, Q.c_fr, Q.c_br, Q.v_sh, Q.v_fr, Q.e_val, Q.e_tst, Q.e_io, Q.e_md, Q.kC', Q.kV', Q.kU', Q.kB', Q.kP0, Q.kP1, Q.kS', Q.kT', Q.kCh', Q.bl_s, Q.kVa, Q.kN', Q.kI', Q.kIT, Q.kAV, Q.kAT, Q.kSh, Q.kNl, Q.kCo, Q.kVw', Q.kSt, Q.kTu, Q.kLs, Q.kBi', Q.dr_n, Q.dr_c, Q.kMm', Q.kMt, Q.kMf, Q.kCa, Q.kCk, Q.cs, Q.av_n, Q.av_s, Q.av_i, Q.ai_n, Q.ai_s, Q.ai_i, Q.io_s, Q.io_i, Q.st_n, Q.st_c, Q.mu_l, Q.mu_d, Q.mu_o, Q.sa, Q.fa, Q.f_no, Q.f_sh, Q.f_ow, Q.bv, Q.ag_n, Q.ag_t, Q.an, Q.at_, Q.as_n, Q.as_c, Q.pv, Q.rt_s, Q.rt_f, Q.rt_b, Q.kIv, Q.kYs, Q.os_n, Q.os_t, Q.os_f, Q.is_t, Q.is_f, Q.is_n, Q.rs, Q.so, Q.l_int, Q.le_int, Q.g_int, Q.ge_int, Q.eq_d, Q.ne_d, Q.is_non, Q.bo', Q.tr_b, Q.tr_i, Q.tr_l, Q.ad_i, Q.sb_i, Q.ml_i, Q.fd_i, Q.md_i, Q.pw_i, Q.ad_l, Q.su_l, Q.su_t, Q.bi1', Q.i_i, Q.i_b, Q.ab_i, Q.le_l, Q.le_t, Q.li_l, Q.tu_l, Q.ng_i, Q.sx_l, Q.bm_s, exb, exs, evc, evl, evi, List.getElem?_cons_zero, List.getElem?_cons_succ, List.getElem?_nil, List.set_cons_zero, List.set_cons_succ, List.length_cons, List.length_nil, Option.bind_some, Option.bind_none, Option.map_some, Option.map_none, List.map_cons, List.map_nil, List.replicate_zero, List.replicate_succ, List.append_nil, List.cons_append, List.nil_append, Bool.not_true, Bool.not_false, Bool.false_eq_true, if_true, if_false, ite_true, ite_false, Option.isSome_some, Option.isSome_none, Bool.and_true, Bool.true_and, Bool.and_false, Bool.false_and, Bool.or_true, Bool.true_or, Bool.or_false, Bool.false_or, Nat.reduceAdd, Nat.reduceSub, Nat.sub_self, Nat.add_zero, Nat.zero_add, Nat.reduceLT, Nat.reduceLeDiff, reduceCtorEq, List.nodup_nil, List.nodup_cons, List.not_mem_nil, not_false_eq_true, and_self, and_true, true_and, decide_true, decide_false, List.tail_cons, List.headD_cons, CE.isNoe, CL.len, Bool.true_eq_false, Int.reduceLT, Int.reduceLE, Int.reduceToNat, reduceIte, sizeLine_pos]
  show (kLst (evl (.cons (.comp (.bi .int (.cons (.var 1) .nil)) (.nm 1) (.val (.slc (.var 0) .noe (.int k))) .nil [1]) (.cons (.int 0) (.cons (.int 0) .nil)))).sh [.sh (.scr (ns.map D.int)), .no]).toF _ = _
  simp only [Q.kLs, hl]
  simp only [Q.b_ok, Q.b_ex, Q.b_bd, Q.t_ok, Q.t_ex, Q.t_bd, Q.s_nx, Q.s_rt, Q.s_bk, Q.s_ct, Q.s_ex, Q.s_bd, Q.p_sm, Q.p_no, Q.r_sh, Q.r_l, Q.r_t, Q.r_d, Q.w_sh, Q.w_fr, Q.w_br, Q.d_sh, Q.d_fr, Q.d_br, Q.a_sh, Q.a_ow, Q.a_io, Q.a_lk, Q.m_ow, Q.m_io, Q.m_sh, Q.h_sh, Q.h_fr, Q.h_br, Q.c_sh, Q.c_fr, Q.c_br, Q.v_sh, Q.v_fr, Q.e_val, Q.e_tst, Q.e_io, Q.e_md, Q.kC', Q.kV', Q.kU', Q.kB', Q.kP0, Q.kP1, Q.kS', Q.kT', Q.kCh', Q.bl_s, Q.kVa, Q.kN', Q.kI', Q.kIT, Q.kAV, Q.kAT, Q.kSh, Q.kNl, Q.kCo, Q.kVw', Q.kSt, Q.kTu, Q.kLs, Q.kBi', Q.dr_n, Q.dr_c, Q.kMm', Q.kMt, Q.kMf, Q.kCa, Q.kCk, Q.cs, Q.av_n, Q.av_s, Q.av_i, Q.ai_n, Q.ai_s, Q.ai_i, Q.io_s, Q.io_i, Q.st_n, Q.st_c, Q.mu_l, Q.mu_d, Q.mu_o, Q.sa, Q.fa, Q.f_no, Q.f_sh, Q.f_ow, Q.bv, Q.ag_n, Q.ag_t, Q.an, Q.at_, Q.as_n, Q.as_c, Q.pv, Q.rt_s, Q.rt_f, Q.rt_b, Q.kIv, Q.kYs, Q.os_n, Q.os_t, Q.os_f, Q.is_t, Q.is_f, Q.is_n, Q.rs, Q.so, Q.l_int, Q.le_int, Q.g_int, Q.ge_int, Q.eq_d, Q.ne_d, Q.is_non, Q.bo', Q.tr_b, Q.tr_i, Q.tr_l, Q.ad_i, Q.sb_i, Q.ml_i, Q.fd_i, Q.md_i, Q.pw_i, Q.ad_l, Q.su_l, Q.su_t, Q.bi1', Q.i_i, Q.i_b, Q.ab_i, Q.le_l, Q.le_t, Q.li_l, Q.tu_l, Q.ng_i, Q.sx_l, Q.bm_s, exb, exs, evc, evl, evi, List.getElem?_cons_zero, List.getElem?_cons_succ, List.getElem?_nil, List.set_cons_zero, List.set_cons_succ, List.length_cons, List.length_nil, Option.bind_some, Option.bind_none, Option.map_some, Option.map_none, List.map_cons, List.map_nil, List.replicate_zero, List.replicate_succ, List.append_nil, List.cons_append, List.nil_append, Bool.not_true, Bool.not_false, Bool.false_eq_true, if_true, if_false, ite_true, ite_false, Option.isSome_some, Option.isSome_none, Bool.and_true, Bool.true_and, Bool.and_false, Bool.false_and, Bool.or_true, Bool.true_or, Bool.or_false, Bool.false_or, Nat.reduceAdd, Nat.reduceSub, Nat.sub_self, Nat.add_zero, Nat.zero_add, Nat.reduceLT, Nat.reduceLeDiff, reduceCtorEq, List.nodup_nil, List.nodup_cons, List.not_mem_nil, not_false_eq_true, and_self, and_true, true_and, decide_true, decide_false, List.tail_cons, List.headD_cons, CE.isNoe, CL.len, Bool.true_eq_false, Int.reduceLT, Int.reduceLE, Int.reduceToNat, reduceIte, sizeLine3]
  rfl
end Eng

namespace LK02
open PySem PySem.Spec L2 Eng
open PyProof.Rows hiding St
def top (i : Nat) : Stmt := PySem.Challenge.pw_threelanes_k02_integers_and_lots.main.body.getD i (.Pass ⟨0, 0, 0, 0⟩)
abbrev s_is_integer : Stmt := top 1
def n_is_integer : List Str := ["value"]
def p_is_integer : List Str := ["value"]
def b_is_integer : CB := (.cons (.ret (.and_ (.cons (.isi (.var 0) [.int]) (.cons (.not (.isi (.var 0) [.bool])) .nil))))
  .nil)
def g_is_integer : FSig := ⟨[false], runS 1 [false] (exb b_is_integer)⟩
abbrev s_is_within : Stmt := top 2
def n_is_within : List Str := ["value", "least", "most"]
def p_is_within : List Str := ["value", "least", "most"]
def b_is_within : CB := (.cons (.ifs (.not (.call "is_integer" g_is_integer (.cons (.var 0) .nil))) (.cons (.ret (.bl false))
  .nil) .nil)
  (.cons (.ret (.and_ (.cons (.or_ (.cons (.cmp .Is (.var 1) .non) (.cons (.cmp .LtE (.var 1) (.var 0)) .nil))) (.cons (.or_ (.cons (.cmp .Is (.var 2) .non) (.cons (.cmp .LtE (.var 0) (.var 2)) .nil))) .nil))))
  .nil))
def g_is_within : FSig := ⟨[false, false, false], runS 3 [false, false, false] (exb b_is_within)⟩
abbrev s_is_lot : Stmt := top 3
def n_is_lot : List Str := ["value", "each"]
def p_is_lot : List Str := ["value"]
def b_is_lot : CB := (.cons (.ifs (.or_ (.cons (.not (.isi (.var 0) [.list, .tuple])) (.cons (.not (.bi .all (.cons (.comp (.call "is_within" g_is_within (.cons (.var 1) (.cons (.int 1) (.cons .non .nil)))) (.nm 1) (.val (.var 0)) .nil [1]) .nil))) .nil))) (.cons (.ret (.bl false))
  .nil) .nil)
  (.cons (.ret (.cmp .Eq (.lset (.var 0)) (.bi .len (.cons (.var 0) .nil))))
  .nil))
def g_is_lot : FSig := ⟨[false], runS 2 [false] (exb b_is_lot)⟩
abbrev s__law_tub : Stmt := top 5
def n__law_tub : List Str := ["_law_script", "_law_cell"]
def p__law_tub : List Str := ["_law_script"]
def b__law_tub : CB := (.cons (.ret (.lst (.cons (.comp (.bi .int (.cons (.var 1) .nil)) (.nm 1) (.val (.slc (.var 0) .noe (.int 60))) .nil [1]) (.cons (.int 0) (.cons (.int 0) .nil)))))
  .nil)
def g__law_tub : FSig := ⟨[false], runS 2 [false] (exb b__law_tub)⟩
abbrev s__law_scoop : Stmt := top 6
def n__law_scoop : List Str := ["_law_tub_here", "_law_many", "_law_turn", "_law_cell", "_law_mixed", "_law_rest"]
def p__law_scoop : List Str := ["_law_tub_here", "_law_many"]
def b__law_scoop : CB := (.cons (.ifs (.cmp .Gt (.sub (.var 0) (.int 2)) (.int 0)) (.cons (.asg (.nm 5) (.bi .int (.cons (.sub (.var 0) (.int 2)) .nil)))
  (.cons (.setix 0 (.int 2) (.bin .FloorDiv (.var 5) (.var 1)))
  (.cons (.ret (.bin .Mod (.bi .int (.cons (.var 5) .nil)) (.var 1)))
  .nil))) .nil)
  (.cons (.asg (.nm 2) (.sub (.var 0) (.int 1)))
  (.cons (.setix 0 (.int 1) (.bin .Add (.var 2) (.int 1)))
  (.cons (.asg (.nm 3) (.bin .Add (.bin .Mult (.int 70232) (.var 2)) (.int 9946)))
  (.cons (.ifs (.cmp .NotEq (.sub (.var 0) (.int 0)) (.lst .nil)) (.cons (.asg (.nm 3) (.sub (.sub (.var 0) (.int 0)) (.bin .Mod (.bi .int (.cons (.var 2) .nil)) (.bi .len (.cons (.sub (.var 0) (.int 0)) .nil)))))
  .nil) .nil)
  (.cons (.ifs (.and_ (.cons (.cmp .Lt (.var 2) (.bi .len (.cons (.sub (.var 0) (.int 0)) .nil))) (.cons (.cmp .GtE (.bi .abs (.cons (.var 3) .nil)) (.bin .Pow (.int 10) (.int 18))) .nil))) (.cons (.asg (.nm 5) (.bin .Add (.bin .Mult (.int 2) (.bin .Sub (.bi .abs (.cons (.var 3) .nil)) (.bin .Pow (.int 10) (.int 18)))) (.bi .int (.cons (.cmp .Lt (.var 3) (.int 0)) .nil))))
  (.cons (.setix 0 (.int 2) (.bin .FloorDiv (.var 5) (.var 1)))
  (.cons (.ret (.bin .Mod (.bi .int (.cons (.var 5) .nil)) (.var 1)))
  .nil))) .nil)
  (.cons (.asg (.nm 4) (.bin .Mod (.bi .int (.cons (.bin .Pow (.bin .Add (.bin .Add (.bin .Mod (.bi .int (.cons (.var 3) .nil)) (.int 2070928679)) (.bin .Mult (.int 26314) (.var 2))) (.int 9946)) (.int 5)) .nil)) (.int 2061149953)))
  (.cons (.asg (.nm 4) (.bin .Mod (.bi .int (.cons (.bin .Pow (.bin .Add (.bin .Add (.bin .Mult (.var 4) (.bin .Add (.bin .Mult (.int 2) (.var 2)) (.int 4005))) (.bin .Mult (.bin .Mult (.int 70232) (.var 2)) (.var 2))) (.int 26314)) (.int 3)) .nil)) (.int 2051371241)))
  (.cons (.ret (.bin .Mod (.bi .int (.cons (.bin .FloorDiv (.var 4) (.int 64)) .nil)) (.var 1)))
  .nil)))))))))
def g__law_scoop : FSig := ⟨[true, false], runS 6 [true, false] (exb b__law_scoop)⟩
abbrev s__law_pick : Stmt := top 7
def n__law_pick : List Str := ["_law_tub_here", "_law_some"]
def p__law_pick : List Str := ["_law_tub_here", "_law_some"]
def b__law_pick : CB := (.cons (.ret (.sub (.var 1) (.call "_law_scoop" g__law_scoop (.cons (.var 0) (.cons (.bi .len (.cons (.var 1) .nil)) .nil)))))
  .nil)
def g__law_pick : FSig := ⟨[true, false], runS 2 [true, false] (exb b__law_pick)⟩
abbrev s__law_stirred : Stmt := top 8
def n__law_stirred : List Str := ["_law_tub_here", "_law_some", "_law_left", "_law_found"]
def p__law_stirred : List Str := ["_law_tub_here", "_law_some"]
def b__law_stirred : CB := (.cons (.par 2 3 (.bi .list (.cons (.var 1) .nil)) (.lst .nil))
  (.cons (.whl 4096 (.cmp .NotEq (.var 2) (.lst .nil)) (.cons (.expr (.mm .append 3 (.cons (.mm .popAt 2 (.cons (.call "_law_scoop" g__law_scoop (.cons (.var 0) (.cons (.bi .len (.cons (.var 2) .nil)) .nil))) .nil)) .nil)))
  .nil))
  (.cons (.ret (.var 3))
  .nil)))
def g__law_stirred : FSig := ⟨[true, false], runS 4 [true, false] (exb b__law_stirred)⟩
abbrev s__law_any : Stmt := top 9
def n__law_any : List Str := ["_law_tub_here", "_law_number", "_law_odd"]
def p__law_any : List Str := ["_law_tub_here"]
def b__law_any : CB := (.cons (.asg (.nm 1) (.call "_law_pick" g__law_pick (.cons (.var 0) (.cons (.lst (.cons (.int 0) (.cons (.int 1) (.cons (.neg (.int 1)) (.cons (.call "_law_scoop" g__law_scoop (.cons (.var 0) (.cons (.int 30) .nil))) (.cons (.int 200) (.cons (.int 201) (.cons (.neg (.int 60)) (.cons (.bin .Pow (.int 10) (.int 30)) .nil))))))))) .nil))))
  (.cons (.asg (.nm 2) (.call "_law_pick" g__law_pick (.cons (.var 0) (.cons (.lst (.cons .non (.cons (.bl true) (.cons (.bl false) (.cons (.str "1") (.cons (.tup (.cons (.int 1) .nil)) (.cons (.lst (.cons (.int 0) .nil)) (.cons (.dict0 true) .nil)))))))) .nil))))
  (.cons (.ret (.ite (.cmp .Gt (.call "_law_scoop" g__law_scoop (.cons (.var 0) (.cons (.int 3) .nil))) (.int 0)) (.tup (.cons (.var 1) (.cons (.bl true) .nil))) (.tup (.cons (.var 2) (.cons (.bl false) .nil)))))
  .nil)))
def g__law_any : FSig := ⟨[true], runS 3 [true] (exb b__law_any)⟩
abbrev s_law : Stmt := top 10
def n_law : List Str := ["_law_script", "_law_tub_here", "_law_turn", "_law_due", "_law_many", "_law_lot", "_law_kept", "_law_bent", "_law_value", "_law_whole", "_law_least", "_law_most", "_law_number", "_law_each"]
def p_law : List Str := ["_law_script"]
def b_law : CB := (.cons (.asg (.nm 1) (.call "_law_tub" g__law_tub (.cons (.var 0) .nil)))
  (.cons (.for_ (.nm 2) (.rng1 (.int 5)) (.cons (.asg (.tup (.cons (.nm 8) (.cons (.nm 9) .nil))) (.call "_law_any" g__law_any (.cons (.var 1) .nil)))
  (.cons (.par 10 11 (.call "_law_pick" g__law_pick (.cons (.var 1) (.cons (.lst (.cons .non (.cons (.int 0) (.cons (.neg (.int 1)) (.cons (.call "_law_scoop" g__law_scoop (.cons (.var 1) (.cons (.int 30) .nil))) .nil))))) .nil))) (.call "_law_pick" g__law_pick (.cons (.var 1) (.cons (.lst (.cons .non (.cons (.int 1) (.cons (.int 200) (.cons (.call "_law_scoop" g__law_scoop (.cons (.var 1) (.cons (.int 30) .nil))) .nil))))) .nil))))
  (.cons (.asg (.nm 3) (.and_ (.cons (.var 9) (.cons (.or_ (.cons (.cmp .Is (.var 10) .non) (.cons (.cmp .GtE (.var 8) (.var 10)) .nil))) (.cons (.or_ (.cons (.cmp .Is (.var 11) .non) (.cons (.cmp .LtE (.var 8) (.var 11)) .nil))) .nil)))))
  (.cons (.ifs (.cmp .NotEq (.bi .repr (.cons (.lst (.cons (.call "is_integer" g_is_integer (.cons (.var 8) .nil)) (.cons (.callk "is_integer" ["value"] g_is_integer .nil ["value"] (.cons (.var 8) .nil)) .nil))) .nil)) (.bi .repr (.cons (.lst (.cons (.var 9) (.cons (.var 9) .nil))) .nil))) (.cons (.ret (.bl false))
  .nil) .nil)
  (.cons (.ifs (.cmp .NotEq (.bi .repr (.cons (.lst (.cons (.call "is_within" g_is_within (.cons (.var 8) (.cons (.var 10) (.cons (.var 11) .nil)))) (.cons (.callk "is_within" ["value", "least", "most"] g_is_within .nil ["most", "value", "least"] (.cons (.var 11) (.cons (.var 8) (.cons (.var 10) .nil)))) .nil))) .nil)) (.bi .repr (.cons (.lst (.cons (.var 3) (.cons (.var 3) .nil))) .nil))) (.cons (.ret (.bl false))
  .nil) .nil)
  (.cons (.asg (.nm 4) (.call "_law_pick" g__law_pick (.cons (.var 1) (.cons (.lst (.cons (.int 3) (.cons (.int 0) (.cons (.int 1) (.cons (.int 5) (.cons (.call "_law_scoop" g__law_scoop (.cons (.var 1) (.cons (.int 40) .nil))) .nil)))))) .nil))))
  (.cons (.asg (.nm 5) (.comp (.bin .Add (.bin .Mult (.var 12) (.var 12)) (.call "_law_scoop" g__law_scoop (.cons (.var 1) (.cons (.int 2) .nil)))) (.nm 12) (.val (.call "_law_stirred" g__law_stirred (.cons (.var 1) (.cons (.lrg false (.rng2 (.int 1) (.bin .Add (.var 4) (.int 1)))) .nil)))) .nil [12]))
  (.cons (.asg (.nm 5) (.bi .list (.cons (.bi .dict (.cons (.comp (.tup (.cons (.var 12) (.cons (.bl true) .nil))) (.nm 12) (.val (.var 5)) .nil [12]) .nil)) .nil)))
  (.cons (.asg (.nm 6) (.bi .list (.cons (.var 5) .nil)))
  (.cons (.ifs (.or_ (.cons (.cmp .NotEq (.bi .repr (.cons (.lst (.cons (.call "is_lot" g_is_lot (.cons (.var 5) .nil)) (.cons (.callk "is_lot" ["value"] g_is_lot .nil ["value"] (.cons (.bi .tuple (.cons (.var 5) .nil)) .nil)) .nil))) .nil)) (.str "[True, True]")) (.cons (.cmp .NotEq (.var 5) (.var 6)) .nil))) (.cons (.ret (.bl false))
  .nil) .nil)
  (.cons (.asg (.nm 7) (.lst (.cons (.bin .Add (.var 5) (.lst (.cons (.int 0) .nil))) (.cons (.bin .Add (.lst (.cons (.neg (.int 1)) .nil)) (.var 5)) (.cons (.ite (.cmp .NotEq (.var 5) (.lst .nil)) (.bin .Add (.var 5) (.slc (.var 5) .noe (.int 1))) (.lst (.cons (.int 2) (.cons (.int 2) .nil)))) (.cons (.bin .Add (.var 5) (.lst (.cons (.bl true) .nil))) (.cons (.bin .Add (.comp (.bi .str (.cons (.var 13) .nil)) (.nm 13) (.val (.var 5)) .nil [13]) (.lst (.cons (.str "1") .nil))) (.cons (.bin .Add (.comp (.lst (.cons (.var 13) .nil)) (.nm 13) (.val (.var 5)) .nil [13]) (.lst (.cons (.lst .nil) .nil))) .nil))))))))
  (.cons (.asg (.nm 7) (.bin .Add (.var 7) (.lst (.cons .non (.cons (.int 5) (.cons (.str "123") (.cons (.dic1 (.int 1) (.int 1)) (.cons (.lst (.cons (.var 5) .nil)) (.cons (.bin .Add (.var 5) (.lst (.cons .non .nil))) (.cons (.tup (.cons (.bi .tuple (.cons (.var 5) .nil)) .nil)) (.cons (.bin .Add (.comp (.neg (.var 13)) (.nm 13) (.val (.var 5)) .nil [13]) (.lst (.cons (.neg (.int 7)) .nil))) .nil)))))))))))
  (.cons (.ifs (.cmp .IsNot (.call "is_lot" g_is_lot (.cons (.call "_law_pick" g__law_pick (.cons (.var 1) (.cons (.var 7) .nil))) .nil)) (.bl false)) (.cons (.ret (.bl false))
  .nil) .nil)
  .nil))))))))))))))
  (.cons (.ret (.and_ (.cons (.cmp .Is (.call "is_lot" g_is_lot (.cons (.lst .nil) .nil)) (.bl true)) (.cons (.cmp .Is (.call "is_lot" g_is_lot (.cons (.lst (.cons (.bin .Pow (.int 10) (.int 40)) (.cons (.int 1) .nil))) .nil)) (.bl true)) .nil))))
  .nil)))
def g_law : FSig := ⟨[false], runS 14 [false] (exb b_law)⟩

theorem z_is_integer : C8.scC n_is_integer p_is_integer (C8.fnScope s_is_integer) = true := by decide +kernel
theorem c_is_integer : chkB (C8.fnScope s_is_integer) n_is_integer (cellsOf (C8.fnScope s_is_integer)) b_is_integer (C8.fnBody s_is_integer) = true := by decide +kernel
theorem z_is_within : C8.scC n_is_within p_is_within (C8.fnScope s_is_within) = true := by decide +kernel
theorem c_is_within : chkB (C8.fnScope s_is_within) n_is_within (cellsOf (C8.fnScope s_is_within)) b_is_within (C8.fnBody s_is_within) = true := by decide +kernel
theorem z_is_lot : C8.scC n_is_lot p_is_lot (C8.fnScope s_is_lot) = true := by decide +kernel
theorem c_is_lot : chkB (C8.fnScope s_is_lot) n_is_lot (cellsOf (C8.fnScope s_is_lot)) b_is_lot (C8.fnBody s_is_lot) = true := by decide +kernel
theorem z__law_tub : C8.scC n__law_tub p__law_tub (C8.fnScope s__law_tub) = true := by decide +kernel
theorem c__law_tub : chkB (C8.fnScope s__law_tub) n__law_tub (cellsOf (C8.fnScope s__law_tub)) b__law_tub (C8.fnBody s__law_tub) = true := by decide +kernel
theorem z__law_scoop : C8.scC n__law_scoop p__law_scoop (C8.fnScope s__law_scoop) = true := by decide +kernel
theorem c__law_scoop : chkB (C8.fnScope s__law_scoop) n__law_scoop (cellsOf (C8.fnScope s__law_scoop)) b__law_scoop (C8.fnBody s__law_scoop) = true := by decide +kernel
theorem z__law_pick : C8.scC n__law_pick p__law_pick (C8.fnScope s__law_pick) = true := by decide +kernel
theorem c__law_pick : chkB (C8.fnScope s__law_pick) n__law_pick (cellsOf (C8.fnScope s__law_pick)) b__law_pick (C8.fnBody s__law_pick) = true := by decide +kernel
theorem z__law_stirred : C8.scC n__law_stirred p__law_stirred (C8.fnScope s__law_stirred) = true := by decide +kernel
theorem c__law_stirred : chkB (C8.fnScope s__law_stirred) n__law_stirred (cellsOf (C8.fnScope s__law_stirred)) b__law_stirred (C8.fnBody s__law_stirred) = true := by decide +kernel
theorem z__law_any : C8.scC n__law_any p__law_any (C8.fnScope s__law_any) = true := by decide +kernel
theorem c__law_any : chkB (C8.fnScope s__law_any) n__law_any (cellsOf (C8.fnScope s__law_any)) b__law_any (C8.fnBody s__law_any) = true := by decide +kernel
theorem z_law : C8.scC n_law p_law (C8.fnScope s_law) = true := by decide +kernel
theorem c_law : chkB (C8.fnScope s_law) n_law (cellsOf (C8.fnScope s_law)) b_law (C8.fnBody s_law) = true := by decide +kernel
section
variable {P : Program} {w : World} {K : PySem.W.Frag} {mg : Str → Option Value} {base : Heap} {G : Gs}
theorem d_is_integer  : needB (wants P w K mg base 0 G) b_is_integer := (And.intro (And.intro trivial (And.intro trivial trivial)) trivial)
theorem d_is_within (h_is_integer : FnAt P w K mg base 1 G "is_integer" g_is_integer) : needB (wants P w K mg base 1 G) b_is_within := (And.intro (And.intro (And.intro h_is_integer (And.intro trivial trivial)) (And.intro (And.intro trivial trivial) trivial)) (And.intro (And.intro (And.intro (And.intro trivial trivial) (And.intro (And.intro trivial trivial) trivial)) (And.intro (And.intro (And.intro trivial trivial) (And.intro (And.intro trivial trivial) trivial)) trivial)) trivial))
theorem d_is_lot (h_is_within : FnAt P w K mg base 2 G "is_within" g_is_within) : needB (wants P w K mg base 2 G) b_is_lot := (And.intro (And.intro (And.intro trivial (And.intro (And.intro (And.intro trivial (And.intro trivial (And.intro h_is_within (And.intro trivial (And.intro trivial (And.intro trivial trivial)))))) trivial) trivial)) (And.intro (And.intro trivial trivial) trivial)) (And.intro (And.intro trivial (And.intro trivial trivial)) trivial))
theorem d__law_tub  : needB (wants P w K mg base 0 G) b__law_tub := (And.intro (And.intro (And.intro (And.intro trivial (And.intro trivial trivial)) (And.intro trivial (And.intro trivial trivial))) (And.intro trivial (And.intro trivial trivial))) trivial)
theorem d__law_scoop  : needB (wants P w K mg base 0 G) b__law_scoop := (And.intro (And.intro (And.intro (And.intro trivial trivial) trivial) (And.intro (And.intro (And.intro (And.intro trivial trivial) trivial) (And.intro (And.intro trivial (And.intro trivial trivial)) (And.intro (And.intro (And.intro trivial trivial) trivial) trivial))) trivial)) (And.intro (And.intro trivial trivial) (And.intro (And.intro trivial (And.intro trivial trivial)) (And.intro (And.intro (And.intro trivial trivial) trivial) (And.intro (And.intro (And.intro (And.intro trivial trivial) trivial) (And.intro (And.intro (And.intro (And.intro trivial trivial) (And.intro (And.intro trivial trivial) (And.intro (And.intro trivial trivial) trivial))) trivial) trivial)) (And.intro (And.intro (And.intro (And.intro trivial (And.intro (And.intro trivial trivial) trivial)) (And.intro (And.intro (And.intro trivial trivial) (And.intro trivial trivial)) trivial)) (And.intro (And.intro (And.intro (And.intro trivial (And.intro (And.intro trivial trivial) (And.intro trivial trivial))) (And.intro (And.intro trivial trivial) trivial)) (And.intro (And.intro trivial (And.intro trivial trivial)) (And.intro (And.intro (And.intro trivial trivial) trivial) trivial))) trivial)) (And.intro (And.intro (And.intro (And.intro (And.intro (And.intro (And.intro (And.intro trivial trivial) trivial) (And.intro trivial trivial)) trivial) trivial) trivial) trivial) (And.intro (And.intro (And.intro (And.intro (And.intro (And.intro (And.intro trivial (And.intro (And.intro trivial trivial) trivial)) (And.intro (And.intro trivial trivial) trivial)) trivial) trivial) trivial) trivial) (And.intro (And.intro (And.intro (And.intro trivial trivial) trivial) trivial) trivial)))))))))
theorem d__law_pick (h__law_scoop : FnAt P w K mg base 1 G "_law_scoop" g__law_scoop) : needB (wants P w K mg base 1 G) b__law_pick := (And.intro (And.intro trivial (And.intro h__law_scoop (And.intro trivial (And.intro (And.intro trivial trivial) trivial)))) trivial)
theorem d__law_stirred (h__law_scoop : FnAt P w K mg base 1 G "_law_scoop" g__law_scoop) : needB (wants P w K mg base 1 G) b__law_stirred := (And.intro (And.intro (And.intro trivial trivial) trivial) (And.intro (And.intro (And.intro trivial trivial) (And.intro (And.intro (And.intro (And.intro h__law_scoop (And.intro trivial (And.intro (And.intro trivial trivial) trivial))) trivial) trivial) trivial)) (And.intro trivial trivial)))
theorem d__law_any (h__law_scoop : FnAt P w K mg base 2 G "_law_scoop" g__law_scoop) (h__law_pick : FnAt P w K mg base 2 G "_law_pick" g__law_pick) : needB (wants P w K mg base 2 G) b__law_any := (And.intro (And.intro h__law_pick (And.intro trivial (And.intro (And.intro trivial (And.intro trivial (And.intro trivial (And.intro (And.intro h__law_scoop (And.intro trivial (And.intro trivial trivial))) (And.intro trivial (And.intro trivial (And.intro trivial (And.intro (And.intro trivial trivial) trivial)))))))) trivial))) (And.intro (And.intro h__law_pick (And.intro trivial (And.intro (And.intro trivial (And.intro trivial (And.intro trivial (And.intro trivial (And.intro (And.intro trivial trivial) (And.intro (And.intro trivial trivial) (And.intro trivial trivial))))))) trivial))) (And.intro (And.intro (And.intro (And.intro h__law_scoop (And.intro trivial (And.intro trivial trivial))) trivial) (And.intro (And.intro trivial (And.intro trivial trivial)) (And.intro trivial (And.intro trivial trivial)))) trivial)))
theorem d_law (h_is_lot : FnAt P w K mg base 3 G "is_lot" g_is_lot) (h__law_pick : FnAt P w K mg base 3 G "_law_pick" g__law_pick) (k_is_lot_0_value : ∃ f fd, FnG P w K mg base 3 f fd ["value"] (spG G g_is_lot) ∧ mg "is_lot" = some (.ref f) ∧ PySem.W.keepIn K (.ref f) = true ∧ BindsK fd ["value"] ["value"] 0) (h__law_stirred : FnAt P w K mg base 3 G "_law_stirred" g__law_stirred) (h__law_scoop : FnAt P w K mg base 3 G "_law_scoop" g__law_scoop) (h_is_within : FnAt P w K mg base 3 G "is_within" g_is_within) (k_is_within_0_most_value_least : ∃ f fd, FnG P w K mg base 3 f fd ["value", "least", "most"] (spG G g_is_within) ∧ mg "is_within" = some (.ref f) ∧ PySem.W.keepIn K (.ref f) = true ∧ BindsK fd ["value", "least", "most"] ["most", "value", "least"] 0) (h_is_integer : FnAt P w K mg base 3 G "is_integer" g_is_integer) (k_is_integer_0_value : ∃ f fd, FnG P w K mg base 3 f fd ["value"] (spG G g_is_integer) ∧ mg "is_integer" = some (.ref f) ∧ PySem.W.keepIn K (.ref f) = true ∧ BindsK fd ["value"] ["value"] 0) (h__law_any : FnAt P w K mg base 3 G "_law_any" g__law_any) (h__law_tub : FnAt P w K mg base 3 G "_law_tub" g__law_tub) : needB (wants P w K mg base 3 G) b_law := (And.intro (And.intro h__law_tub (And.intro trivial trivial)) (And.intro (And.intro trivial (And.intro (And.intro h__law_any (And.intro trivial trivial)) (And.intro (And.intro (And.intro h__law_pick (And.intro trivial (And.intro (And.intro trivial (And.intro trivial (And.intro trivial (And.intro (And.intro h__law_scoop (And.intro trivial (And.intro trivial trivial))) trivial)))) trivial))) (And.intro h__law_pick (And.intro trivial (And.intro (And.intro trivial (And.intro trivial (And.intro trivial (And.intro (And.intro h__law_scoop (And.intro trivial (And.intro trivial trivial))) trivial)))) trivial)))) (And.intro (And.intro trivial (And.intro (And.intro (And.intro trivial trivial) (And.intro (And.intro trivial trivial) trivial)) (And.intro (And.intro (And.intro trivial trivial) (And.intro (And.intro trivial trivial) trivial)) trivial))) (And.intro (And.intro (And.intro (And.intro (And.intro (And.intro h_is_integer (And.intro trivial trivial)) (And.intro (And.intro k_is_integer_0_value (And.intro trivial (And.intro trivial trivial))) trivial)) trivial) (And.intro (And.intro trivial (And.intro trivial trivial)) trivial)) (And.intro (And.intro trivial trivial) trivial)) (And.intro (And.intro (And.intro (And.intro (And.intro (And.intro h_is_within (And.intro trivial (And.intro trivial (And.intro trivial trivial)))) (And.intro (And.intro k_is_within_0_most_value_least (And.intro trivial (And.intro trivial (And.intro trivial (And.intro trivial trivial))))) trivial)) trivial) (And.intro (And.intro trivial (And.intro trivial trivial)) trivial)) (And.intro (And.intro trivial trivial) trivial)) (And.intro (And.intro h__law_pick (And.intro trivial (And.intro (And.intro trivial (And.intro trivial (And.intro trivial (And.intro trivial (And.intro (And.intro h__law_scoop (And.intro trivial (And.intro trivial trivial))) trivial))))) trivial))) (And.intro (And.intro (And.intro h__law_stirred (And.intro trivial (And.intro (And.intro trivial (And.intro trivial trivial)) trivial))) (And.intro trivial (And.intro (And.intro trivial trivial) (And.intro h__law_scoop (And.intro trivial (And.intro trivial trivial)))))) (And.intro (And.intro (And.intro (And.intro trivial (And.intro trivial (And.intro trivial (And.intro trivial trivial)))) trivial) trivial) (And.intro (And.intro trivial trivial) (And.intro (And.intro (And.intro (And.intro (And.intro (And.intro (And.intro h_is_lot (And.intro trivial trivial)) (And.intro (And.intro k_is_lot_0_value (And.intro trivial (And.intro (And.intro trivial trivial) trivial))) trivial)) trivial) trivial) (And.intro (And.intro trivial trivial) trivial)) (And.intro (And.intro trivial trivial) trivial)) (And.intro (And.intro (And.intro trivial (And.intro trivial trivial)) (And.intro (And.intro (And.intro trivial trivial) trivial) (And.intro (And.intro (And.intro trivial trivial) (And.intro (And.intro trivial (And.intro trivial (And.intro trivial trivial))) (And.intro trivial (And.intro trivial trivial)))) (And.intro (And.intro trivial (And.intro trivial trivial)) (And.intro (And.intro (And.intro trivial (And.intro trivial (And.intro trivial trivial))) (And.intro trivial trivial)) (And.intro (And.intro (And.intro trivial (And.intro trivial (And.intro trivial trivial))) (And.intro trivial trivial)) trivial)))))) (And.intro (And.intro trivial (And.intro trivial (And.intro trivial (And.intro trivial (And.intro (And.intro trivial trivial) (And.intro (And.intro trivial trivial) (And.intro (And.intro trivial (And.intro trivial trivial)) (And.intro (And.intro (And.intro trivial trivial) trivial) (And.intro (And.intro (And.intro trivial (And.intro trivial trivial)) (And.intro trivial trivial)) trivial))))))))) (And.intro (And.intro (And.intro (And.intro h_is_lot (And.intro (And.intro h__law_pick (And.intro trivial (And.intro trivial trivial))) trivial)) trivial) (And.intro (And.intro trivial trivial) trivial)) trivial)))))))))))))) (And.intro (And.intro (And.intro (And.intro h_is_lot (And.intro trivial trivial)) trivial) (And.intro (And.intro (And.intro h_is_lot (And.intro (And.intro (And.intro trivial trivial) (And.intro trivial trivial)) trivial)) trivial) trivial)) trivial)))
end
section
variable {P : Program} {w : World} {K : PySem.W.Frag} {h : Heap} {mg : Str → Option Value} {fa : Addr} {c : Nat → Addr}
theorem all_mk (X : K.In h) (G : h.Ns mainGlobals mg) (hfa : mg "law" = some (.ref fa))
  {f0 : Addr} {od0 an0 : Option Addr} {sl0 : Array (Option Value)} {oc0 kV0 dc0 pm0 cd0 ct0 : Value}
  {f1 : Addr} {od1 an1 : Option Addr} {sl1 : Array (Option Value)} {oc1 kV1 dc1 pm1 cd1 ct1 : Value}
  {f2 : Addr} {od2 an2 : Option Addr} {sl2 : Array (Option Value)} {oc2 kV2 dc2 pm2 cd2 ct2 : Value}
  {f3 : Addr} {od3 an3 : Option Addr} {sl3 : Array (Option Value)} {oc3 kV3 dc3 pm3 cd3 ct3 : Value}
  {f4 : Addr} {od4 an4 : Option Addr} {sl4 : Array (Option Value)} {oc4 kV4 dc4 pm4 cd4 ct4 : Value}
  {f5 : Addr} {od5 an5 : Option Addr} {sl5 : Array (Option Value)} {oc5 kV5 dc5 pm5 cd5 ct5 : Value}
  {f6 : Addr} {od6 an6 : Option Addr} {sl6 : Array (Option Value)} {oc6 kV6 dc6 pm6 cd6 ct6 : Value}
  {f7 : Addr} {od7 an7 : Option Addr} {sl7 : Array (Option Value)} {oc7 kV7 dc7 pm7 cd7 ct7 : Value}
  {f8 : Addr} {od8 an8 : Option Addr} {sl8 : Array (Option Value)} {oc8 kV8 dc8 pm8 cd8 ct8 : Value}
  (a0 : PySem.W.nsIn K mainGlobals "is_integer" = some (some (.ref f0)))
  (l0 : K.lookup f0 = some ⟨oc0, od0, .func (PySem.W.fnOf "is_integer" "is_integer" (C8.fnArgs s_is_integer) (C8.fnBody s_is_integer) (C8.fnScope s_is_integer) .none kV0 dc0 pm0 an0 cd0 ct0), sl0⟩)
  (c0 : PySem.W.codeIn K cd0 "is_integer" = true) (k0 : PySem.W.keepIn K (.ref f0) = true)
  (a1 : PySem.W.nsIn K mainGlobals "is_within" = some (some (.ref f1)))
  (l1 : K.lookup f1 = some ⟨oc1, od1, .func (PySem.W.fnOf "is_within" "is_within" (C8.fnArgs s_is_within) (C8.fnBody s_is_within) (C8.fnScope s_is_within) .none kV1 dc1 pm1 an1 cd1 ct1), sl1⟩)
  (c1 : PySem.W.codeIn K cd1 "is_within" = true) (k1 : PySem.W.keepIn K (.ref f1) = true)
  (a2 : PySem.W.nsIn K mainGlobals "is_lot" = some (some (.ref f2)))
  (l2 : K.lookup f2 = some ⟨oc2, od2, .func (PySem.W.fnOf "is_lot" "is_lot" (C8.fnArgs s_is_lot) (C8.fnBody s_is_lot) (C8.fnScope s_is_lot) .none kV2 dc2 pm2 an2 cd2 ct2), sl2⟩)
  (c2 : PySem.W.codeIn K cd2 "is_lot" = true) (k2 : PySem.W.keepIn K (.ref f2) = true)
  (a3 : PySem.W.nsIn K mainGlobals "_law_tub" = some (some (.ref f3)))
  (l3 : K.lookup f3 = some ⟨oc3, od3, .func (PySem.W.fnOf "_law_tub" "_law_tub" (C8.fnArgs s__law_tub) (C8.fnBody s__law_tub) (C8.fnScope s__law_tub) .none kV3 dc3 pm3 an3 cd3 ct3), sl3⟩)
  (c3 : PySem.W.codeIn K cd3 "_law_tub" = true) (k3 : PySem.W.keepIn K (.ref f3) = true)
  (a4 : PySem.W.nsIn K mainGlobals "_law_scoop" = some (some (.ref f4)))
  (l4 : K.lookup f4 = some ⟨oc4, od4, .func (PySem.W.fnOf "_law_scoop" "_law_scoop" (C8.fnArgs s__law_scoop) (C8.fnBody s__law_scoop) (C8.fnScope s__law_scoop) .none kV4 dc4 pm4 an4 cd4 ct4), sl4⟩)
  (c4 : PySem.W.codeIn K cd4 "_law_scoop" = true) (k4 : PySem.W.keepIn K (.ref f4) = true)
  (a5 : PySem.W.nsIn K mainGlobals "_law_pick" = some (some (.ref f5)))
  (l5 : K.lookup f5 = some ⟨oc5, od5, .func (PySem.W.fnOf "_law_pick" "_law_pick" (C8.fnArgs s__law_pick) (C8.fnBody s__law_pick) (C8.fnScope s__law_pick) .none kV5 dc5 pm5 an5 cd5 ct5), sl5⟩)
  (c5 : PySem.W.codeIn K cd5 "_law_pick" = true) (k5 : PySem.W.keepIn K (.ref f5) = true)
  (a6 : PySem.W.nsIn K mainGlobals "_law_stirred" = some (some (.ref f6)))
  (l6 : K.lookup f6 = some ⟨oc6, od6, .func (PySem.W.fnOf "_law_stirred" "_law_stirred" (C8.fnArgs s__law_stirred) (C8.fnBody s__law_stirred) (C8.fnScope s__law_stirred) .none kV6 dc6 pm6 an6 cd6 ct6), sl6⟩)
  (c6 : PySem.W.codeIn K cd6 "_law_stirred" = true) (k6 : PySem.W.keepIn K (.ref f6) = true)
  (a7 : PySem.W.nsIn K mainGlobals "_law_any" = some (some (.ref f7)))
  (l7 : K.lookup f7 = some ⟨oc7, od7, .func (PySem.W.fnOf "_law_any" "_law_any" (C8.fnArgs s__law_any) (C8.fnBody s__law_any) (C8.fnScope s__law_any) .none kV7 dc7 pm7 an7 cd7 ct7), sl7⟩)
  (c7 : PySem.W.codeIn K cd7 "_law_any" = true) (k7 : PySem.W.keepIn K (.ref f7) = true)
  (a8 : PySem.W.nsIn K mainGlobals "law" = some (some (.ref f8)))
  (l8 : K.lookup f8 = some ⟨oc8, od8, .func (PySem.W.fnOf "law" "law" (C8.fnArgs s_law) (C8.fnBody s_law) (C8.fnScope s_law) .none kV8 dc8 pm8 an8 cd8 ct8), sl8⟩)
  (c8 : PySem.W.codeIn K cd8 "law" = true) (k8 : PySem.W.keepIn K (.ref f8) = true)
  (z0 : PySem.W.nsIn K mainGlobals "len" = some none)
  (z1 : PySem.W.nsIn K mainGlobals "int" = some none)
  (z2 : PySem.W.nsIn K mainGlobals "abs" = some none)
  (z3 : PySem.W.nsIn K mainGlobals "bool" = some none)
  (z4 : PySem.W.nsIn K mainGlobals "str" = some none)
  (z5 : PySem.W.nsIn K mainGlobals "repr" = some none)
  (z6 : PySem.W.nsIn K mainGlobals "list" = some none)
  (z7 : PySem.W.nsIn K mainGlobals "tuple" = some none)
  (z8 : PySem.W.nsIn K mainGlobals "sorted" = some none)
  (z9 : PySem.W.nsIn K mainGlobals "sum" = some none)
  (z10 : PySem.W.nsIn K mainGlobals "min" = some none)
  (z11 : PySem.W.nsIn K mainGlobals "max" = some none)
  (z12 : PySem.W.nsIn K mainGlobals "any" = some none)
  (z13 : PySem.W.nsIn K mainGlobals "all" = some none)
  (z14 : PySem.W.nsIn K mainGlobals "range" = some none)
  (z15 : PySem.W.nsIn K mainGlobals "isinstance" = some none)
  (z16 : PySem.W.nsIn K mainGlobals "set" = some none)
  (z17 : PySem.W.nsIn K mainGlobals "dict" = some none)
  (z18 : PySem.W.nsIn K mainGlobals "enumerate" = some none)
  (z19 : PySem.W.nsIn K mainGlobals "zip" = some none) :
  ∃ fd : FuncData, (∀ (s : Shared) (v : Value), BindsTo s fd ⟨[v], []⟩ [("_law_script", v)]) ∧ ∀ base : Heap, K.In base → base.Ns mainGlobals mg → FnG P w K mg base 4 fa fd ["_law_script"] (spG ⟨K, c⟩ g_law) := by
  have e := hfa.symm.trans (PySem.W.mg_of X G a8)
  cases e
  have hmg : ∀ x ∈ bnames, mg x = none := by
    intro x hx
    simp only [bnames, List.mem_cons, List.not_mem_nil, or_false] at hx
    rcases hx with rfl | rfl | rfl | rfl | rfl | rfl | rfl | rfl | rfl | rfl | rfl | rfl | rfl | rfl | rfl | rfl | rfl | rfl | rfl | rfl
    · exact PySem.W.mg_none_of X G z0
    · exact PySem.W.mg_none_of X G z1
    · exact PySem.W.mg_none_of X G z2
    · exact PySem.W.mg_none_of X G z3
    · exact PySem.W.mg_none_of X G z4
    · exact PySem.W.mg_none_of X G z5
    · exact PySem.W.mg_none_of X G z6
    · exact PySem.W.mg_none_of X G z7
    · exact PySem.W.mg_none_of X G z8
    · exact PySem.W.mg_none_of X G z9
    · exact PySem.W.mg_none_of X G z10
    · exact PySem.W.mg_none_of X G z11
    · exact PySem.W.mg_none_of X G z12
    · exact PySem.W.mg_none_of X G z13
    · exact PySem.W.mg_none_of X G z14
    · exact PySem.W.mg_none_of X G z15
    · exact PySem.W.mg_none_of X G z16
    · exact PySem.W.mg_none_of X G z17
    · exact PySem.W.mg_none_of X G z18
    · exact PySem.W.mg_none_of X G z19
  refine ⟨PySem.W.fnOf "law" "law" (C8.fnArgs s_law) (C8.fnBody s_law) (C8.fnScope s_law) .none kV8 dc8 pm8 an8 cd8 ct8, fun s v => .of_eq rfl, fun base _ _ => ?_⟩
  have G_is_integer := fnG_mk (P := P) (w := w) (base := base) (G := ⟨K, c⟩) (k := 0) (mg := mg) (N := n_is_integer) (ps := p_is_integer) (ms := g_is_integer.md) (b := b_is_integer) rfl l0 c0 hmg z_is_integer rfl c_is_integer (d_is_integer)
  have h_is_integer : FnAt P w K mg base 1 ⟨K, c⟩ "is_integer" g_is_integer := ⟨f0, _, p_is_integer, G_is_integer, PySem.W.mg_of X G a0, k0, .all fun us hl => match us, hl with | [_], _ => by rfl⟩
  have G_is_within := fnG_mk (P := P) (w := w) (base := base) (G := ⟨K, c⟩) (k := 1) (mg := mg) (N := n_is_within) (ps := p_is_within) (ms := g_is_within.md) (b := b_is_within) rfl l1 c1 hmg z_is_within rfl c_is_within (d_is_within (h_is_integer.mono (by decide)))
  have h_is_within : FnAt P w K mg base 2 ⟨K, c⟩ "is_within" g_is_within := ⟨f1, _, p_is_within, G_is_within, PySem.W.mg_of X G a1, k1, .all fun us hl => match us, hl with | [_, _, _], _ => by rfl⟩
  have G_is_lot := fnG_mk (P := P) (w := w) (base := base) (G := ⟨K, c⟩) (k := 2) (mg := mg) (N := n_is_lot) (ps := p_is_lot) (ms := g_is_lot.md) (b := b_is_lot) rfl l2 c2 hmg z_is_lot rfl c_is_lot (d_is_lot (h_is_within.mono (by decide)))
  have h_is_lot : FnAt P w K mg base 3 ⟨K, c⟩ "is_lot" g_is_lot := ⟨f2, _, p_is_lot, G_is_lot, PySem.W.mg_of X G a2, k2, .all fun us hl => match us, hl with | [_], _ => by rfl⟩
  have G__law_tub := fnG_mk (P := P) (w := w) (base := base) (G := ⟨K, c⟩) (k := 0) (mg := mg) (N := n__law_tub) (ps := p__law_tub) (ms := g__law_tub.md) (b := b__law_tub) rfl l3 c3 hmg z__law_tub rfl c__law_tub (d__law_tub)
  have h__law_tub : FnAt P w K mg base 1 ⟨K, c⟩ "_law_tub" g__law_tub := ⟨f3, _, p__law_tub, G__law_tub, PySem.W.mg_of X G a3, k3, .all fun us hl => match us, hl with | [_], _ => by rfl⟩
  have G__law_scoop := fnG_mk (P := P) (w := w) (base := base) (G := ⟨K, c⟩) (k := 0) (mg := mg) (N := n__law_scoop) (ps := p__law_scoop) (ms := g__law_scoop.md) (b := b__law_scoop) rfl l4 c4 hmg z__law_scoop rfl c__law_scoop (d__law_scoop)
  have h__law_scoop : FnAt P w K mg base 1 ⟨K, c⟩ "_law_scoop" g__law_scoop := ⟨f4, _, p__law_scoop, G__law_scoop, PySem.W.mg_of X G a4, k4, .all fun us hl => match us, hl with | [_, _], _ => by rfl⟩
  have G__law_pick := fnG_mk (P := P) (w := w) (base := base) (G := ⟨K, c⟩) (k := 1) (mg := mg) (N := n__law_pick) (ps := p__law_pick) (ms := g__law_pick.md) (b := b__law_pick) rfl l5 c5 hmg z__law_pick rfl c__law_pick (d__law_pick (h__law_scoop.mono (by decide)))
  have h__law_pick : FnAt P w K mg base 2 ⟨K, c⟩ "_law_pick" g__law_pick := ⟨f5, _, p__law_pick, G__law_pick, PySem.W.mg_of X G a5, k5, .all fun us hl => match us, hl with | [_, _], _ => by rfl⟩
  have G__law_stirred := fnG_mk (P := P) (w := w) (base := base) (G := ⟨K, c⟩) (k := 1) (mg := mg) (N := n__law_stirred) (ps := p__law_stirred) (ms := g__law_stirred.md) (b := b__law_stirred) rfl l6 c6 hmg z__law_stirred rfl c__law_stirred (d__law_stirred (h__law_scoop.mono (by decide)))
  have h__law_stirred : FnAt P w K mg base 2 ⟨K, c⟩ "_law_stirred" g__law_stirred := ⟨f6, _, p__law_stirred, G__law_stirred, PySem.W.mg_of X G a6, k6, .all fun us hl => match us, hl with | [_, _], _ => by rfl⟩
  have G__law_any := fnG_mk (P := P) (w := w) (base := base) (G := ⟨K, c⟩) (k := 2) (mg := mg) (N := n__law_any) (ps := p__law_any) (ms := g__law_any.md) (b := b__law_any) rfl l7 c7 hmg z__law_any rfl c__law_any (d__law_any (h__law_scoop.mono (by decide)) (h__law_pick.mono (by decide)))
  have h__law_any : FnAt P w K mg base 3 ⟨K, c⟩ "_law_any" g__law_any := ⟨f7, _, p__law_any, G__law_any, PySem.W.mg_of X G a7, k7, .all fun us hl => match us, hl with | [_], _ => by rfl⟩
  have G_law := fnG_mk (P := P) (w := w) (base := base) (G := ⟨K, c⟩) (k := 3) (mg := mg) (N := n_law) (ps := p_law) (ms := g_law.md) (b := b_law) rfl l8 c8 hmg z_law rfl c_law (d_law (h_is_lot.mono (by decide)) (h__law_pick.mono (by decide)) ⟨f2, _, G_is_lot.mono (by decide), PySem.W.mg_of X G a2, k2, fun us ws h1 h2 => match us, ws, h1, h2 with | [], [_], _, _ => by kernel_rfl⟩ (h__law_stirred.mono (by decide)) (h__law_scoop.mono (by decide)) (h_is_within.mono (by decide)) ⟨f1, _, G_is_within.mono (by decide), PySem.W.mg_of X G a1, k1, fun us ws h1 h2 => match us, ws, h1, h2 with | [], [_, _, _], _, _ => by kernel_rfl⟩ (h_is_integer.mono (by decide)) ⟨f0, _, G_is_integer.mono (by decide), PySem.W.mg_of X G a0, k0, fun us ws h1 h2 => match us, ws, h1, h2 with | [], [_], _, _ => by kernel_rfl⟩ (h__law_any.mono (by decide)) (h__law_tub.mono (by decide)))
  exact G_law
end
end LK02

namespace LK02
open PySem PySem.Spec Eng

theorem draws : Draws g__law_scoop := scoop_draws (k1 := 70232) (k2 := 9946) (M1 := 2070928679) (k3 := 26314) (k4 := 9946) (M2 := 2061149953) (c1 := 4005) (k5 := 70232) (k6 := 26314) (M3 := 2051371241) (q := 64) ⟨by decide, by decide⟩ ⟨by decide, by decide⟩ ⟨by decide, by decide⟩ ⟨by decide, by decide⟩ ⟨by decide, by decide⟩ ⟨by decide, by decide⟩ ⟨by decide, by decide⟩ ⟨by decide, by decide⟩ ⟨by decide, by decide⟩ ⟨by decide, by decide⟩
theorem picks : Picks g__law_pick := pick_of (nm := "_law_scoop") draws
theorem stirs : Stirs g__law_stirred := stir_of (nm := "_law_scoop") draws
theorem makes : MakesTub g__law_tub := tub_of (k := 60)

/-! ### the four defs of the program -/
def isI : D → Bool
  | .int _ => true
  | _ => false
theorem is_integer_eq (d : D) (h : isT d .int ≠ none) : g_is_integer.m [d] = .ok false (.bl (isI d)) [] := by
  cases d with
  | obj _ _ _ => exact absurd rfl h
  | scr _ => exact absurd rfl h
  | _ => rfl
def wi (v l m : D) : Bool := match v with
  | .int i => (match l with | .int a => decide (a ≤ i) | _ => true) && (match m with | .int a => decide (i ≤ a) | _ => true)
  | _ => false
def bnd : D → Prop
  | .non => True
  | .int _ => True
  | _ => False
theorem is_within_eq (v l m : D) (h : isT v .int ≠ none) (hl : bnd l) (hm : bnd m) : g_is_within.m [v, l, m] = .ok false (.bl (wi v l m)) [] := by
  cases v with
  | obj _ _ _ => exact absurd rfl h
  | scr _ => exact absurd rfl h
  | int i =>
    have hi : g_is_integer.m [.int i] = .ok false (.bl true) [] := is_integer_eq (.int i) h
    have hmd : g_is_integer.md = [false] := rfl
    have i0 : Eng.isNon .non = true := rfl
    have i1 : ∀ a, Eng.isNon (.int a) = false := fun _ => rfl
    cases l with
    | non =>
      cases m with
      | non => rfl
      | int b => rfl
      | _ => exact hm.elim
    | int a =>
      cases m with
      | non =>
        unfold g_is_within b_is_within wi
        by_cases e : a ≤ i
        · have e' : (a ≤ i) = True := eq_true e
          simp only [Q.b_ok, Q.b_ex, Q.b_bd, Q.t_ok, Q.t_ex, Q.t_bd, Q.s_nx, Q.s_rt, Q.s_bk, Q.s_ct, Q.s_ex, Q.s_bd, Q.p_sm, Q.p_no, Q.r_sh, Q.r_l, Q.r_t, Q.r_d, Q.w_sh, Q.w_fr, Q.w_br, Q.d_sh, Q.d_fr, Q.d_br, Q.a_sh, Q.a_ow, Q.a_io, Q.a_lk, Q.m_ow, Q.m_io, Q.m_sh, Q.h_sh, Q.h_fr, Q.h_br, Q.c_sh, Q.c_fr, Q.c_br, Q.v_sh, Q.v_fr, Q.e_val, Q.e_tst, Q.e_io, Q.e_md, Q.kC', Q.kV', Q.kU', Q.kB', Q.kP0, Q.kP1, Q.kS', Q.kT', Q.kCh', Q.bl_s, Q.kVa, Q.kN', Q.kI', Q.kIT, Q.kAV, Q.kAT, Q.kSh, Q.kNl, Q.kCo, Q.kVw', Q.kSt, Q.kTu, Q.kLs, Q.kBi', Q.dr_n, Q.dr_c, Q.kMm', Q.kMt, Q.kMf, Q.kCa, Q.kCk, Q.cs, Q.av_n, Q.av_s, Q.av_i, Q.ai_n, Q.ai_s, Q.ai_i, Q.io_s, Q.io_i, Q.st_n, Q.st_c, Q.mu_l, Q.mu_d, Q.mu_o, Q.sa, Q.fa, Q.f_no, Q.f_sh, Q.f_ow, Q.bv, Q.ag_n, Q.ag_t, Q.an, Q.at_, Q.as_n, Q.as_c, Q.pv, Q.rt_s, Q.rt_f, Q.rt_b, Q.kIv, Q.kYs, Q.os_n, Q.os_t, Q.os_f, Q.is_t, Q.is_f, Q.is_n, Q.rs, Q.so, Q.l_int, Q.le_int, Q.g_int, Q.ge_int, Q.eq_d, Q.ne_d, Q.is_non, Q.bo', Q.tr_b, Q.tr_i, Q.tr_l, Q.ad_i, Q.sb_i, Q.ml_i, Q.fd_i, Q.md_i, Q.pw_i, Q.ad_l, Q.su_l, Q.su_t, Q.bi1', Q.i_i, Q.i_b, Q.ab_i, Q.le_l, Q.le_t, Q.li_l, Q.tu_l, Q.ng_i, Q.sx_l, Q.bm_s, exb, exs, evc, evl, evi, List.getElem?_cons_zero, List.getElem?_cons_succ, List.getElem?_nil, List.set_cons_zero, List.set_cons_succ, List.length_cons, List.length_nil, Option.bind_some, Option.bind_none, Option.map_some, Option.map_none, List.map_cons, List.map_nil, List.replicate_zero, List.replicate_succ, List.append_nil, List.cons_append, List.nil_append, Bool.not_true, Bool.not_false, Bool.false_eq_true, if_true, if_false, ite_true, ite_false, Option.isSome_some, Option.isSome_none, Bool.and_true, Bool.true_and, Bool.and_false, Bool.false_and, Bool.or_true, Bool.true_or, Bool.or_false, Bool.false_or, Nat.reduceAdd, Nat.reduceSub, Nat.sub_self, Nat.add_zero, Nat.zero_add, Nat.reduceLT, Nat.reduceLeDiff, reduceCtorEq, List.nodup_nil, List.nodup_cons, List.not_mem_nil, not_false_eq_true, and_self, and_true, true_and, decide_true, decide_false, List.tail_cons, List.headD_cons, CE.isNoe, CL.len, Bool.true_eq_false, Int.reduceLT, Int.reduceLE, Int.reduceToNat, reduceIte, hi, hmd, e', i0, i1]
        · have e' : (a ≤ i) = False := eq_false e
          simp only [Q.b_ok, Q.b_ex, Q.b_bd, Q.t_ok, Q.t_ex, Q.t_bd, Q.s_nx, Q.s_rt, Q.s_bk, Q.s_ct, Q.s_ex, Q.s_bd, Q.p_sm, Q.p_no, Q.r_sh, Q.r_l, Q.r_t, Q.r_d, Q.w_sh, Q.w_fr, Q.w_br, Q.d_sh, Q.d_fr, Q.d_br, Q.a_sh, Q.a_ow, Q.a_io, Q.a_lk, Q.m_ow, Q.m_io, Q.m_sh, Q.h_sh, Q.h_fr, Q.h_br, Q.c_sh, Q.c_fr, Q.c_br, Q.v_sh, Q.v_fr, Q.e_val, Q.e_tst, Q.e_io, Q.e_md, Q.kC', Q.kV', Q.kU', Q.kB', Q.kP0, Q.kP1, Q.kS', Q.kT', Q.kCh', Q.bl_s, Q.kVa, Q.kN', Q.kI', Q.kIT, Q.kAV, Q.kAT, Q.kSh, Q.kNl, Q.kCo, Q.kVw', Q.kSt, Q.kTu, Q.kLs, Q.kBi', Q.dr_n, Q.dr_c, Q.kMm', Q.kMt, Q.kMf, Q.kCa, Q.kCk, Q.cs, Q.av_n, Q.av_s, Q.av_i, Q.ai_n, Q.ai_s, Q.ai_i, Q.io_s, Q.io_i, Q.st_n, Q.st_c, Q.mu_l, Q.mu_d, Q.mu_o, Q.sa, Q.fa, Q.f_no, Q.f_sh, Q.f_ow, Q.bv, Q.ag_n, Q.ag_t, Q.an, Q.at_, Q.as_n, Q.as_c, Q.pv, Q.rt_s, Q.rt_f, Q.rt_b, Q.kIv, Q.kYs, Q.os_n, Q.os_t, Q.os_f, Q.is_t, Q.is_f, Q.is_n, Q.rs, Q.so, Q.l_int, Q.le_int, Q.g_int, Q.ge_int, Q.eq_d, Q.ne_d, Q.is_non, Q.bo', Q.tr_b, Q.tr_i, Q.tr_l, Q.ad_i, Q.sb_i, Q.ml_i, Q.fd_i, Q.md_i, Q.pw_i, Q.ad_l, Q.su_l, Q.su_t, Q.bi1', Q.i_i, Q.i_b, Q.ab_i, Q.le_l, Q.le_t, Q.li_l, Q.tu_l, Q.ng_i, Q.sx_l, Q.bm_s, exb, exs, evc, evl, evi, List.getElem?_cons_zero, List.getElem?_cons_succ, List.getElem?_nil, List.set_cons_zero, List.set_cons_succ, List.length_cons, List.length_nil, Option.bind_some, Option.bind_none, Option.map_some, Option.map_none, List.map_cons, List.map_nil, List.replicate_zero, List.replicate_succ, List.append_nil, List.cons_append, List.nil_append, Bool.not_true, Bool.not_false, Bool.false_eq_true, if_true, if_false, ite_true, ite_false, Option.isSome_some, Option.isSome_none, Bool.and_true, Bool.true_and, Bool.and_false, Bool.false_and, Bool.or_true, Bool.true_or, Bool.or_false, Bool.false_or, Nat.reduceAdd, Nat.reduceSub, Nat.sub_self, Nat.add_zero, Nat.zero_add, Nat.reduceLT, Nat.reduceLeDiff, reduceCtorEq, List.nodup_nil, List.nodup_cons, List.not_mem_nil, not_false_eq_true, and_self, and_true, true_and, decide_true, decide_false, List.tail_cons, List.headD_cons, CE.isNoe, CL.len, Bool.true_eq_false, Int.reduceLT, Int.reduceLE, Int.reduceToNat, reduceIte, hi, hmd, e', i0, i1]
      | int b =>
        unfold g_is_within b_is_within wi
        by_cases e : a ≤ i
        · have e' : (a ≤ i) = True := eq_true e
          simp only [Q.b_ok, Q.b_ex, Q.b_bd, Q.t_ok, Q.t_ex, Q.t_bd, Q.s_nx, Q.s_rt, Q.s_bk, Q.s_ct, Q.s_ex, Q.s_bd, Q.p_sm, Q.p_no, Q.r_sh, Q.r_l, Q.r_t, Q.r_d, Q.w_sh, Q.w_fr, Q.w_br, Q.d_sh, Q.d_fr, Q.d_br, Q.a_sh, Q.a_ow, Q.a_io, Q.a_lk, Q.m_ow, Q.m_io, Q.m_sh, Q.h_sh, Q.h_fr, Q.h_br, Q.c_sh, Q.c_fr, Q.c_br, Q.v_sh, Q.v_fr, Q.e_val, Q.e_tst, Q.e_io, Q.e_md, Q.kC', Q.kV', Q.kU', Q.kB', Q.kP0, Q.kP1, Q.kS', Q.kT', Q.kCh', Q.bl_s, Q.kVa, Q.kN', Q.kI', Q.kIT, Q.kAV, Q.kAT, Q.kSh, Q.kNl, Q.kCo, Q.kVw', Q.kSt, Q.kTu, Q.kLs, Q.kBi', Q.dr_n, Q.dr_c, Q.kMm', Q.kMt, Q.kMf, Q.kCa, Q.kCk, Q.cs, Q.av_n, Q.av_s, Q.av_i, Q.ai_n, Q.ai_s, Q.ai_i, Q.io_s, Q.io_i, Q.st_n, Q.st_c, Q.mu_l, Q.mu_d, Q.mu_o, Q.sa, Q.fa, Q.f_no, Q.f_sh, Q.f_ow, Q.bv, Q.ag_n, Q.ag_t, Q.an, Q.at_, Q.as_n, Q.as_c, Q.pv, Q.rt_s, Q.rt_f, Q.rt_b, Q.kIv, Q.kYs, Q.os_n, Q.os_t, Q.os_f, Q.is_t, Q.is_f, Q.is_n, Q.rs, Q.so, Q.l_int, Q.le_int, Q.g_int, Q.ge_int, Q.eq_d, Q.ne_d, Q.is_non, Q.bo', Q.tr_b, Q.tr_i, Q.tr_l, Q.ad_i, Q.sb_i, Q.ml_i, Q.fd_i, Q.md_i, Q.pw_i, Q.ad_l, Q.su_l, Q.su_t, Q.bi1', Q.i_i, Q.i_b, Q.ab_i, Q.le_l, Q.le_t, Q.li_l, Q.tu_l, Q.ng_i, Q.sx_l, Q.bm_s, exb, exs, evc, evl, evi, List.getElem?_cons_zero, List.getElem?_cons_succ, List.getElem?_nil, List.set_cons_zero, List.set_cons_succ, List.length_cons, List.length_nil, Option.bind_some, Option.bind_none, Option.map_some, Option.map_none, List.map_cons, List.map_nil, List.replicate_zero, List.replicate_succ, List.append_nil, List.cons_append, List.nil_append, Bool.not_true, Bool.not_false, Bool.false_eq_true, if_true, if_false, ite_true, ite_false, Option.isSome_some, Option.isSome_none, Bool.and_true, Bool.true_and, Bool.and_false, Bool.false_and, Bool.or_true, Bool.true_or, Bool.or_false, Bool.false_or, Nat.reduceAdd, Nat.reduceSub, Nat.sub_self, Nat.add_zero, Nat.zero_add, Nat.reduceLT, Nat.reduceLeDiff, reduceCtorEq, List.nodup_nil, List.nodup_cons, List.not_mem_nil, not_false_eq_true, and_self, and_true, true_and, decide_true, decide_false, List.tail_cons, List.headD_cons, CE.isNoe, CL.len, Bool.true_eq_false, Int.reduceLT, Int.reduceLE, Int.reduceToNat, reduceIte, hi, hmd, e', i0, i1]
        · have e' : (a ≤ i) = False := eq_false e
          simp only [Q.b_ok, Q.b_ex, Q.b_bd, Q.t_ok, Q.t_ex, Q.t_bd, Q.s_nx, Q.s_rt, Q.s_bk, Q.s_ct, Q.s_ex, Q.s_bd, Q.p_sm, Q.p_no, Q.r_sh, Q.r_l, Q.r_t, Q.r_d, Q.w_sh, Q.w_fr, Q.w_br, Q.d_sh, Q.d_fr, Q.d_br, Q.a_sh, Q.a_ow, Q.a_io, Q.a_lk, Q.m_ow, Q.m_io, Q.m_sh, Q.h_sh, Q.h_fr, Q.h_br, Q.c_sh, Q.c_fr, Q.c_br, Q.v_sh, Q.v_fr, Q.e_val, Q.e_tst, Q.e_io, Q.e_md, Q.kC', Q.kV', Q.kU', Q.kB', Q.kP0, Q.kP1, Q.kS', Q.kT', Q.kCh', Q.bl_s, Q.kVa, Q.kN', Q.kI', Q.kIT, Q.kAV, Q.kAT, Q.kSh, Q.kNl, Q.kCo, Q.kVw', Q.kSt, Q.kTu, Q.kLs, Q.kBi', Q.dr_n, Q.dr_c, Q.kMm', Q.kMt, Q.kMf, Q.kCa, Q.kCk, Q.cs, Q.av_n, Q.av_s, Q.av_i, Q.ai_n, Q.ai_s, Q.ai_i, Q.io_s, Q.io_i, Q.st_n, Q.st_c, Q.mu_l, Q.mu_d, Q.mu_o, Q.sa, Q.fa, Q.f_no, Q.f_sh, Q.f_ow, Q.bv, Q.ag_n, Q.ag_t, Q.an, Q.at_, Q.as_n, Q.as_c, Q.pv, Q.rt_s, Q.rt_f, Q.rt_b, Q.kIv, Q.kYs, Q.os_n, Q.os_t, Q.os_f, Q.is_t, Q.is_f, Q.is_n, Q.rs, Q.so, Q.l_int, Q.le_int, Q.g_int, Q.ge_int, Q.eq_d, Q.ne_d, Q.is_non, Q.bo', Q.tr_b, Q.tr_i, Q.tr_l, Q.ad_i, Q.sb_i, Q.ml_i, Q.fd_i, Q.md_i, Q.pw_i, Q.ad_l, Q.su_l, Q.su_t, Q.bi1', Q.i_i, Q.i_b, Q.ab_i, Q.le_l, Q.le_t, Q.li_l, Q.tu_l, Q.ng_i, Q.sx_l, Q.bm_s, exb, exs, evc, evl, evi, List.getElem?_cons_zero, List.getElem?_cons_succ, List.getElem?_nil, List.set_cons_zero, List.set_cons_succ, List.length_cons, List.length_nil, Option.bind_some, Option.bind_none, Option.map_some, Option.map_none, List.map_cons, List.map_nil, List.replicate_zero, List.replicate_succ, List.append_nil, List.cons_append, List.nil_append, Bool.not_true, Bool.not_false, Bool.false_eq_true, if_true, if_false, ite_true, ite_false, Option.isSome_some, Option.isSome_none, Bool.and_true, Bool.true_and, Bool.and_false, Bool.false_and, Bool.or_true, Bool.true_or, Bool.or_false, Bool.false_or, Nat.reduceAdd, Nat.reduceSub, Nat.sub_self, Nat.add_zero, Nat.zero_add, Nat.reduceLT, Nat.reduceLeDiff, reduceCtorEq, List.nodup_nil, List.nodup_cons, List.not_mem_nil, not_false_eq_true, and_self, and_true, true_and, decide_true, decide_false, List.tail_cons, List.headD_cons, CE.isNoe, CL.len, Bool.true_eq_false, Int.reduceLT, Int.reduceLE, Int.reduceToNat, reduceIte, hi, hmd, e', i0, i1]
      | _ => exact hm.elim
    | _ => exact hl.elim
  | _ => rfl
def sq (tp : Bool) (xs : List D) : D := if tp then .tup xs else .lst xs
def w1 (x : D) : Bool := wi x (.int 1) .non
/-- the test over all items -/
theorem lot_comp (tp : Bool) (xs : List D) (hx : ∀ x ∈ xs, isT x .int ≠ none) (hl : xs.length ≤ 4000) :
    (evc (.comp (.call "is_within" g_is_within (.cons (.var 1) (.cons (.int 1) (.cons .non .nil)))) (.nm 1) (.val (.var 0)) .nil [1])).val [.sh (sq tp xs), .no] = .ok (.fr (.lst (xs.map fun x => .bl (w1 x)))) [.sh (sq tp xs), .no] := by
  refine kComp_map (S1 := [.sh (sq tp xs), .no]) (u := none) (f := fun x => .bl (w1 x)) ?_ (fun x hx' => ?_) hl
  · cases tp <;> rfl
  · have hw := is_within_eq x (.int 1) .non (hx x hx') trivial trivial
    have hmd : g_is_within.md = [false, false, false] := rfl
    unfold turnC
    simp only [Q.b_ok, Q.b_ex, Q.b_bd, Q.t_ok, Q.t_ex, Q.t_bd, Q.s_nx, Q.s_rt, Q.s_bk, Q.s_ct, Q.s_ex, Q.s_bd, Q.p_sm, Q.p_no, Q.r_sh, Q.r_l, Q.r_t, Q.r_d, Q.w_sh, Q.w_fr, Q.w_br, Q.d_sh, Q.d_fr, Q.d_br, Q.a_sh, Q.a_ow, Q.a_io, Q.a_lk, Q.m_ow, Q.m_io, Q.m_sh, Q.h_sh, Q.h_fr, Q.h_br, Q.c_sh, Q.c_fr, Q.c_br, Q.v_sh, Q.v_fr, Q.e_val, Q.e_tst, Q.e_io, Q.e_md, Q.kC', Q.kV', Q.kU', Q.kB', Q.kP0, Q.kP1, Q.kS', Q.kT', Q.kCh', Q.bl_s, Q.kVa, Q.kN', Q.kI', Q.kIT, Q.kAV, Q.kAT, Q.kSh, Q.kNl, Q.kCo, Q.kVw', Q.kSt, Q.kTu, Q.kLs, Q.kBi', Q.dr_n, Q.dr_c, Q.kMm', Q.kMt, Q.kMf, Q.kCa, Q.kCk, Q.cs, Q.av_n, Q.av_s, Q.av_i, Q.ai_n, Q.ai_s, Q.ai_i, Q.io_s, Q.io_i, Q.st_n, Q.st_c, Q.mu_l, Q.mu_d, Q.mu_o, Q.sa, Q.fa, Q.f_no, Q.f_sh, Q.f_ow, Q.bv, Q.ag_n, Q.ag_t, Q.an, Q.at_, Q.as_n, Q.as_c, Q.pv, Q.rt_s, Q.rt_f, Q.rt_b, Q.kIv, Q.kYs, Q.os_n, Q.os_t, Q.os_f, Q.is_t, Q.is_f, Q.is_n, Q.rs, Q.so, Q.l_int, Q.le_int, Q.g_int, Q.ge_int, Q.eq_d, Q.ne_d, Q.is_non, Q.bo', Q.tr_b, Q.tr_i, Q.tr_l, Q.ad_i, Q.sb_i, Q.ml_i, Q.fd_i, Q.md_i, Q.pw_i, Q.ad_l, Q.su_l, Q.su_t, Q.bi1', Q.i_i, Q.i_b, Q.ab_i, Q.le_l, Q.le_t, Q.li_l, Q.tu_l, Q.ng_i, Q.sx_l, Q.bm_s, exb, exs, evc, evl, evi, List.getElem?_cons_zero, List.getElem?_cons_succ, List.getElem?_nil, List.set_cons_zero, List.set_cons_succ, List.length_cons, List.length_nil, Option.bind_some, Option.bind_none, Option.map_some, Option.map_none, List.map_cons, List.map_nil, List.replicate_zero, List.replicate_succ, List.append_nil, List.cons_append, List.nil_append, Bool.not_true, Bool.not_false, Bool.false_eq_true, if_true, if_false, ite_true, ite_false, Option.isSome_some, Option.isSome_none, Bool.and_true, Bool.true_and, Bool.and_false, Bool.false_and, Bool.or_true, Bool.true_or, Bool.or_false, Bool.false_or, Nat.reduceAdd, Nat.reduceSub, Nat.sub_self, Nat.add_zero, Nat.zero_add, Nat.reduceLT, Nat.reduceLeDiff, reduceCtorEq, List.nodup_nil, List.nodup_cons, List.not_mem_nil, not_false_eq_true, and_self, and_true, true_and, decide_true, decide_false, List.tail_cons, List.headD_cons, CE.isNoe, CL.len, Bool.true_eq_false, Int.reduceLT, Int.reduceLE, Int.reduceToNat, reduceIte, wipeS, backS, Option.getD_some, hw, hmd]
    rfl
theorem isSeq (tp : Bool) (xs : List D) : isTs [.list, .tuple] (sq tp xs) = some (bo true) := by cases tp <;> rfl
theorem lot_no (tp : Bool) (xs : List D) (hx : ∀ x ∈ xs, isT x .int ≠ none) (hl : xs.length ≤ 4000) (hn : xs.all w1 = false) : g_is_lot.m [sq tp xs] = .ok false (.bl false) [] := by
  have hc := lot_comp tp xs hx hl
  have ha : bi1 .all (.lst (xs.map fun x => .bl (w1 x))) = some (bo false) := by
    show (allB _).map _ = _
    rw [allB_map]
    show some (bo ((xs.map w1).all id)) = _
    rw [List.all_map]
    show some (bo (xs.all w1)) = _
    rw [hn]
  have hs := isSeq tp xs
  refine runS_rt (n := 2) (ds := [sq tp xs]) (b := exb b_is_lot) (ms := [false]) (o := []) (S := [.sh (sq tp xs), .no]) rfl ?_ rfl
  have e0 : slotsOf 2 [false] [sq tp xs] = [.sh (sq tp xs), .no] := rfl
  rw [e0]
  unfold b_is_lot
  refine exb_rt ?_
  generalize hC : CE.comp (.call "is_within" g_is_within (.cons (.var 1) (.cons (.int 1) (.cons .non .nil)))) (.nm 1) (.val (.var 0)) .nil [1] = C at *
  simp only [Q.b_ok, Q.b_ex, Q.b_bd, Q.t_ok, Q.t_ex, Q.t_bd, Q.s_nx, Q.s_rt, Q.s_bk, Q.s_ct, Q.s_ex, Q.s_bd, Q.p_sm, Q.p_no, Q.r_sh, Q.r_l, Q.r_t, Q.r_d, Q.w_sh, Q.w_fr, Q.w_br, Q.d_sh, Q.d_fr, Q.d_br, Q.a_sh, Q.a_ow, Q.a_io, Q.a_lk, Q.m_ow, Q.m_io, Q.m_sh, Q.h_sh, Q.h_fr, Q.h_br, Q.c_sh, Q.c_fr, Q.c_br, Q.v_sh, Q.v_fr, Q.e_val, Q.e_tst, Q.e_io, Q.e_md, Q.kC', Q.kV', Q.kU', Q.kB', Q.kP0, Q.kP1, Q.kS', Q.kT', Q.kCh', Q.bl_s, Q.kVa, Q.kN', Q.kI', Q.kIT, Q.kAV, Q.kAT, Q.kSh, Q.kNl, Q.kCo, Q.kVw', Q.kSt, Q.kTu, Q.kLs, Q.kBi', Q.dr_n, Q.dr_c, Q.kMm', Q.kMt, Q.kMf, Q.kCa, Q.kCk, Q.cs, Q.av_n, Q.av_s, Q.av_i, Q.ai_n, Q.ai_s, Q.ai_i, Q.io_s, Q.io_i, Q.st_n, Q.st_c, Q.mu_l, Q.mu_d, Q.mu_o, Q.sa, Q.fa, Q.f_no, Q.f_sh, Q.f_ow, Q.bv, Q.ag_n, Q.ag_t, Q.an, Q.at_, Q.as_n, Q.as_c, Q.pv, Q.rt_s, Q.rt_f, Q.rt_b, Q.kIv, Q.kYs, Q.os_n, Q.os_t, Q.os_f, Q.is_t, Q.is_f, Q.is_n, Q.rs, Q.so, Q.l_int, Q.le_int, Q.g_int, Q.ge_int, Q.eq_d, Q.ne_d, Q.is_non, Q.bo', Q.tr_b, Q.tr_i, Q.tr_l, Q.ad_i, Q.sb_i, Q.ml_i, Q.fd_i, Q.md_i, Q.pw_i, Q.ad_l, Q.su_l, Q.su_t, Q.bi1', Q.i_i, Q.i_b, Q.ab_i, Q.le_l, Q.le_t, Q.li_l, Q.tu_l, Q.ng_i, Q.sx_l, Q.bm_s, exb, exs, evc, evl, evi, List.getElem?_cons_zero, List.getElem?_cons_succ, List.getElem?_nil, List.set_cons_zero, List.set_cons_succ, List.length_cons, List.length_nil, Option.bind_some, Option.bind_none, Option.map_some, Option.map_none, List.map_cons, List.map_nil, List.replicate_zero, List.replicate_succ, List.append_nil, List.cons_append, List.nil_append, Bool.not_true, Bool.not_false, Bool.false_eq_true, if_true, if_false, ite_true, ite_false, Option.isSome_some, Option.isSome_none, Bool.and_true, Bool.true_and, Bool.and_false, Bool.false_and, Bool.or_true, Bool.true_or, Bool.or_false, Bool.false_or, Nat.reduceAdd, Nat.reduceSub, Nat.sub_self, Nat.add_zero, Nat.zero_add, Nat.reduceLT, Nat.reduceLeDiff, reduceCtorEq, List.nodup_nil, List.nodup_cons, List.not_mem_nil, not_false_eq_true, and_self, and_true, true_and, decide_true, decide_false, List.tail_cons, List.headD_cons, CE.isNoe, CL.len, Bool.true_eq_false, Int.reduceLT, Int.reduceLE, Int.reduceToNat, reduceIte, hs, hc, ha]
theorem lot_ints (tp : Bool) (ns : List Int) (h1 : ∀ n ∈ ns, 1 ≤ n) (hl : ns.length < 64) : g_is_lot.m [sq tp (ns.map D.int)] = .ok false (.bl (((dedupI ns).length : Int) == (ns.length : Int))) [] := by
  have hc := lot_comp tp (ns.map D.int) (fun x hx => by obtain ⟨i, _, rfl⟩ := List.mem_map.mp hx; exact fun z => nomatch z) (by rw [List.length_map]; omega)
  have ha : bi1 .all (.lst ((ns.map D.int).map fun x => .bl (w1 x))) = some (bo true) := by
    show (allB _).map _ = _
    rw [allB_map]
    show some (bo (((ns.map D.int).map w1).all id)) = _
    have : ((ns.map D.int).map w1).all id = true := by
      rw [List.all_eq_true]
      intro b hb
      obtain ⟨d, hd, rfl⟩ := List.mem_map.mp hb
      obtain ⟨i, hi, rfl⟩ := List.mem_map.mp hd
      show (decide (1 ≤ i) && true) = true
      simp [h1 i hi]
    rw [this]
  have hs := isSeq tp (ns.map D.int)
  have hls : lsetD (sq tp (ns.map D.int)) = some (.sh (.int ((dedupI ns).length : Nat))) := by
    cases tp with
    | true =>
      show (allI (ns.map D.int)).bind _ = _
      rw [allI_ints]
      show (if ns.length < 64 then _ else none) = _
      rw [if_pos hl]
    | false =>
      show (allI (ns.map D.int)).bind _ = _
      rw [allI_ints]
      show (if ns.length < 64 then _ else none) = _
      rw [if_pos hl]
  have hln : bi1 .len (sq tp (ns.map D.int)) = some (.sh (.int (ns.length : Nat))) := by
    cases tp with
    | true => show some (RO.sh (.int ((ns.map D.int).length : Nat))) = _; rw [List.length_map]
    | false => show some (RO.sh (.int ((ns.map D.int).length : Nat))) = _; rw [List.length_map]
  refine runS_rt (n := 2) (ds := [sq tp (ns.map D.int)]) (b := exb b_is_lot) (ms := [false]) (o := []) (S := [.sh (sq tp (ns.map D.int)), .no]) rfl ?_ rfl
  have e0 : slotsOf 2 [false] [sq tp (ns.map D.int)] = [.sh (sq tp (ns.map D.int)), .no] := rfl
  rw [e0]
  unfold b_is_lot
  generalize hC : CE.comp (.call "is_within" g_is_within (.cons (.var 1) (.cons (.int 1) (.cons .non .nil)))) (.nm 1) (.val (.var 0)) .nil [1] = C at *
  generalize hV : sq tp (ns.map D.int) = V at *
  simp only [Q.b_ok, Q.b_ex, Q.b_bd, Q.t_ok, Q.t_ex, Q.t_bd, Q.s_nx, Q.s_rt, Q.s_bk, Q.s_ct, Q.s_ex, Q.s_bd, Q.p_sm, Q.p_no, Q.r_sh, Q.r_l, Q.r_t, Q.r_d, Q.w_sh, Q.w_fr, Q.w_br, Q.d_sh, Q.d_fr, Q.d_br, Q.a_sh, Q.a_ow, Q.a_io, Q.a_lk, Q.m_ow, Q.m_io, Q.m_sh, Q.h_sh, Q.h_fr, Q.h_br, Q.c_sh, Q.c_fr, Q.c_br, Q.v_sh, Q.v_fr, Q.e_val, Q.e_tst, Q.e_io, Q.e_md, Q.kC', Q.kV', Q.kU', Q.kB', Q.kP0, Q.kP1, Q.kS', Q.kT', Q.kCh', Q.bl_s, Q.kVa, Q.kN', Q.kI', Q.kIT, Q.kAV, Q.kAT, Q.kSh, Q.kNl, Q.kCo, Q.kVw', Q.kSt, Q.kTu, Q.kLs, Q.kBi', Q.dr_n, Q.dr_c, Q.kMm', Q.kMt, Q.kMf, Q.kCa, Q.kCk, Q.cs, Q.av_n, Q.av_s, Q.av_i, Q.ai_n, Q.ai_s, Q.ai_i, Q.io_s, Q.io_i, Q.st_n, Q.st_c, Q.mu_l, Q.mu_d, Q.mu_o, Q.sa, Q.fa, Q.f_no, Q.f_sh, Q.f_ow, Q.bv, Q.ag_n, Q.ag_t, Q.an, Q.at_, Q.as_n, Q.as_c, Q.pv, Q.rt_s, Q.rt_f, Q.rt_b, Q.kIv, Q.kYs, Q.os_n, Q.os_t, Q.os_f, Q.is_t, Q.is_f, Q.is_n, Q.rs, Q.so, Q.l_int, Q.le_int, Q.g_int, Q.ge_int, Q.eq_d, Q.ne_d, Q.is_non, Q.bo', Q.tr_b, Q.tr_i, Q.tr_l, Q.ad_i, Q.sb_i, Q.ml_i, Q.fd_i, Q.md_i, Q.pw_i, Q.ad_l, Q.su_l, Q.su_t, Q.bi1', Q.i_i, Q.i_b, Q.ab_i, Q.le_l, Q.le_t, Q.li_l, Q.tu_l, Q.ng_i, Q.sx_l, Q.bm_s, exb, exs, evc, evl, evi, List.getElem?_cons_zero, List.getElem?_cons_succ, List.getElem?_nil, List.set_cons_zero, List.set_cons_succ, List.length_cons, List.length_nil, Option.bind_some, Option.bind_none, Option.map_some, Option.map_none, List.map_cons, List.map_nil, List.replicate_zero, List.replicate_succ, List.append_nil, List.cons_append, List.nil_append, Bool.not_true, Bool.not_false, Bool.false_eq_true, if_true, if_false, ite_true, ite_false, Option.isSome_some, Option.isSome_none, Bool.and_true, Bool.true_and, Bool.and_false, Bool.false_and, Bool.or_true, Bool.true_or, Bool.or_false, Bool.false_or, Nat.reduceAdd, Nat.reduceSub, Nat.sub_self, Nat.add_zero, Nat.zero_add, Nat.reduceLT, Nat.reduceLeDiff, reduceCtorEq, List.nodup_nil, List.nodup_cons, List.not_mem_nil, not_false_eq_true, and_self, and_true, true_and, decide_true, decide_false, List.tail_cons, List.headD_cons, CE.isNoe, CL.len, Bool.true_eq_false, Int.reduceLT, Int.reduceLE, Int.reduceToNat, reduceIte, hs, hc, ha, hls, hln, eq_ii]
theorem lot_other (v : D) (h : isTs [.list, .tuple] v = some (bo false)) : g_is_lot.m [v] = .ok false (.bl false) [] := by
  refine runS_rt (n := 2) (ds := [v]) (b := exb b_is_lot) (ms := [false]) (o := []) (S := [.sh v, .no]) rfl ?_ rfl
  have e0 : slotsOf 2 [false] [v] = [.sh v, .no] := rfl
  rw [e0]
  unfold b_is_lot
  refine exb_rt ?_
  generalize hC : CE.comp (.call "is_within" g_is_within (.cons (.var 1) (.cons (.int 1) (.cons .non .nil)))) (.nm 1) (.val (.var 0)) .nil [1] = C at *
  simp only [Q.b_ok, Q.b_ex, Q.b_bd, Q.t_ok, Q.t_ex, Q.t_bd, Q.s_nx, Q.s_rt, Q.s_bk, Q.s_ct, Q.s_ex, Q.s_bd, Q.p_sm, Q.p_no, Q.r_sh, Q.r_l, Q.r_t, Q.r_d, Q.w_sh, Q.w_fr, Q.w_br, Q.d_sh, Q.d_fr, Q.d_br, Q.a_sh, Q.a_ow, Q.a_io, Q.a_lk, Q.m_ow, Q.m_io, Q.m_sh, Q.h_sh, Q.h_fr, Q.h_br, Q.c_sh, Q.c_fr, Q.c_br, Q.v_sh, Q.v_fr, Q.e_val, Q.e_tst, Q.e_io, Q.e_md, Q.kC', Q.kV', Q.kU', Q.kB', Q.kP0, Q.kP1, Q.kS', Q.kT', Q.kCh', Q.bl_s, Q.kVa, Q.kN', Q.kI', Q.kIT, Q.kAV, Q.kAT, Q.kSh, Q.kNl, Q.kCo, Q.kVw', Q.kSt, Q.kTu, Q.kLs, Q.kBi', Q.dr_n, Q.dr_c, Q.kMm', Q.kMt, Q.kMf, Q.kCa, Q.kCk, Q.cs, Q.av_n, Q.av_s, Q.av_i, Q.ai_n, Q.ai_s, Q.ai_i, Q.io_s, Q.io_i, Q.st_n, Q.st_c, Q.mu_l, Q.mu_d, Q.mu_o, Q.sa, Q.fa, Q.f_no, Q.f_sh, Q.f_ow, Q.bv, Q.ag_n, Q.ag_t, Q.an, Q.at_, Q.as_n, Q.as_c, Q.pv, Q.rt_s, Q.rt_f, Q.rt_b, Q.kIv, Q.kYs, Q.os_n, Q.os_t, Q.os_f, Q.is_t, Q.is_f, Q.is_n, Q.rs, Q.so, Q.l_int, Q.le_int, Q.g_int, Q.ge_int, Q.eq_d, Q.ne_d, Q.is_non, Q.bo', Q.tr_b, Q.tr_i, Q.tr_l, Q.ad_i, Q.sb_i, Q.ml_i, Q.fd_i, Q.md_i, Q.pw_i, Q.ad_l, Q.su_l, Q.su_t, Q.bi1', Q.i_i, Q.i_b, Q.ab_i, Q.le_l, Q.le_t, Q.li_l, Q.tu_l, Q.ng_i, Q.sx_l, Q.bm_s, exb, exs, evc, evl, evi, List.getElem?_cons_zero, List.getElem?_cons_succ, List.getElem?_nil, List.set_cons_zero, List.set_cons_succ, List.length_cons, List.length_nil, Option.bind_some, Option.bind_none, Option.map_some, Option.map_none, List.map_cons, List.map_nil, List.replicate_zero, List.replicate_succ, List.append_nil, List.cons_append, List.nil_append, Bool.not_true, Bool.not_false, Bool.false_eq_true, if_true, if_false, ite_true, ite_false, Option.isSome_some, Option.isSome_none, Bool.and_true, Bool.true_and, Bool.and_false, Bool.false_and, Bool.or_true, Bool.true_or, Bool.or_false, Bool.false_or, Nat.reduceAdd, Nat.reduceSub, Nat.sub_self, Nat.add_zero, Nat.zero_add, Nat.reduceLT, Nat.reduceLeDiff, reduceCtorEq, List.nodup_nil, List.nodup_cons, List.not_mem_nil, not_false_eq_true, and_self, and_true, true_and, decide_true, decide_false, List.tail_cons, List.headD_cons, CE.isNoe, CL.len, Bool.true_eq_false, Int.reduceLT, Int.reduceLE, Int.reduceToNat, reduceIte, h]

/-! ### what is drawn -/
def odd7 : List D := [.non, .bl true, .bl false, .str "1", .tup [.int 1], .lst [.int 0], .dic [] []]
theorem any_ok (n : Nat) (d : D) (tok : TubOk n d) (hn : n ≤ 3000) : ∃ (v : D) (w : Bool) (d' : D), g__law_any.m [d] = .ok false (.tup [v, .bl w]) [d'] ∧ TubOk (n + 4) d' ∧ ((w = true ∧ ∃ i, v = .int i) ∨ (w = false ∧ v ∈ odd7)) := by
  obtain ⟨v1, d1, h1, _, _, t1⟩ := draws.2 n d 30 tok (by omega) (by decide) (by decide)
  obtain ⟨i2, x2, d2, g2, h2, t2⟩ := picks.2 (n + 1) d1 [.int 0, .int 1, .int (-1), .int v1, .int 200, .int 201, .int (-60), .int (10 ^ (30 : Int).toNat)] t1 (by omega) (by simp) (by simp)
  obtain ⟨i3, x3, d3, g3, h3, t3⟩ := picks.2 (n + 2) d2 odd7 t2 (by omega) (by simp [odd7]) (by simp [odd7])
  obtain ⟨v4, d4, h4, v40, _, t4⟩ := draws.2 (n + 3) d3 3 t3 (by omega) (by decide) (by decide)
  have e2 : ∃ i, x2 = .int i := by
    have := List.mem_of_getElem? g2
    simp only [List.mem_cons, List.not_mem_nil, or_false] at this
    rcases this with rfl | rfl | rfl | rfl | rfl | rfl | rfl | rfl <;> exact ⟨_, rfl⟩
  have e3 : x3 ∈ odd7 := List.mem_of_getElem? g3
  have m1 : g__law_scoop.md = [true, false] := rfl
  have m2 : g__law_pick.md = [true, false] := rfl
  have u1 := t1.mu
  have u2 := t2.mu
  have u3 := t3.mu
  have u4 := t4.mu
  have l8 : (8 ≤ sizeLine) = True := eq_true (by rw [sizeLine_eq]; decide)
  have l7 : (7 ≤ sizeLine) = True := eq_true (by rw [sizeLine_eq]; decide)
  have l2 : (2 ≤ sizeLine) = True := eq_true (by rw [sizeLine_eq]; decide)
  have l1 : (1 ≤ sizeLine) = True := eq_true (by rw [sizeLine_eq]; decide)
  have p1 : (0 ≤ (30 : Int)) = True := by simp
  have p2 : ((30 : Int) ≤ 1000000) = True := by simp
  have p3 : ((10 : Int).natAbs < 2 ^ 64) = True := by simp
  unfold odd7 at h3
  by_cases c4 : 0 < v4
  · have c4' : (0 < v4) = True := eq_true c4
    refine ⟨x2, true, d4, ?_, t4, .inl ⟨rfl, e2⟩⟩
    unfold g__law_any b__law_any
    simp only [Q.b_ok, Q.b_ex, Q.b_bd, Q.t_ok, Q.t_ex, Q.t_bd, Q.s_nx, Q.s_rt, Q.s_bk, Q.s_ct, Q.s_ex, Q.s_bd, Q.p_sm, Q.p_no, Q.r_sh, Q.r_l, Q.r_t, Q.r_d, Q.w_sh, Q.w_fr, Q.w_br, Q.d_sh, Q.d_fr, Q.d_br, Q.a_sh, Q.a_ow, Q.a_io, Q.a_lk, Q.m_ow, Q.m_io, Q.m_sh, Q.h_sh, Q.h_fr, Q.h_br, Q.c_sh, Q.c_fr, Q.c_br, Q.v_sh, Q.v_fr, Q.e_val, Q.e_tst, Q.e_io, Q.e_md, Q.kC', Q.kV', Q.kU', Q.kB', Q.kP0, Q.kP1, Q.kS', Q.kT', Q.kCh', Q.bl_s, Q.kVa, Q.kN', Q.kI', Q.kIT, Q.kAV, Q.kAT, Q.kSh, Q.kNl, Q.kCo, Q.kVw', Q.kSt, Q.kTu, Q.kLs, Q.kBi', Q.dr_n, Q.dr_c, Q.kMm', Q.kMt, Q.kMf, Q.kCa, Q.kCk, Q.cs, Q.av_n, Q.av_s, Q.av_i, Q.ai_n, Q.ai_s, Q.ai_i, Q.io_s, Q.io_i, Q.st_n, Q.st_c, Q.mu_l, Q.mu_d, Q.mu_o, Q.sa, Q.fa, Q.f_no, Q.f_sh, Q.f_ow, Q.bv, Q.ag_n, Q.ag_t, Q.an, Q.at_, Q.as_n, Q.as_c, Q.pv, Q.rt_s, Q.rt_f, Q.rt_b, Q.kIv, Q.kYs, Q.os_n, Q.os_t, Q.os_f, Q.is_t, Q.is_f, Q.is_n, Q.rs, Q.so, Q.l_int, Q.le_int, Q.g_int, Q.ge_int, Q.eq_d, Q.ne_d, Q.is_non, Q.bo', Q.tr_b, Q.tr_i, Q.tr_l, Q.ad_i, Q.sb_i, Q.ml_i, Q.fd_i, Q.md_i, Q.pw_i, Q.ad_l, Q.su_l, Q.su_t, Q.bi1', Q.i_i, Q.i_b, Q.ab_i, Q.le_l, Q.le_t, Q.li_l, Q.tu_l, Q.ng_i, Q.sx_l, Q.bm_s, exb, exs, evc, evl, evi, List.getElem?_cons_zero, List.getElem?_cons_succ, List.getElem?_nil, List.set_cons_zero, List.set_cons_succ, List.length_cons, List.length_nil, Option.bind_some, Option.bind_none, Option.map_some, Option.map_none, List.map_cons, List.map_nil, List.replicate_zero, List.replicate_succ, List.append_nil, List.cons_append, List.nil_append, Bool.not_true, Bool.not_false, Bool.false_eq_true, if_true, if_false, ite_true, ite_false, Option.isSome_some, Option.isSome_none, Bool.and_true, Bool.true_and, Bool.and_false, Bool.false_and, Bool.or_true, Bool.true_or, Bool.or_false, Bool.false_or, Nat.reduceAdd, Nat.reduceSub, Nat.sub_self, Nat.add_zero, Nat.zero_add, Nat.reduceLT, Nat.reduceLeDiff, reduceCtorEq, List.nodup_nil, List.nodup_cons, List.not_mem_nil, not_false_eq_true, and_self, and_true, true_and, decide_true, decide_false, List.tail_cons, List.headD_cons, CE.isNoe, CL.len, Bool.true_eq_false, Int.reduceLT, Int.reduceLE, Int.reduceToNat, reduceIte, h1, h2, h3, h4, m1, m2, u1, u2, u3, u4, l8, l7, l2, l1, p1, p2, p3, c4', -Int.reduceToNat, -Int.reducePow]
  · have c4' : (0 < v4) = False := eq_false c4
    refine ⟨x3, false, d4, ?_, t4, .inr ⟨rfl, e3⟩⟩
    unfold g__law_any b__law_any
    simp only [Q.b_ok, Q.b_ex, Q.b_bd, Q.t_ok, Q.t_ex, Q.t_bd, Q.s_nx, Q.s_rt, Q.s_bk, Q.s_ct, Q.s_ex, Q.s_bd, Q.p_sm, Q.p_no, Q.r_sh, Q.r_l, Q.r_t, Q.r_d, Q.w_sh, Q.w_fr, Q.w_br, Q.d_sh, Q.d_fr, Q.d_br, Q.a_sh, Q.a_ow, Q.a_io, Q.a_lk, Q.m_ow, Q.m_io, Q.m_sh, Q.h_sh, Q.h_fr, Q.h_br, Q.c_sh, Q.c_fr, Q.c_br, Q.v_sh, Q.v_fr, Q.e_val, Q.e_tst, Q.e_io, Q.e_md, Q.kC', Q.kV', Q.kU', Q.kB', Q.kP0, Q.kP1, Q.kS', Q.kT', Q.kCh', Q.bl_s, Q.kVa, Q.kN', Q.kI', Q.kIT, Q.kAV, Q.kAT, Q.kSh, Q.kNl, Q.kCo, Q.kVw', Q.kSt, Q.kTu, Q.kLs, Q.kBi', Q.dr_n, Q.dr_c, Q.kMm', Q.kMt, Q.kMf, Q.kCa, Q.kCk, Q.cs, Q.av_n, Q.av_s, Q.av_i, Q.ai_n, Q.ai_s, Q.ai_i, Q.io_s, Q.io_i, Q.st_n, Q.st_c, Q.mu_l, Q.mu_d, Q.mu_o, Q.sa, Q.fa, Q.f_no, Q.f_sh, Q.f_ow, Q.bv, Q.ag_n, Q.ag_t, Q.an, Q.at_, Q.as_n, Q.as_c, Q.pv, Q.rt_s, Q.rt_f, Q.rt_b, Q.kIv, Q.kYs, Q.os_n, Q.os_t, Q.os_f, Q.is_t, Q.is_f, Q.is_n, Q.rs, Q.so, Q.l_int, Q.le_int, Q.g_int, Q.ge_int, Q.eq_d, Q.ne_d, Q.is_non, Q.bo', Q.tr_b, Q.tr_i, Q.tr_l, Q.ad_i, Q.sb_i, Q.ml_i, Q.fd_i, Q.md_i, Q.pw_i, Q.ad_l, Q.su_l, Q.su_t, Q.bi1', Q.i_i, Q.i_b, Q.ab_i, Q.le_l, Q.le_t, Q.li_l, Q.tu_l, Q.ng_i, Q.sx_l, Q.bm_s, exb, exs, evc, evl, evi, List.getElem?_cons_zero, List.getElem?_cons_succ, List.getElem?_nil, List.set_cons_zero, List.set_cons_succ, List.length_cons, List.length_nil, Option.bind_some, Option.bind_none, Option.map_some, Option.map_none, List.map_cons, List.map_nil, List.replicate_zero, List.replicate_succ, List.append_nil, List.cons_append, List.nil_append, Bool.not_true, Bool.not_false, Bool.false_eq_true, if_true, if_false, ite_true, ite_false, Option.isSome_some, Option.isSome_none, Bool.and_true, Bool.true_and, Bool.and_false, Bool.false_and, Bool.or_true, Bool.true_or, Bool.or_false, Bool.false_or, Nat.reduceAdd, Nat.reduceSub, Nat.sub_self, Nat.add_zero, Nat.zero_add, Nat.reduceLT, Nat.reduceLeDiff, reduceCtorEq, List.nodup_nil, List.nodup_cons, List.not_mem_nil, not_false_eq_true, and_self, and_true, true_and, decide_true, decide_false, List.tail_cons, List.headD_cons, CE.isNoe, CL.len, Bool.true_eq_false, Int.reduceLT, Int.reduceLE, Int.reduceToNat, reduceIte, h1, h2, h3, h4, m1, m2, u1, u2, u3, u4, l8, l7, l2, l1, p1, p2, p3, c4', -Int.reduceToNat, -Int.reducePow]
end LK02

namespace Eng
open PySem PySem.Spec
open L2 (Key)
theorem asg_sh {i : Nat} {e : CE} {S S1 : SS} {d : D} (h : (evc e).val S = .ok (.sh d) S1) (hf : freeAt S1 i = true) : exs (.asg (.nm i) e) S = .nx (S1.set i (.sh d)) := by
  rw [exs, h]
  simp only [Q.t_ok, Q.ag_n, Q.bv, Q.c_sh, hf, if_true, Q.v_sh]
theorem asg_fr {i : Nat} {e : CE} {S S1 : SS} {d : D} (h : (evc e).val S = .ok (.fr d) S1) (hf : freeAt S1 i = true) : exs (.asg (.nm i) e) S = .nx (S1.set i (.ow d)) := by
  rw [exs, h]
  simp only [Q.t_ok, Q.ag_n, Q.bv, Q.c_fr, hf, if_true, Q.v_fr]
theorem sh_fr {e : CE} {S S1 : SS} {d : D} (h : (evc e).val S = .ok (.fr d) S1) : kShr (evc e).val S = .ok d S1 := by
  rw [Q.kSh, h]; rfl
theorem sh_sh {e : CE} {S S1 : SS} {d : D} (h : (evc e).val S = .ok (.sh d) S1) : kShr (evc e).val S = .ok d S1 := by
  rw [Q.kSh, h]; rfl
theorem sh_cons {e : CE} {l : CL} {S S1 S2 : SS} {d : D} {ds : List D} (h1 : kShr (evc e).val S = .ok d S1) (h2 : (evl l).sh S1 = .ok ds S2) : (evl (.cons e l)).sh S = .ok (d :: ds) S2 := by
  have key : kCons (kShr (evc e).val) (evl l).sh S = .ok (d :: ds) S2 := by
    rw [Q.kCo, h1]; simp only [Q.b_ok]; rw [h2]; rfl
  cases l <;> exact key
theorem sh_nil {S : SS} : (evl .nil).sh S = .ok [] S := rfl
theorem lst_of {l : CL} {S S1 : SS} {ds : List D} (h : (evl l).sh S = .ok ds S1) (hl : ds.length ≤ 4000) : (evc (.lst l)).val S = .ok (.fr (.lst ds)) S1 := by
  show kLst (evl l).sh S = _
  rw [Q.kLs, h]
  simp only [Q.b_ok]
  rw [if_pos (Nat.le_of_lt (sizeLine_big (by omega)))]
theorem add_l {a b : CE} {S S1 S2 : SS} {xs ys : List D} {r t : RV} (ha : (evc a).val S = .ok r S1) (hb : (evc b).val S1 = .ok t S2) (h1 : deref S2 r.vw = some (.lst xs)) (h2 : deref S2 t.vw = some (.lst ys)) (hl : xs.length + ys.length ≤ 4000) :
    (evc (.bin .Add a b)).val S = .ok (.fr (.lst (xs ++ ys))) S2 := by
  show kBin (binD .Add) (evc a).val (evc b).val S = _
  rw [Q.kB', ha]
  simp only [Q.b_ok]
  rw [hb]
  simp only [Q.b_ok]
  rw [h1, h2]
  simp only [Option.bind_some, Q.ad_l]
  rw [if_pos (Nat.le_of_lt (sizeLine_big (by omega)))]
  rfl
theorem for_nx {tg : Tg} {b : SS → F} {x : D} {xs : List D} {S S1 S2 : SS} (h1 : assign tg x S = some S1) (h2 : b S1 = .nx S2) : forF tg b (x :: xs) S = forF tg b xs S2 := by
  rw [forF, h1]
  simp only [h2]
theorem exs_for {tg : Tg} {it : CI} {b : CB} {S S1 S2 : SS} {xs : List D} {u : Option Nat} (h1 : evi it S = .ok (xs, u) S1) (h2 : forF tg (exb b) xs S1 = .nx S2) : exs (.for_ tg it b) S = .nx (unlock S2 u) := by
  rw [exs, h1]
  simp only [Q.t_ok]
  rw [h2]; rfl
theorem dedup_len {ns : List Int} (h : ns.Nodup) : (dedupI ns).length = ns.length := by
  obtain ⟨h1, h2⟩ := dedup_nodup ns
  exact ((List.perm_ext_iff_of_nodup h1 h).mpr h2).length_eq
theorem dedup_le (ns : List Int) : (dedupI ns).length ≤ ns.length := by
  have key : ∀ (ns acc : List Int), (ns.foldl (fun acc k => if acc.any (· == k) then acc else acc ++ [k]) acc).length ≤ acc.length + ns.length := by
    intro ns
    induction ns with
    | nil => intro acc; simp
    | cons n ns ih =>
      intro acc
      rw [List.foldl_cons]
      refine Nat.le_trans (ih _) ?_
      split <;> simp <;> omega
  have := key ns []
  simpa [dedupI] using this
/-- two of one kind -/
theorem dedup_snoc {ns : List Int} {x : Int} (h : x ∈ ns) : (dedupI (ns ++ [x])).length ≤ ns.length := by
  have e : dedupI (ns ++ [x]) = if (dedupI ns).any (· == x) then dedupI ns else dedupI ns ++ [x] := by
    unfold dedupI
    rw [List.foldl_append]; rfl
  have m : (dedupI ns).any (· == x) = true := List.any_eq_true.mpr ⟨x, ((dedup_nodup ns).2 x).mpr h, by simp⟩
  rw [e, if_pos m]
  exact dedup_le ns
theorem putG_keys {α : Type} (kvs : List (Key × α)) (k : Key) (v : α) : (putG kvs k v).map (·.1) = if (kvs.map (·.1)).any (fun x => decide (x = k)) then kvs.map (·.1) else kvs.map (·.1) ++ [k] := by
  have e : ((kvs.map (·.1)).any fun x => decide (x = k)) = kvs.any fun kv => decide (kv.1 = k) := by rw [List.any_map]; rfl
  rw [e]
  unfold putG
  by_cases h : (kvs.any fun kv => decide (kv.1 = k)) = true
  · rw [if_pos h, if_pos h, List.map_map]
    apply List.map_congr_left
    intro kv _
    show (if kv.1 = k then (kv.1, v) else kv).1 = kv.1
    split <;> rfl
  · rw [if_neg h, if_neg h, List.map_append]; rfl
theorem merge_keys (zs : List Int) : ((mergeG [] (zs.map fun z => ((.inl z : Key), D.bl true))).map fun kv => kD kv.1) = (dedupI zs).map D.int := by
  have key : ∀ (zs acc : List Int) (kvs : List (Key × D)), kvs.map (·.1) = acc.map (fun z => (.inl z : Key)) → ((mergeG kvs (zs.map fun z => ((.inl z : Key), D.bl true))).map (·.1)) = (zs.foldl (fun acc k => if acc.any (· == k) then acc else acc ++ [k]) acc).map fun z => (.inl z : Key) := by
    intro zs
    induction zs with
    | nil => intro acc kvs h; exact h
    | cons z zs ih =>
      intro acc kvs h
      rw [List.map_cons, List.foldl_cons]
      show ((mergeG (putG kvs (.inl z) (.bl true)) _).map (·.1)) = _
      refine ih _ _ ?_
      rw [putG_keys, h, List.any_map]
      have e : (acc.any ((fun x : Key => decide (x = .inl z)) ∘ fun z => (.inl z : Key))) = acc.any (· == z) := by
        congr 1
        funext y
        show decide ((.inl y : Key) = .inl z) = (y == z)
        by_cases q : y = z
        · subst q; simp
        · have : ((.inl y : Key) = .inl z) = False := eq_false fun w => q (Sum.inl.inj w)
          simp [this, q]
      rw [e]
      split <;> simp
  have h := key zs [] [] rfl
  have : ((mergeG [] (zs.map fun z => ((.inl z : Key), D.bl true))).map fun kv => kD kv.1) = ((mergeG [] (zs.map fun z => ((.inl z : Key), D.bl true))).map (·.1)).map kD := by rw [List.map_map]; rfl
  rw [this, h, List.map_map]
  rfl
theorem pairs_bl : ∀ zs : List Int, pairsD (zs.map fun z => D.tup [.int z, .bl true]) = some (zs.map fun z => ((.inl z : Key), D.bl true))
  | [] => rfl
  | z :: zs => by rw [List.map_cons, pairsD, pairs_bl zs]; rfl
theorem keys_ints : ∀ ns : List Int, keysD (ns.map D.int) = some (ns.map fun z => (.inl z : Key))
  | [] => rfl
  | n :: ns => by rw [List.map_cons, keysD, keys_ints ns]; rfl
mutual
theorem eqv_refl : ∀ p : PyData, p.canLay0 = true → PyData.eqv p p = true
  | .none, _ => by simp [PyData.eqv]
  | .bool b, _ => by simp [PyData.eqv]
  | .int i, _ => by simp [PyData.eqv]
  | .str x, _ => by simp [PyData.eqv]
  | .list xs, h => by simp only [PyData.eqv]; exact eqvs_refl xs (by simpa [PyData.canLay0] using h)
  | .tuple xs, h => by simp only [PyData.eqv]; exact eqvs_refl xs (by simpa [PyData.canLay0] using h)
  | .dict kvs, h => by simp [PyData.canLay0] at h
theorem eqvs_refl : ∀ ps : List PyData, PyData.canLayAll0 ps = true → PyData.eqvAll ps ps = true
  | [], _ => by simp [PyData.eqvAll]
  | p :: ps, h => by
    simp only [PyData.canLayAll0, Bool.and_eq_true] at h
    simp only [PyData.eqvAll, eqv_refl p h.1, eqvs_refl ps h.2, Bool.and_self]
end
theorem eqD_self {n : Nat} {d : D} (hn : n ≤ 64) (h : PD n d) : eqD d d = some true := by
  obtain ⟨p, q, h1, h2, h3⟩ := eqD_of hn h h
  rw [h3]
  rw [h1] at h2
  cases h2
  obtain ⟨p', k1, k2, _⟩ := h
  rw [h1] at k1; cases k1
  rw [eqv_refl p k2]
/-- ints again -/
def toI : D → Int
  | .int i => i
  | _ => 0
theorem ints_of (ys : List D) (h : ∀ y ∈ ys, ∃ i, y = .int i) : ys = (ys.map toI).map D.int := by
  rw [List.map_map]
  conv => lhs; rw [← List.map_id ys]
  apply List.map_congr_left
  intro y hy
  obtain ⟨i, rfl⟩ := h y hy
  rfl
theorem range_mem (lo : Int) : ∀ (n : Nat) (x : D), x ∈ rangeD lo n → ∃ i, x = .int i ∧ lo ≤ i ∧ i < lo + n
  | 0, x, h => by simp [rangeD] at h
  | n + 1, x, h => by
    unfold rangeD at h
    rcases List.mem_append.mp h with h | h
    · obtain ⟨i, e, h1, h2⟩ := range_mem lo n x h
      exact ⟨i, e, h1, by omega⟩
    · rw [List.mem_singleton] at h
      exact ⟨lo + n, h, by omega, by omega⟩
end Eng

namespace LK02
open PySem PySem.Spec Eng
open L2 (Key)

def bodyB : CB := match b_law with
  | .cons _ (.cons (.for_ _ _ b) _) => b
  | _ => .nil
/-- what is the due -/
theorem due_eq {S : SS} {v l m : D} {w : Bool} (h8 : S[8]? = some (.sh v)) (h9 : S[9]? = some (.sh (.bl w))) (h10 : S[10]? = some (.sh l)) (h11 : S[11]? = some (.sh m)) (hw : (w = true ∧ ∃ i, v = .int i) ∨ (w = false ∧ isI v = false)) (hl : bnd l) (hm : bnd m) :
    (evc (.and_ (.cons (.var 9) (.cons (.or_ (.cons (.cmp .Is (.var 10) .non) (.cons (.cmp .GtE (.var 8) (.var 10)) .nil))) (.cons (.or_ (.cons (.cmp .Is (.var 11) .non) (.cons (.cmp .LtE (.var 8) (.var 11)) .nil))) .nil))))).val S = .ok (.sh (.bl (wi v l m))) S := by
  have i0 : Eng.isNon .non = true := rfl
  have i1 : ∀ a, Eng.isNon (.int a) = false := fun _ => rfl
  rcases hw with ⟨rfl, i, rfl⟩ | ⟨rfl, hv⟩
  · cases l with
    | non =>
      cases m with
      | non => simp only [Q.b_ok, Q.b_ex, Q.b_bd, Q.t_ok, Q.t_ex, Q.t_bd, Q.s_nx, Q.s_rt, Q.s_bk, Q.s_ct, Q.s_ex, Q.s_bd, Q.p_sm, Q.p_no, Q.r_sh, Q.r_l, Q.r_t, Q.r_d, Q.w_sh, Q.w_fr, Q.w_br, Q.d_sh, Q.d_fr, Q.d_br, Q.a_sh, Q.a_ow, Q.a_io, Q.a_lk, Q.m_ow, Q.m_io, Q.m_sh, Q.h_sh, Q.h_fr, Q.h_br, Q.c_sh, Q.c_fr, Q.c_br, Q.v_sh, Q.v_fr, Q.e_val, Q.e_tst, Q.e_io, Q.e_md, Q.kC', Q.kV', Q.kU', Q.kB', Q.kP0, Q.kP1, Q.kS', Q.kT', Q.kCh', Q.bl_s, Q.kVa, Q.kN', Q.kI', Q.kIT, Q.kAV, Q.kAT, Q.kSh, Q.kNl, Q.kCo, Q.kVw', Q.kSt, Q.kTu, Q.kLs, Q.kBi', Q.dr_n, Q.dr_c, Q.kMm', Q.kMt, Q.kMf, Q.kCa, Q.kCk, Q.cs, Q.av_n, Q.av_s, Q.av_i, Q.ai_n, Q.ai_s, Q.ai_i, Q.io_s, Q.io_i, Q.st_n, Q.st_c, Q.mu_l, Q.mu_d, Q.mu_o, Q.sa, Q.fa, Q.f_no, Q.f_sh, Q.f_ow, Q.bv, Q.ag_n, Q.ag_t, Q.an, Q.at_, Q.as_n, Q.as_c, Q.pv, Q.rt_s, Q.rt_f, Q.rt_b, Q.kIv, Q.kYs, Q.os_n, Q.os_t, Q.os_f, Q.is_t, Q.is_f, Q.is_n, Q.rs, Q.so, Q.l_int, Q.le_int, Q.g_int, Q.ge_int, Q.eq_d, Q.ne_d, Q.is_non, Q.bo', Q.tr_b, Q.tr_i, Q.tr_l, Q.ad_i, Q.sb_i, Q.ml_i, Q.fd_i, Q.md_i, Q.pw_i, Q.ad_l, Q.su_l, Q.su_t, Q.bi1', Q.i_i, Q.i_b, Q.ab_i, Q.le_l, Q.le_t, Q.li_l, Q.tu_l, Q.ng_i, Q.sx_l, Q.bm_s, exb, exs, evc, evl, evi, List.getElem?_cons_zero, List.getElem?_cons_succ, List.getElem?_nil, List.set_cons_zero, List.set_cons_succ, List.length_cons, List.length_nil, Option.bind_some, Option.bind_none, Option.map_some, Option.map_none, List.map_cons, List.map_nil, List.replicate_zero, List.replicate_succ, List.append_nil, List.cons_append, List.nil_append, Bool.not_true, Bool.not_false, Bool.false_eq_true, if_true, if_false, ite_true, ite_false, Option.isSome_some, Option.isSome_none, Bool.and_true, Bool.true_and, Bool.and_false, Bool.false_and, Bool.or_true, Bool.true_or, Bool.or_false, Bool.false_or, Nat.reduceAdd, Nat.reduceSub, Nat.sub_self, Nat.add_zero, Nat.zero_add, Nat.reduceLT, Nat.reduceLeDiff, reduceCtorEq, List.nodup_nil, List.nodup_cons, List.not_mem_nil, not_false_eq_true, and_self, and_true, true_and, decide_true, decide_false, List.tail_cons, List.headD_cons, CE.isNoe, CL.len, Bool.true_eq_false, Int.reduceLT, Int.reduceLE, Int.reduceToNat, reduceIte, h8, h9, h10, h11, i0, i1]; rfl
      | int b => simp only [Q.b_ok, Q.b_ex, Q.b_bd, Q.t_ok, Q.t_ex, Q.t_bd, Q.s_nx, Q.s_rt, Q.s_bk, Q.s_ct, Q.s_ex, Q.s_bd, Q.p_sm, Q.p_no, Q.r_sh, Q.r_l, Q.r_t, Q.r_d, Q.w_sh, Q.w_fr, Q.w_br, Q.d_sh, Q.d_fr, Q.d_br, Q.a_sh, Q.a_ow, Q.a_io, Q.a_lk, Q.m_ow, Q.m_io, Q.m_sh, Q.h_sh, Q.h_fr, Q.h_br, Q.c_sh, Q.c_fr, Q.c_br, Q.v_sh, Q.v_fr, Q.e_val, Q.e_tst, Q.e_io, Q.e_md, Q.kC', Q.kV', Q.kU', Q.kB', Q.kP0, Q.kP1, Q.kS', Q.kT', Q.kCh', Q.bl_s, Q.kVa, Q.kN', Q.kI', Q.kIT, Q.kAV, Q.kAT, Q.kSh, Q.kNl, Q.kCo, Q.kVw', Q.kSt, Q.kTu, Q.kLs, Q.kBi', Q.dr_n, Q.dr_c, Q.kMm', Q.kMt, Q.kMf, Q.kCa, Q.kCk, Q.cs, Q.av_n, Q.av_s, Q.av_i, Q.ai_n, Q.ai_s, Q.ai_i, Q.io_s, Q.io_i, Q.st_n, Q.st_c, Q.mu_l, Q.mu_d, Q.mu_o, Q.sa, Q.fa, Q.f_no, Q.f_sh, Q.f_ow, Q.bv, Q.ag_n, Q.ag_t, Q.an, Q.at_, Q.as_n, Q.as_c, Q.pv, Q.rt_s, Q.rt_f, Q.rt_b, Q.kIv, Q.kYs, Q.os_n, Q.os_t, Q.os_f, Q.is_t, Q.is_f, Q.is_n, Q.rs, Q.so, Q.l_int, Q.le_int, Q.g_int, Q.ge_int, Q.eq_d, Q.ne_d, Q.is_non, Q.bo', Q.tr_b, Q.tr_i, Q.tr_l, Q.ad_i, Q.sb_i, Q.ml_i, Q.fd_i, Q.md_i, Q.pw_i, Q.ad_l, Q.su_l, Q.su_t, Q.bi1', Q.i_i, Q.i_b, Q.ab_i, Q.le_l, Q.le_t, Q.li_l, Q.tu_l, Q.ng_i, Q.sx_l, Q.bm_s, exb, exs, evc, evl, evi, List.getElem?_cons_zero, List.getElem?_cons_succ, List.getElem?_nil, List.set_cons_zero, List.set_cons_succ, List.length_cons, List.length_nil, Option.bind_some, Option.bind_none, Option.map_some, Option.map_none, List.map_cons, List.map_nil, List.replicate_zero, List.replicate_succ, List.append_nil, List.cons_append, List.nil_append, Bool.not_true, Bool.not_false, Bool.false_eq_true, if_true, if_false, ite_true, ite_false, Option.isSome_some, Option.isSome_none, Bool.and_true, Bool.true_and, Bool.and_false, Bool.false_and, Bool.or_true, Bool.true_or, Bool.or_false, Bool.false_or, Nat.reduceAdd, Nat.reduceSub, Nat.sub_self, Nat.add_zero, Nat.zero_add, Nat.reduceLT, Nat.reduceLeDiff, reduceCtorEq, List.nodup_nil, List.nodup_cons, List.not_mem_nil, not_false_eq_true, and_self, and_true, true_and, decide_true, decide_false, List.tail_cons, List.headD_cons, CE.isNoe, CL.len, Bool.true_eq_false, Int.reduceLT, Int.reduceLE, Int.reduceToNat, reduceIte, h8, h9, h10, h11, i0, i1]; rfl
      | _ => exact hm.elim
    | int a =>
      by_cases e : a ≤ i
      · have e' : (a ≤ i) = True := eq_true e
        cases m with
        | non => unfold wi; simp only [Q.b_ok, Q.b_ex, Q.b_bd, Q.t_ok, Q.t_ex, Q.t_bd, Q.s_nx, Q.s_rt, Q.s_bk, Q.s_ct, Q.s_ex, Q.s_bd, Q.p_sm, Q.p_no, Q.r_sh, Q.r_l, Q.r_t, Q.r_d, Q.w_sh, Q.w_fr, Q.w_br, Q.d_sh, Q.d_fr, Q.d_br, Q.a_sh, Q.a_ow, Q.a_io, Q.a_lk, Q.m_ow, Q.m_io, Q.m_sh, Q.h_sh, Q.h_fr, Q.h_br, Q.c_sh, Q.c_fr, Q.c_br, Q.v_sh, Q.v_fr, Q.e_val, Q.e_tst, Q.e_io, Q.e_md, Q.kC', Q.kV', Q.kU', Q.kB', Q.kP0, Q.kP1, Q.kS', Q.kT', Q.kCh', Q.bl_s, Q.kVa, Q.kN', Q.kI', Q.kIT, Q.kAV, Q.kAT, Q.kSh, Q.kNl, Q.kCo, Q.kVw', Q.kSt, Q.kTu, Q.kLs, Q.kBi', Q.dr_n, Q.dr_c, Q.kMm', Q.kMt, Q.kMf, Q.kCa, Q.kCk, Q.cs, Q.av_n, Q.av_s, Q.av_i, Q.ai_n, Q.ai_s, Q.ai_i, Q.io_s, Q.io_i, Q.st_n, Q.st_c, Q.mu_l, Q.mu_d, Q.mu_o, Q.sa, Q.fa, Q.f_no, Q.f_sh, Q.f_ow, Q.bv, Q.ag_n, Q.ag_t, Q.an, Q.at_, Q.as_n, Q.as_c, Q.pv, Q.rt_s, Q.rt_f, Q.rt_b, Q.kIv, Q.kYs, Q.os_n, Q.os_t, Q.os_f, Q.is_t, Q.is_f, Q.is_n, Q.rs, Q.so, Q.l_int, Q.le_int, Q.g_int, Q.ge_int, Q.eq_d, Q.ne_d, Q.is_non, Q.bo', Q.tr_b, Q.tr_i, Q.tr_l, Q.ad_i, Q.sb_i, Q.ml_i, Q.fd_i, Q.md_i, Q.pw_i, Q.ad_l, Q.su_l, Q.su_t, Q.bi1', Q.i_i, Q.i_b, Q.ab_i, Q.le_l, Q.le_t, Q.li_l, Q.tu_l, Q.ng_i, Q.sx_l, Q.bm_s, exb, exs, evc, evl, evi, List.getElem?_cons_zero, List.getElem?_cons_succ, List.getElem?_nil, List.set_cons_zero, List.set_cons_succ, List.length_cons, List.length_nil, Option.bind_some, Option.bind_none, Option.map_some, Option.map_none, List.map_cons, List.map_nil, List.replicate_zero, List.replicate_succ, List.append_nil, List.cons_append, List.nil_append, Bool.not_true, Bool.not_false, Bool.false_eq_true, if_true, if_false, ite_true, ite_false, Option.isSome_some, Option.isSome_none, Bool.and_true, Bool.true_and, Bool.and_false, Bool.false_and, Bool.or_true, Bool.true_or, Bool.or_false, Bool.false_or, Nat.reduceAdd, Nat.reduceSub, Nat.sub_self, Nat.add_zero, Nat.zero_add, Nat.reduceLT, Nat.reduceLeDiff, reduceCtorEq, List.nodup_nil, List.nodup_cons, List.not_mem_nil, not_false_eq_true, and_self, and_true, true_and, decide_true, decide_false, List.tail_cons, List.headD_cons, CE.isNoe, CL.len, Bool.true_eq_false, Int.reduceLT, Int.reduceLE, Int.reduceToNat, reduceIte, h8, h9, h10, h11, i0, i1, e']
        | int b => unfold wi; simp only [Q.b_ok, Q.b_ex, Q.b_bd, Q.t_ok, Q.t_ex, Q.t_bd, Q.s_nx, Q.s_rt, Q.s_bk, Q.s_ct, Q.s_ex, Q.s_bd, Q.p_sm, Q.p_no, Q.r_sh, Q.r_l, Q.r_t, Q.r_d, Q.w_sh, Q.w_fr, Q.w_br, Q.d_sh, Q.d_fr, Q.d_br, Q.a_sh, Q.a_ow, Q.a_io, Q.a_lk, Q.m_ow, Q.m_io, Q.m_sh, Q.h_sh, Q.h_fr, Q.h_br, Q.c_sh, Q.c_fr, Q.c_br, Q.v_sh, Q.v_fr, Q.e_val, Q.e_tst, Q.e_io, Q.e_md, Q.kC', Q.kV', Q.kU', Q.kB', Q.kP0, Q.kP1, Q.kS', Q.kT', Q.kCh', Q.bl_s, Q.kVa, Q.kN', Q.kI', Q.kIT, Q.kAV, Q.kAT, Q.kSh, Q.kNl, Q.kCo, Q.kVw', Q.kSt, Q.kTu, Q.kLs, Q.kBi', Q.dr_n, Q.dr_c, Q.kMm', Q.kMt, Q.kMf, Q.kCa, Q.kCk, Q.cs, Q.av_n, Q.av_s, Q.av_i, Q.ai_n, Q.ai_s, Q.ai_i, Q.io_s, Q.io_i, Q.st_n, Q.st_c, Q.mu_l, Q.mu_d, Q.mu_o, Q.sa, Q.fa, Q.f_no, Q.f_sh, Q.f_ow, Q.bv, Q.ag_n, Q.ag_t, Q.an, Q.at_, Q.as_n, Q.as_c, Q.pv, Q.rt_s, Q.rt_f, Q.rt_b, Q.kIv, Q.kYs, Q.os_n, Q.os_t, Q.os_f, Q.is_t, Q.is_f, Q.is_n, Q.rs, Q.so, Q.l_int, Q.le_int, Q.g_int, Q.ge_int, Q.eq_d, Q.ne_d, Q.is_non, Q.bo', Q.tr_b, Q.tr_i, Q.tr_l, Q.ad_i, Q.sb_i, Q.ml_i, Q.fd_i, Q.md_i, Q.pw_i, Q.ad_l, Q.su_l, Q.su_t, Q.bi1', Q.i_i, Q.i_b, Q.ab_i, Q.le_l, Q.le_t, Q.li_l, Q.tu_l, Q.ng_i, Q.sx_l, Q.bm_s, exb, exs, evc, evl, evi, List.getElem?_cons_zero, List.getElem?_cons_succ, List.getElem?_nil, List.set_cons_zero, List.set_cons_succ, List.length_cons, List.length_nil, Option.bind_some, Option.bind_none, Option.map_some, Option.map_none, List.map_cons, List.map_nil, List.replicate_zero, List.replicate_succ, List.append_nil, List.cons_append, List.nil_append, Bool.not_true, Bool.not_false, Bool.false_eq_true, if_true, if_false, ite_true, ite_false, Option.isSome_some, Option.isSome_none, Bool.and_true, Bool.true_and, Bool.and_false, Bool.false_and, Bool.or_true, Bool.true_or, Bool.or_false, Bool.false_or, Nat.reduceAdd, Nat.reduceSub, Nat.sub_self, Nat.add_zero, Nat.zero_add, Nat.reduceLT, Nat.reduceLeDiff, reduceCtorEq, List.nodup_nil, List.nodup_cons, List.not_mem_nil, not_false_eq_true, and_self, and_true, true_and, decide_true, decide_false, List.tail_cons, List.headD_cons, CE.isNoe, CL.len, Bool.true_eq_false, Int.reduceLT, Int.reduceLE, Int.reduceToNat, reduceIte, h8, h9, h10, h11, i0, i1, e']
        | _ => exact hm.elim
      · have e' : (a ≤ i) = False := eq_false e
        cases m with
        | non => unfold wi; simp only [Q.b_ok, Q.b_ex, Q.b_bd, Q.t_ok, Q.t_ex, Q.t_bd, Q.s_nx, Q.s_rt, Q.s_bk, Q.s_ct, Q.s_ex, Q.s_bd, Q.p_sm, Q.p_no, Q.r_sh, Q.r_l, Q.r_t, Q.r_d, Q.w_sh, Q.w_fr, Q.w_br, Q.d_sh, Q.d_fr, Q.d_br, Q.a_sh, Q.a_ow, Q.a_io, Q.a_lk, Q.m_ow, Q.m_io, Q.m_sh, Q.h_sh, Q.h_fr, Q.h_br, Q.c_sh, Q.c_fr, Q.c_br, Q.v_sh, Q.v_fr, Q.e_val, Q.e_tst, Q.e_io, Q.e_md, Q.kC', Q.kV', Q.kU', Q.kB', Q.kP0, Q.kP1, Q.kS', Q.kT', Q.kCh', Q.bl_s, Q.kVa, Q.kN', Q.kI', Q.kIT, Q.kAV, Q.kAT, Q.kSh, Q.kNl, Q.kCo, Q.kVw', Q.kSt, Q.kTu, Q.kLs, Q.kBi', Q.dr_n, Q.dr_c, Q.kMm', Q.kMt, Q.kMf, Q.kCa, Q.kCk, Q.cs, Q.av_n, Q.av_s, Q.av_i, Q.ai_n, Q.ai_s, Q.ai_i, Q.io_s, Q.io_i, Q.st_n, Q.st_c, Q.mu_l, Q.mu_d, Q.mu_o, Q.sa, Q.fa, Q.f_no, Q.f_sh, Q.f_ow, Q.bv, Q.ag_n, Q.ag_t, Q.an, Q.at_, Q.as_n, Q.as_c, Q.pv, Q.rt_s, Q.rt_f, Q.rt_b, Q.kIv, Q.kYs, Q.os_n, Q.os_t, Q.os_f, Q.is_t, Q.is_f, Q.is_n, Q.rs, Q.so, Q.l_int, Q.le_int, Q.g_int, Q.ge_int, Q.eq_d, Q.ne_d, Q.is_non, Q.bo', Q.tr_b, Q.tr_i, Q.tr_l, Q.ad_i, Q.sb_i, Q.ml_i, Q.fd_i, Q.md_i, Q.pw_i, Q.ad_l, Q.su_l, Q.su_t, Q.bi1', Q.i_i, Q.i_b, Q.ab_i, Q.le_l, Q.le_t, Q.li_l, Q.tu_l, Q.ng_i, Q.sx_l, Q.bm_s, exb, exs, evc, evl, evi, List.getElem?_cons_zero, List.getElem?_cons_succ, List.getElem?_nil, List.set_cons_zero, List.set_cons_succ, List.length_cons, List.length_nil, Option.bind_some, Option.bind_none, Option.map_some, Option.map_none, List.map_cons, List.map_nil, List.replicate_zero, List.replicate_succ, List.append_nil, List.cons_append, List.nil_append, Bool.not_true, Bool.not_false, Bool.false_eq_true, if_true, if_false, ite_true, ite_false, Option.isSome_some, Option.isSome_none, Bool.and_true, Bool.true_and, Bool.and_false, Bool.false_and, Bool.or_true, Bool.true_or, Bool.or_false, Bool.false_or, Nat.reduceAdd, Nat.reduceSub, Nat.sub_self, Nat.add_zero, Nat.zero_add, Nat.reduceLT, Nat.reduceLeDiff, reduceCtorEq, List.nodup_nil, List.nodup_cons, List.not_mem_nil, not_false_eq_true, and_self, and_true, true_and, decide_true, decide_false, List.tail_cons, List.headD_cons, CE.isNoe, CL.len, Bool.true_eq_false, Int.reduceLT, Int.reduceLE, Int.reduceToNat, reduceIte, h8, h9, h10, h11, i0, i1, e']
        | int b => unfold wi; simp only [Q.b_ok, Q.b_ex, Q.b_bd, Q.t_ok, Q.t_ex, Q.t_bd, Q.s_nx, Q.s_rt, Q.s_bk, Q.s_ct, Q.s_ex, Q.s_bd, Q.p_sm, Q.p_no, Q.r_sh, Q.r_l, Q.r_t, Q.r_d, Q.w_sh, Q.w_fr, Q.w_br, Q.d_sh, Q.d_fr, Q.d_br, Q.a_sh, Q.a_ow, Q.a_io, Q.a_lk, Q.m_ow, Q.m_io, Q.m_sh, Q.h_sh, Q.h_fr, Q.h_br, Q.c_sh, Q.c_fr, Q.c_br, Q.v_sh, Q.v_fr, Q.e_val, Q.e_tst, Q.e_io, Q.e_md, Q.kC', Q.kV', Q.kU', Q.kB', Q.kP0, Q.kP1, Q.kS', Q.kT', Q.kCh', Q.bl_s, Q.kVa, Q.kN', Q.kI', Q.kIT, Q.kAV, Q.kAT, Q.kSh, Q.kNl, Q.kCo, Q.kVw', Q.kSt, Q.kTu, Q.kLs, Q.kBi', Q.dr_n, Q.dr_c, Q.kMm', Q.kMt, Q.kMf, Q.kCa, Q.kCk, Q.cs, Q.av_n, Q.av_s, Q.av_i, Q.ai_n, Q.ai_s, Q.ai_i, Q.io_s, Q.io_i, Q.st_n, Q.st_c, Q.mu_l, Q.mu_d, Q.mu_o, Q.sa, Q.fa, Q.f_no, Q.f_sh, Q.f_ow, Q.bv, Q.ag_n, Q.ag_t, Q.an, Q.at_, Q.as_n, Q.as_c, Q.pv, Q.rt_s, Q.rt_f, Q.rt_b, Q.kIv, Q.kYs, Q.os_n, Q.os_t, Q.os_f, Q.is_t, Q.is_f, Q.is_n, Q.rs, Q.so, Q.l_int, Q.le_int, Q.g_int, Q.ge_int, Q.eq_d, Q.ne_d, Q.is_non, Q.bo', Q.tr_b, Q.tr_i, Q.tr_l, Q.ad_i, Q.sb_i, Q.ml_i, Q.fd_i, Q.md_i, Q.pw_i, Q.ad_l, Q.su_l, Q.su_t, Q.bi1', Q.i_i, Q.i_b, Q.ab_i, Q.le_l, Q.le_t, Q.li_l, Q.tu_l, Q.ng_i, Q.sx_l, Q.bm_s, exb, exs, evc, evl, evi, List.getElem?_cons_zero, List.getElem?_cons_succ, List.getElem?_nil, List.set_cons_zero, List.set_cons_succ, List.length_cons, List.length_nil, Option.bind_some, Option.bind_none, Option.map_some, Option.map_none, List.map_cons, List.map_nil, List.replicate_zero, List.replicate_succ, List.append_nil, List.cons_append, List.nil_append, Bool.not_true, Bool.not_false, Bool.false_eq_true, if_true, if_false, ite_true, ite_false, Option.isSome_some, Option.isSome_none, Bool.and_true, Bool.true_and, Bool.and_false, Bool.false_and, Bool.or_true, Bool.true_or, Bool.or_false, Bool.false_or, Nat.reduceAdd, Nat.reduceSub, Nat.sub_self, Nat.add_zero, Nat.zero_add, Nat.reduceLT, Nat.reduceLeDiff, reduceCtorEq, List.nodup_nil, List.nodup_cons, List.not_mem_nil, not_false_eq_true, and_self, and_true, true_and, decide_true, decide_false, List.tail_cons, List.headD_cons, CE.isNoe, CL.len, Bool.true_eq_false, Int.reduceLT, Int.reduceLE, Int.reduceToNat, reduceIte, h8, h9, h10, h11, i0, i1, e']
        | _ => exact hm.elim
    | _ => exact hl.elim
  · have : wi v l m = false := by
      cases v <;> first | rfl | cases hv
    rw [this]
    simp only [Q.b_ok, Q.b_ex, Q.b_bd, Q.t_ok, Q.t_ex, Q.t_bd, Q.s_nx, Q.s_rt, Q.s_bk, Q.s_ct, Q.s_ex, Q.s_bd, Q.p_sm, Q.p_no, Q.r_sh, Q.r_l, Q.r_t, Q.r_d, Q.w_sh, Q.w_fr, Q.w_br, Q.d_sh, Q.d_fr, Q.d_br, Q.a_sh, Q.a_ow, Q.a_io, Q.a_lk, Q.m_ow, Q.m_io, Q.m_sh, Q.h_sh, Q.h_fr, Q.h_br, Q.c_sh, Q.c_fr, Q.c_br, Q.v_sh, Q.v_fr, Q.e_val, Q.e_tst, Q.e_io, Q.e_md, Q.kC', Q.kV', Q.kU', Q.kB', Q.kP0, Q.kP1, Q.kS', Q.kT', Q.kCh', Q.bl_s, Q.kVa, Q.kN', Q.kI', Q.kIT, Q.kAV, Q.kAT, Q.kSh, Q.kNl, Q.kCo, Q.kVw', Q.kSt, Q.kTu, Q.kLs, Q.kBi', Q.dr_n, Q.dr_c, Q.kMm', Q.kMt, Q.kMf, Q.kCa, Q.kCk, Q.cs, Q.av_n, Q.av_s, Q.av_i, Q.ai_n, Q.ai_s, Q.ai_i, Q.io_s, Q.io_i, Q.st_n, Q.st_c, Q.mu_l, Q.mu_d, Q.mu_o, Q.sa, Q.fa, Q.f_no, Q.f_sh, Q.f_ow, Q.bv, Q.ag_n, Q.ag_t, Q.an, Q.at_, Q.as_n, Q.as_c, Q.pv, Q.rt_s, Q.rt_f, Q.rt_b, Q.kIv, Q.kYs, Q.os_n, Q.os_t, Q.os_f, Q.is_t, Q.is_f, Q.is_n, Q.rs, Q.so, Q.l_int, Q.le_int, Q.g_int, Q.ge_int, Q.eq_d, Q.ne_d, Q.is_non, Q.bo', Q.tr_b, Q.tr_i, Q.tr_l, Q.ad_i, Q.sb_i, Q.ml_i, Q.fd_i, Q.md_i, Q.pw_i, Q.ad_l, Q.su_l, Q.su_t, Q.bi1', Q.i_i, Q.i_b, Q.ab_i, Q.le_l, Q.le_t, Q.li_l, Q.tu_l, Q.ng_i, Q.sx_l, Q.bm_s, exb, exs, evc, evl, evi, List.getElem?_cons_zero, List.getElem?_cons_succ, List.getElem?_nil, List.set_cons_zero, List.set_cons_succ, List.length_cons, List.length_nil, Option.bind_some, Option.bind_none, Option.map_some, Option.map_none, List.map_cons, List.map_nil, List.replicate_zero, List.replicate_succ, List.append_nil, List.cons_append, List.nil_append, Bool.not_true, Bool.not_false, Bool.false_eq_true, if_true, if_false, ite_true, ite_false, Option.isSome_some, Option.isSome_none, Bool.and_true, Bool.true_and, Bool.and_false, Bool.false_and, Bool.or_true, Bool.true_or, Bool.or_false, Bool.false_or, Nat.reduceAdd, Nat.reduceSub, Nat.sub_self, Nat.add_zero, Nat.zero_add, Nat.reduceLT, Nat.reduceLeDiff, reduceCtorEq, List.nodup_nil, List.nodup_cons, List.not_mem_nil, not_false_eq_true, and_self, and_true, true_and, decide_true, decide_false, List.tail_cons, List.headD_cons, CE.isNoe, CL.len, Bool.true_eq_false, Int.reduceLT, Int.reduceLE, Int.reduceToNat, reduceIte, h9]
theorem rep2 (w : Bool) : ∃ p, bi1 .repr (.lst [.bl w, .bl w]) = some (.sh (.str p)) ∧ eqD (.str p) (.str p) = some true := by
  cases w
  · exact ⟨_, rfl, by decide +kernel⟩
  · exact ⟨_, rfl, by decide +kernel⟩
theorem repT : bi1 .repr (.lst [.bl true, .bl true]) = some (.sh (.str "[True, True]")) := by
  have e : (PyData.list [.bool true, .bool true]).shown = Str.ofString "[True, True]" := by decide +kernel
  show (if PyData.showable (.list [.bool true, .bool true]) && decide ((PyData.list [.bool true, .bool true]).shown.length ≤ sizeLine) && decide ((PyData.list [.bool true, .bool true]).depth ≤ 60) then some (RO.sh (.str (PyData.list [.bool true, .bool true]).shown)) else none) = _
  rw [e]
  rfl
theorem eqT : eqD (.str "[True, True]") (.str "[True, True]") = some true := by decide +kernel
theorem isnot_ff : cmpD .IsNot (.bl false) (.bl false) = some (.sh (.bl false)) := rfl
theorem kw1 {v : D} : kwG ["value"] ["value"] [] [v] = [v] := rfl
theorem kw3 {v l m : D} : kwG ["value", "least", "most"] ["most", "value", "least"] [] [m, v, l] = [v, l, m] := rfl

/-! ### the lot -/
abbrev eltG : CE := .bin .Add (.bin .Mult (.var 12) (.var 12)) (.call "_law_scoop" g__law_scoop (.cons (.var 1) (.cons (.int 2) .nil)))
theorem lot_loop {scr : D} {s2 s3 s4 s5 s6 s7 s8 s9 s10 s11 : SV} : ∀ (ms : List Int) (acc : List Int) (n : Nat) (d : D), TubOk n d → n + ms.length ≤ 3900 → acc.length + ms.length ≤ 3900 → (∀ i ∈ ms, 1 ≤ i ∧ i < 2 ^ 20) → (∀ i ∈ acc, 1 ≤ i ∧ i < 2 ^ 42) →
    ∃ (zs : List Int) (d' : D), loopC (turnC (evc eltG).val (.nm 12) ((evl .nil).tn true) [12]) (ms.map D.int) (acc.map D.int) [.sh scr, .ow d, s2, s3, s4, s5, s6, s7, s8, s9, s10, s11, .no, .no] = .ok (zs.map D.int) [.sh scr, .ow d', s2, s3, s4, s5, s6, s7, s8, s9, s10, s11, .no, .no] ∧ zs.length = acc.length + ms.length ∧ (∀ z ∈ zs, 1 ≤ z ∧ z < 2 ^ 42) ∧ TubOk (n + ms.length) d' := by
  intro ms
  induction ms with
  | nil =>
    intro acc n d tok _ _ _ ha
    exact ⟨acc, d, rfl, rfl, ha, tok⟩
  | cons i ms ih =>
    intro acc n d tok hn hl hm ha
    have hn' : n + (ms.length + 1) ≤ 3900 := hn
    have hl' : acc.length + (ms.length + 1) ≤ 3900 := hl
    obtain ⟨v, d1, h1, v0, v1, t1⟩ := draws.2 n d 2 tok (by omega) (by decide) (by decide)
    have hi := hm i (by simp)
    have hs : smallB i = true := small_of (by omega) (by omega)
    have hii : 1 ≤ i * i := by
      have := Int.mul_le_mul hi.1 hi.1 (by omega) (by omega)
      omega
    have hij : i * i ≤ 2 ^ 20 * 2 ^ 20 := Int.mul_le_mul (by omega) (by omega) (by omega) (by omega)
    obtain ⟨zs, d2, h2, l2, z2, t2⟩ := ih (acc ++ [i * i + v]) (n + 1) d1 t1 (by omega) (by simp; omega) (fun j hj => hm j (by simp [hj])) (fun z hz => by
      rcases List.mem_append.mp hz with hz | hz
      · exact ha z hz
      · rw [List.mem_singleton.mp hz]; omega)
    refine ⟨zs, d2, ?_, by rw [l2]; simp; omega, z2, (show n + (ms.length + 1) = n + 1 + ms.length by omega) ▸ t2⟩
    have ht : turnC (evc eltG).val (.nm 12) ((evl .nil).tn true) [12] (.int i) [.sh scr, .ow d, s2, s3, s4, s5, s6, s7, s8, s9, s10, s11, .no, .no] = .ok (some (.int (i * i + v))) [.sh scr, .ow d1, s2, s3, s4, s5, s6, s7, s8, s9, s10, s11, .no, .no] := by
      have m1 : g__law_scoop.md = [true, false] := rfl
      have u1 := t1.mu
      unfold turnC
      simp only [Q.b_ok, Q.b_ex, Q.b_bd, Q.t_ok, Q.t_ex, Q.t_bd, Q.s_nx, Q.s_rt, Q.s_bk, Q.s_ct, Q.s_ex, Q.s_bd, Q.p_sm, Q.p_no, Q.r_sh, Q.r_l, Q.r_t, Q.r_d, Q.w_sh, Q.w_fr, Q.w_br, Q.d_sh, Q.d_fr, Q.d_br, Q.a_sh, Q.a_ow, Q.a_io, Q.a_lk, Q.m_ow, Q.m_io, Q.m_sh, Q.h_sh, Q.h_fr, Q.h_br, Q.c_sh, Q.c_fr, Q.c_br, Q.v_sh, Q.v_fr, Q.e_val, Q.e_tst, Q.e_io, Q.e_md, Q.kC', Q.kV', Q.kU', Q.kB', Q.kP0, Q.kP1, Q.kS', Q.kT', Q.kCh', Q.bl_s, Q.kVa, Q.kN', Q.kI', Q.kIT, Q.kAV, Q.kAT, Q.kSh, Q.kNl, Q.kCo, Q.kVw', Q.kSt, Q.kTu, Q.kLs, Q.kBi', Q.dr_n, Q.dr_c, Q.kMm', Q.kMt, Q.kMf, Q.kCa, Q.kCk, Q.cs, Q.av_n, Q.av_s, Q.av_i, Q.ai_n, Q.ai_s, Q.ai_i, Q.io_s, Q.io_i, Q.st_n, Q.st_c, Q.mu_l, Q.mu_d, Q.mu_o, Q.sa, Q.fa, Q.f_no, Q.f_sh, Q.f_ow, Q.bv, Q.ag_n, Q.ag_t, Q.an, Q.at_, Q.as_n, Q.as_c, Q.pv, Q.rt_s, Q.rt_f, Q.rt_b, Q.kIv, Q.kYs, Q.os_n, Q.os_t, Q.os_f, Q.is_t, Q.is_f, Q.is_n, Q.rs, Q.so, Q.l_int, Q.le_int, Q.g_int, Q.ge_int, Q.eq_d, Q.ne_d, Q.is_non, Q.bo', Q.tr_b, Q.tr_i, Q.tr_l, Q.ad_i, Q.sb_i, Q.ml_i, Q.fd_i, Q.md_i, Q.pw_i, Q.ad_l, Q.su_l, Q.su_t, Q.bi1', Q.i_i, Q.i_b, Q.ab_i, Q.le_l, Q.le_t, Q.li_l, Q.tu_l, Q.ng_i, Q.sx_l, Q.bm_s, exb, exs, evc, evl, evi, List.getElem?_cons_zero, List.getElem?_cons_succ, List.getElem?_nil, List.set_cons_zero, List.set_cons_succ, List.length_cons, List.length_nil, Option.bind_some, Option.bind_none, Option.map_some, Option.map_none, List.map_cons, List.map_nil, List.replicate_zero, List.replicate_succ, List.append_nil, List.cons_append, List.nil_append, Bool.not_true, Bool.not_false, Bool.false_eq_true, if_true, if_false, ite_true, ite_false, Option.isSome_some, Option.isSome_none, Bool.and_true, Bool.true_and, Bool.and_false, Bool.false_and, Bool.or_true, Bool.true_or, Bool.or_false, Bool.false_or, Nat.reduceAdd, Nat.reduceSub, Nat.sub_self, Nat.add_zero, Nat.zero_add, Nat.reduceLT, Nat.reduceLeDiff, reduceCtorEq, List.nodup_nil, List.nodup_cons, List.not_mem_nil, not_false_eq_true, and_self, and_true, true_and, decide_true, decide_false, List.tail_cons, List.headD_cons, CE.isNoe, CL.len, Bool.true_eq_false, Int.reduceLT, Int.reduceLE, Int.reduceToNat, reduceIte, wipeS, backS, Option.getD_some, h1, m1, u1, hs]
    rw [List.map_cons, loopC, ht]
    simp only [Q.b_ok]
    rw [if_pos (sizeLine_big (by rw [List.length_map]; omega))]
    rw [List.map_append] at h2
    exact h2
/-- the values that are no lots -/
def bent (ls : List Int) : List D := [.lst (ls.map D.int ++ [.int 0]), .lst ([.int (-1)] ++ ls.map D.int), .lst (if ls.isEmpty then [.int 2, .int 2] else ls.map D.int ++ cutD (ls.map D.int) none (some 1)), .lst (ls.map D.int ++ [.bl true]), .lst (ls.map (fun i => D.str (toString i)) ++ [.str "1"]), .lst (ls.map (fun i => D.lst [.int i]) ++ [.lst []]),
  .non, .int 5, .str "123", .dic [.int 1] [.int 1], .lst [.lst (ls.map D.int)], .lst (ls.map D.int ++ [.non]), .tup [.tup (ls.map D.int)], .lst (ls.map (fun i => D.int (-i)) ++ [.int (-7)])]
theorem no_of (xs : List D) (x : D) (hx : ∀ y ∈ xs, isT y .int ≠ none) (hl : xs.length ≤ 4000) (hm : x ∈ xs) (hw : w1 x = false) : g_is_lot.m [.lst xs] = .ok false (.bl false) [] := by
  refine lot_no false xs hx hl ?_
  cases e : xs.all w1 with
  | false => rfl
  | true => rw [List.all_eq_true.mp e x hm] at hw; cases hw
theorem it_int {ls : List Int} {f : Int → D} {ys : List D} (hf : ∀ i, isT (f i) .int ≠ none) (hy : ∀ y ∈ ys, isT y .int ≠ none) : ∀ y ∈ ls.map f ++ ys, isT y .int ≠ none := fun y h => by
  rcases List.mem_append.mp h with h | h
  · obtain ⟨i, _, rfl⟩ := List.mem_map.mp h; exact hf i
  · exact hy y h
theorem bent_no (ls : List Int) (h1 : ∀ i ∈ ls, 1 ≤ i) (hl : ls.length ≤ 45) : ∀ x ∈ bent ls, g_is_lot.m [x] = .ok false (.bl false) [] := by
  intro x hx
  have ti : ∀ i : Int, isT (.int i) .int ≠ none := fun i z => nomatch z
  have one : ∀ z : D, isT z .int ≠ none → ∀ y ∈ [z], isT y .int ≠ none := fun z hz y hy => by rw [List.mem_singleton.mp hy]; exact hz
  simp only [bent, List.mem_cons, List.not_mem_nil, or_false] at hx
  rcases hx with rfl | rfl | rfl | rfl | rfl | rfl | rfl | rfl | rfl | rfl | rfl | rfl | rfl | rfl
  · exact no_of _ (.int 0) (it_int ti (one _ (ti 0))) (by simp; omega) (by simp) rfl
  · refine no_of _ (.int (-1)) (fun y hy => ?_) (by simp; omega) (by simp) rfl
    rcases List.mem_append.mp hy with hy | hy
    · exact one _ (ti (-1)) y hy
    · obtain ⟨i, _, rfl⟩ := List.mem_map.mp hy; exact ti i
  · cases ls with
    | nil =>
      have := lot_ints false [2, 2] (by decide) (by decide)
      exact this
    | cons a as =>
      have ec : cutD ((a :: as).map D.int) none (some 1) = [.int a] := by
        rw [List.map_cons]
        show (((D.int a :: as.map D.int).drop 0).take (HT.sIx _ _ (some 1) - 0)) = _
        rfl
      have := lot_ints false ((a :: as) ++ [a]) (fun n hn => by
        rcases List.mem_append.mp hn with hn | hn
        · exact h1 n hn
        · rw [List.mem_singleton.mp hn]; exact h1 a (by simp)) (by simp at hl ⊢; omega)
      have hd := dedup_snoc (ns := a :: as) (x := a) (by simp)
      have e : (((dedupI ((a :: as) ++ [a])).length : Int) == (((a :: as) ++ [a]).length : Int)) = false := by
        rw [beq_eq_false_iff_ne]
        intro z
        have : (((a :: as) ++ [a]).length) = (a :: as).length + 1 := by simp
        omega
      rw [e] at this
      show g_is_lot.m [.lst ((a :: as).map D.int ++ cutD ((a :: as).map D.int) none (some 1))] = _
      rw [ec]
      rw [List.map_append] at this
      exact this
  · exact no_of _ (.bl true) (it_int ti (one _ (fun z => nomatch z))) (by simp; omega) (by simp) rfl
  · exact no_of _ (.str "1") (it_int (fun i z => nomatch z) (one _ (fun z => nomatch z))) (by simp; omega) (by simp) rfl
  · exact no_of _ (.lst []) (it_int (fun i z => nomatch z) (one _ (fun z => nomatch z))) (by simp; omega) (by simp) rfl
  · exact lot_other _ rfl
  · exact lot_other _ rfl
  · exact lot_other _ rfl
  · exact lot_other _ rfl
  · exact no_of _ (.lst (ls.map D.int)) (one _ (fun z => nomatch z)) (by simp) (by simp) rfl
  · exact no_of _ .non (it_int ti (one _ (fun z => nomatch z))) (by simp; omega) (by simp) rfl
  · have := lot_no true [.tup (ls.map D.int)] (one _ (fun z => nomatch z)) (by simp) rfl
    exact this
  · exact no_of _ (.int (-7)) (it_int (fun i => ti (-i)) (one _ (ti (-7)))) (by simp; omega) (by simp) rfl
end LK02

namespace LK02
open PySem PySem.Spec Eng
open L2 (Key)
theorem odd_I {v : D} (h : v ∈ odd7) : isI v = false ∧ isT v .int ≠ none := by
  simp only [odd7, List.mem_cons, List.not_mem_nil, or_false] at h
  rcases h with rfl | rfl | rfl | rfl | rfl | rfl | rfl <;> exact ⟨rfl, fun z => nomatch z⟩
theorem lrg_eq {S : SS} {kk : Int} (h4 : S[4]? = some (.sh (.int kk))) (h0 : 0 ≤ kk) (h1 : kk < 64) : (evc (.lrg false (.rng2 (.int 1) (.bin .Add (.var 4) (.int 1))))).val S = .ok (.fr (.lst (rangeD 1 kk.toNat))) S := by
  have e1 : rngOk 1 (kk + 1) = true := by unfold rngOk; simp only [Bool.and_eq_true, decide_eq_true_eq]; omega
  have e2 : (kk + 1 - 1).toNat = kk.toNat := by omega
  have e3 : (kk.toNat ≤ 16777216) = True := eq_true (by omega)
  show kLrg false (kRng2 (evc (.int 1)).val (evc (.bin .Add (.var 4) (.int 1))).val) S = _
  unfold kLrg kRng2
  simp only [Q.b_ok, Q.b_ex, Q.b_bd, Q.t_ok, Q.t_ex, Q.t_bd, Q.s_nx, Q.s_rt, Q.s_bk, Q.s_ct, Q.s_ex, Q.s_bd, Q.p_sm, Q.p_no, Q.r_sh, Q.r_l, Q.r_t, Q.r_d, Q.w_sh, Q.w_fr, Q.w_br, Q.d_sh, Q.d_fr, Q.d_br, Q.a_sh, Q.a_ow, Q.a_io, Q.a_lk, Q.m_ow, Q.m_io, Q.m_sh, Q.h_sh, Q.h_fr, Q.h_br, Q.c_sh, Q.c_fr, Q.c_br, Q.v_sh, Q.v_fr, Q.e_val, Q.e_tst, Q.e_io, Q.e_md, Q.kC', Q.kV', Q.kU', Q.kB', Q.kP0, Q.kP1, Q.kS', Q.kT', Q.kCh', Q.bl_s, Q.kVa, Q.kN', Q.kI', Q.kIT, Q.kAV, Q.kAT, Q.kSh, Q.kNl, Q.kCo, Q.kVw', Q.kSt, Q.kTu, Q.kLs, Q.kBi', Q.dr_n, Q.dr_c, Q.kMm', Q.kMt, Q.kMf, Q.kCa, Q.kCk, Q.cs, Q.av_n, Q.av_s, Q.av_i, Q.ai_n, Q.ai_s, Q.ai_i, Q.io_s, Q.io_i, Q.st_n, Q.st_c, Q.mu_l, Q.mu_d, Q.mu_o, Q.sa, Q.fa, Q.f_no, Q.f_sh, Q.f_ow, Q.bv, Q.ag_n, Q.ag_t, Q.an, Q.at_, Q.as_n, Q.as_c, Q.pv, Q.rt_s, Q.rt_f, Q.rt_b, Q.kIv, Q.kYs, Q.os_n, Q.os_t, Q.os_f, Q.is_t, Q.is_f, Q.is_n, Q.rs, Q.so, Q.l_int, Q.le_int, Q.g_int, Q.ge_int, Q.eq_d, Q.ne_d, Q.is_non, Q.bo', Q.tr_b, Q.tr_i, Q.tr_l, Q.ad_i, Q.sb_i, Q.ml_i, Q.fd_i, Q.md_i, Q.pw_i, Q.ad_l, Q.su_l, Q.su_t, Q.bi1', Q.i_i, Q.i_b, Q.ab_i, Q.le_l, Q.le_t, Q.li_l, Q.tu_l, Q.ng_i, Q.sx_l, Q.bm_s, exb, exs, evc, evl, evi, List.getElem?_cons_zero, List.getElem?_cons_succ, List.getElem?_nil, List.set_cons_zero, List.set_cons_succ, List.length_cons, List.length_nil, Option.bind_some, Option.bind_none, Option.map_some, Option.map_none, List.map_cons, List.map_nil, List.replicate_zero, List.replicate_succ, List.append_nil, List.cons_append, List.nil_append, Bool.not_true, Bool.not_false, Bool.false_eq_true, if_true, if_false, ite_true, ite_false, Option.isSome_some, Option.isSome_none, Bool.and_true, Bool.true_and, Bool.and_false, Bool.false_and, Bool.or_true, Bool.true_or, Bool.or_false, Bool.false_or, Nat.reduceAdd, Nat.reduceSub, Nat.sub_self, Nat.add_zero, Nat.zero_add, Nat.reduceLT, Nat.reduceLeDiff, reduceCtorEq, List.nodup_nil, List.nodup_cons, List.not_mem_nil, not_false_eq_true, and_self, and_true, true_and, decide_true, decide_false, List.tail_cons, List.headD_cons, CE.isNoe, CL.len, Bool.true_eq_false, Int.reduceLT, Int.reduceLE, Int.reduceToNat, reduceIte, h4, e1, e2, e3, rangeD_length, rgLst]
theorem body_ok {scr d : D} {s2 s3 s4 s5 s6 s7 s8 s9 s10 s11 : SV} {n : Nat} (tok : TubOk n d) (hn : n ≤ 2500) (f3 : frO (some s3) = true) (f4 : frO (some s4) = true) (f5 : frO (some s5) = true) (f6 : frO (some s6) = true) (f7 : frO (some s7) = true)
    (f8 : frO (some s8) = true) (f9 : frO (some s9) = true) (f10 : frO (some s10) = true) (f11 : frO (some s11) = true) :
    ∃ (d' x3 x4 x5 x6 x7 x8 x9 x10 x11 : D), exb bodyB [.sh scr, .ow d, s2, s3, s4, s5, s6, s7, s8, s9, s10, s11, .no, .no] = .nx [.sh scr, .ow d', s2, .sh x3, .sh x4, .sh x5, .ow x6, .sh x7, .sh x8, .sh x9, .sh x10, .sh x11, .no, .no] ∧ TubOk (n + 100) d' := by
  obtain ⟨v, w, d1, hA, t1, hvw⟩ := any_ok n d tok (by omega)
  have hw : (w = true ∧ ∃ i, v = .int i) ∨ (w = false ∧ isI v = false) := hvw.imp id fun z => ⟨z.1, (odd_I z.2).1⟩
  have hT : isT v .int ≠ none := by
    rcases hvw with ⟨_, i, rfl⟩ | ⟨_, z⟩
    · exact fun z => nomatch z
    · exact (odd_I z).2
  have hIw : isI v = w := by
    rcases hw with ⟨rfl, i, rfl⟩ | ⟨rfl, z⟩
    · rfl
    · exact z
  obtain ⟨v2, d2, h2, _, _, t2⟩ := draws.2 (n + 4) d1 30 t1 (by omega) (by decide) (by decide)
  obtain ⟨i3, l, d3, g3, h3, t3⟩ := picks.2 (n + 5) d2 [.non, .int 0, .int (-1), .int v2] t2 (by omega) (by simp) (by simp)
  obtain ⟨v4, d4, h4, _, _, t4⟩ := draws.2 (n + 6) d3 30 t3 (by omega) (by decide) (by decide)
  obtain ⟨i5, m, d5, g5, h5, t5⟩ := picks.2 (n + 7) d4 [.non, .int 1, .int 200, .int v4] t4 (by omega) (by simp) (by simp)
  obtain ⟨v6, d6, h6, v60, v61, t6⟩ := draws.2 (n + 8) d5 40 t5 (by omega) (by decide) (by decide)
  obtain ⟨i7, k, d7, g7, h7, t7⟩ := picks.2 (n + 9) d6 [.int 3, .int 0, .int 1, .int 5, .int v6] t6 (by omega) (by simp) (by simp)
  have hl : bnd l := by
    have := List.mem_of_getElem? g3
    simp only [List.mem_cons, List.not_mem_nil, or_false] at this
    rcases this with rfl | rfl | rfl | rfl <;> trivial
  have hm : bnd m := by
    have := List.mem_of_getElem? g5
    simp only [List.mem_cons, List.not_mem_nil, or_false] at this
    rcases this with rfl | rfl | rfl | rfl <;> trivial
  obtain ⟨kk, rfl, k0, k1⟩ : ∃ kk, k = .int kk ∧ 0 ≤ kk ∧ kk < 40 := by
    have := List.mem_of_getElem? g7
    simp only [List.mem_cons, List.not_mem_nil, or_false] at this
    rcases this with rfl | rfl | rfl | rfl | rfl
    · exact ⟨3, rfl, by omega, by omega⟩
    · exact ⟨0, rfl, by omega, by omega⟩
    · exact ⟨1, rfl, by omega, by omega⟩
    · exact ⟨5, rfl, by omega, by omega⟩
    · exact ⟨v6, rfl, v60, v61⟩
  obtain ⟨ys, d8, p8, h8, t8⟩ := stirs.2 (n + 10) d7 (rangeD 1 kk.toNat) t7 (by rw [rangeD_length]; omega) (fun x hx => by
    obtain ⟨i, rfl, _⟩ := range_mem 1 _ x hx
    exact PD.int (by decide))
  rw [rangeD_length] at t8
  have hyl : ys.length = kk.toNat := by rw [p8.length_eq, rangeD_length]
  have hyi := ints_of ys (fun y hy => by
    obtain ⟨i, e, _⟩ := range_mem 1 _ y (p8.mem_iff.mp hy)
    exact ⟨i, e⟩)
  obtain ⟨ms, hms⟩ : ∃ ms, ms = ys.map toI := ⟨_, rfl⟩
  rw [← hms] at hyi
  have hml : ms.length = kk.toNat := by rw [hms, List.length_map, hyl]
  have hmb : ∀ i ∈ ms, 1 ≤ i ∧ i < 2 ^ 20 := fun i hi => by
    have : D.int i ∈ ys := by rw [hyi]; exact List.mem_map.mpr ⟨i, hi, rfl⟩
    obtain ⟨j, e, h1, h2⟩ := range_mem 1 _ _ (p8.mem_iff.mp this)
    cases e
    omega
  obtain ⟨due, hdue⟩ : ∃ due, due = wi v l m := ⟨_, rfl⟩
  obtain ⟨zs, d9, h9, l9, z9, t9⟩ := lot_loop (scr := scr) (s2 := s2) (s3 := .sh (.bl due)) (s4 := .sh (.int kk)) (s5 := s5) (s6 := s6) (s7 := s7) (s8 := .sh v) (s9 := .sh (.bl w)) (s10 := .sh l) (s11 := .sh m) ms [] (n + 10 + kk.toNat) d8 t8 (by omega) (by simp; omega) hmb (by simp)
  have hzl : zs.length = kk.toNat := by rw [l9, hml]; simp
  obtain ⟨ls, hls⟩ : ∃ ls, ls = dedupI zs := ⟨_, rfl⟩
  have hln := (dedup_nodup zs).1
  rw [← hls] at hln
  have hl2 : ∀ i ∈ ls, 1 ≤ i ∧ i < 2 ^ 42 := fun i hi => z9 i (((dedup_nodup zs).2 i).mp (hls ▸ hi))
  have hl1 : ∀ i ∈ ls, 1 ≤ i := fun i hi => (hl2 i hi).1
  have hll : ls.length ≤ 40 := by have := dedup_le zs; rw [← hls, hzl] at this; omega
  obtain ⟨i10, x, d10, g10, h10, t10⟩ := picks.2 (n + 10 + kk.toNat + ms.length) d9 (bent ls) t9 (by omega) (by simp [bent]) (by simp [bent])
  have hx := bent_no ls hl1 (by omega) x (List.mem_of_getElem? g10)
  have mA : g__law_any.md = [true] := rfl
  have m1 : g__law_scoop.md = [true, false] := rfl
  have m2 : g__law_pick.md = [true, false] := rfl
  have m3 : g__law_stirred.md = [true, false] := rfl
  have m4 : g_is_integer.md = [false] := rfl
  have m5 : g_is_within.md = [false, false, false] := rfl
  have m6 : g_is_lot.md = [false] := rfl
  have u1 := t1.mu
  have u2 := t2.mu
  have u3 := t3.mu
  have u4 := t4.mu
  have u5 := t5.mu
  have u6 := t6.mu
  have u7 := t7.mu
  have u8 := t8.mu
  have u9 := t9.mu
  have u10 := t10.mu
  have l5 : (5 ≤ sizeLine) = True := eq_true (by rw [sizeLine_eq]; decide)
  have l4 : (4 ≤ sizeLine) = True := eq_true (by rw [sizeLine_eq]; decide)
  have l2 : (2 ≤ sizeLine) = True := eq_true (by rw [sizeLine_eq]; decide)
  have l1 : (1 ≤ sizeLine) = True := eq_true (by rw [sizeLine_eq]; decide)
  have b1 : ((10 : Nat) != 11) = true := rfl
  refine ⟨d10, .bl due, .int kk, .lst (ls.map D.int), .lst (ls.map D.int), .lst (bent ls), v, .bl w, l, m, ?_, t10.mono (by omega)⟩
  -- value, whole
  refine (exb_nx (S1 := [.sh scr, .ow d1, s2, s3, s4, s5, s6, s7, .sh v, .sh (.bl w), s10, s11, .no, .no]) ?_).trans ?_
  · simp only [Q.b_ok, Q.b_ex, Q.b_bd, Q.t_ok, Q.t_ex, Q.t_bd, Q.s_nx, Q.s_rt, Q.s_bk, Q.s_ct, Q.s_ex, Q.s_bd, Q.p_sm, Q.p_no, Q.r_sh, Q.r_l, Q.r_t, Q.r_d, Q.w_sh, Q.w_fr, Q.w_br, Q.d_sh, Q.d_fr, Q.d_br, Q.a_sh, Q.a_ow, Q.a_io, Q.a_lk, Q.m_ow, Q.m_io, Q.m_sh, Q.h_sh, Q.h_fr, Q.h_br, Q.c_sh, Q.c_fr, Q.c_br, Q.v_sh, Q.v_fr, Q.e_val, Q.e_tst, Q.e_io, Q.e_md, Q.kC', Q.kV', Q.kU', Q.kB', Q.kP0, Q.kP1, Q.kS', Q.kT', Q.kCh', Q.bl_s, Q.kVa, Q.kN', Q.kI', Q.kIT, Q.kAV, Q.kAT, Q.kSh, Q.kNl, Q.kCo, Q.kVw', Q.kSt, Q.kTu, Q.kLs, Q.kBi', Q.dr_n, Q.dr_c, Q.kMm', Q.kMt, Q.kMf, Q.kCa, Q.kCk, Q.cs, Q.av_n, Q.av_s, Q.av_i, Q.ai_n, Q.ai_s, Q.ai_i, Q.io_s, Q.io_i, Q.st_n, Q.st_c, Q.mu_l, Q.mu_d, Q.mu_o, Q.sa, Q.fa, Q.f_no, Q.f_sh, Q.f_ow, Q.bv, Q.ag_n, Q.ag_t, Q.an, Q.at_, Q.as_n, Q.as_c, Q.pv, Q.rt_s, Q.rt_f, Q.rt_b, Q.kIv, Q.kYs, Q.os_n, Q.os_t, Q.os_f, Q.is_t, Q.is_f, Q.is_n, Q.rs, Q.so, Q.l_int, Q.le_int, Q.g_int, Q.ge_int, Q.eq_d, Q.ne_d, Q.is_non, Q.bo', Q.tr_b, Q.tr_i, Q.tr_l, Q.ad_i, Q.sb_i, Q.ml_i, Q.fd_i, Q.md_i, Q.pw_i, Q.ad_l, Q.su_l, Q.su_t, Q.bi1', Q.i_i, Q.i_b, Q.ab_i, Q.le_l, Q.le_t, Q.li_l, Q.tu_l, Q.ng_i, Q.sx_l, Q.bm_s, exb, exs, evc, evl, evi, List.getElem?_cons_zero, List.getElem?_cons_succ, List.getElem?_nil, List.set_cons_zero, List.set_cons_succ, List.length_cons, List.length_nil, Option.bind_some, Option.bind_none, Option.map_some, Option.map_none, List.map_cons, List.map_nil, List.replicate_zero, List.replicate_succ, List.append_nil, List.cons_append, List.nil_append, Bool.not_true, Bool.not_false, Bool.false_eq_true, if_true, if_false, ite_true, ite_false, Option.isSome_some, Option.isSome_none, Bool.and_true, Bool.true_and, Bool.and_false, Bool.false_and, Bool.or_true, Bool.true_or, Bool.or_false, Bool.false_or, Nat.reduceAdd, Nat.reduceSub, Nat.sub_self, Nat.add_zero, Nat.zero_add, Nat.reduceLT, Nat.reduceLeDiff, reduceCtorEq, List.nodup_nil, List.nodup_cons, List.not_mem_nil, not_false_eq_true, and_self, and_true, true_and, decide_true, decide_false, List.tail_cons, List.headD_cons, CE.isNoe, CL.len, Bool.true_eq_false, Int.reduceLT, Int.reduceLE, Int.reduceToNat, reduceIte, hA, mA, u1, f8, f9]
  -- least, most
  refine (exb_nx (S1 := [.sh scr, .ow d5, s2, s3, s4, s5, s6, s7, .sh v, .sh (.bl w), .sh l, .sh m, .no, .no]) ?_).trans ?_
  · simp only [Q.b_ok, Q.b_ex, Q.b_bd, Q.t_ok, Q.t_ex, Q.t_bd, Q.s_nx, Q.s_rt, Q.s_bk, Q.s_ct, Q.s_ex, Q.s_bd, Q.p_sm, Q.p_no, Q.r_sh, Q.r_l, Q.r_t, Q.r_d, Q.w_sh, Q.w_fr, Q.w_br, Q.d_sh, Q.d_fr, Q.d_br, Q.a_sh, Q.a_ow, Q.a_io, Q.a_lk, Q.m_ow, Q.m_io, Q.m_sh, Q.h_sh, Q.h_fr, Q.h_br, Q.c_sh, Q.c_fr, Q.c_br, Q.v_sh, Q.v_fr, Q.e_val, Q.e_tst, Q.e_io, Q.e_md, Q.kC', Q.kV', Q.kU', Q.kB', Q.kP0, Q.kP1, Q.kS', Q.kT', Q.kCh', Q.bl_s, Q.kVa, Q.kN', Q.kI', Q.kIT, Q.kAV, Q.kAT, Q.kSh, Q.kNl, Q.kCo, Q.kVw', Q.kSt, Q.kTu, Q.kLs, Q.kBi', Q.dr_n, Q.dr_c, Q.kMm', Q.kMt, Q.kMf, Q.kCa, Q.kCk, Q.cs, Q.av_n, Q.av_s, Q.av_i, Q.ai_n, Q.ai_s, Q.ai_i, Q.io_s, Q.io_i, Q.st_n, Q.st_c, Q.mu_l, Q.mu_d, Q.mu_o, Q.sa, Q.fa, Q.f_no, Q.f_sh, Q.f_ow, Q.bv, Q.ag_n, Q.ag_t, Q.an, Q.at_, Q.as_n, Q.as_c, Q.pv, Q.rt_s, Q.rt_f, Q.rt_b, Q.kIv, Q.kYs, Q.os_n, Q.os_t, Q.os_f, Q.is_t, Q.is_f, Q.is_n, Q.rs, Q.so, Q.l_int, Q.le_int, Q.g_int, Q.ge_int, Q.eq_d, Q.ne_d, Q.is_non, Q.bo', Q.tr_b, Q.tr_i, Q.tr_l, Q.ad_i, Q.sb_i, Q.ml_i, Q.fd_i, Q.md_i, Q.pw_i, Q.ad_l, Q.su_l, Q.su_t, Q.bi1', Q.i_i, Q.i_b, Q.ab_i, Q.le_l, Q.le_t, Q.li_l, Q.tu_l, Q.ng_i, Q.sx_l, Q.bm_s, exb, exs, evc, evl, evi, List.getElem?_cons_zero, List.getElem?_cons_succ, List.getElem?_nil, List.set_cons_zero, List.set_cons_succ, List.length_cons, List.length_nil, Option.bind_some, Option.bind_none, Option.map_some, Option.map_none, List.map_cons, List.map_nil, List.replicate_zero, List.replicate_succ, List.append_nil, List.cons_append, List.nil_append, Bool.not_true, Bool.not_false, Bool.false_eq_true, if_true, if_false, ite_true, ite_false, Option.isSome_some, Option.isSome_none, Bool.and_true, Bool.true_and, Bool.and_false, Bool.false_and, Bool.or_true, Bool.true_or, Bool.or_false, Bool.false_or, Nat.reduceAdd, Nat.reduceSub, Nat.sub_self, Nat.add_zero, Nat.zero_add, Nat.reduceLT, Nat.reduceLeDiff, reduceCtorEq, List.nodup_nil, List.nodup_cons, List.not_mem_nil, not_false_eq_true, and_self, and_true, true_and, decide_true, decide_false, List.tail_cons, List.headD_cons, CE.isNoe, CL.len, Bool.true_eq_false, Int.reduceLT, Int.reduceLE, Int.reduceToNat, reduceIte, h2, h3, h4, h5, m1, m2, u2, u3, u4, u5, f10, f11, b1, l4]
  -- due
  refine (exb_nx (S1 := [.sh scr, .ow d5, s2, .sh (.bl due), s4, s5, s6, s7, .sh v, .sh (.bl w), .sh l, .sh m, .no, .no]) ?_).trans ?_
  · rw [hdue]
    exact asg_sh (due_eq rfl rfl rfl rfl hw hl hm) f3
  -- is_integer
  refine (exb_nx (S1 := [.sh scr, .ow d5, s2, .sh (.bl due), s4, s5, s6, s7, .sh v, .sh (.bl w), .sh l, .sh m, .no, .no]) ?_).trans ?_
  · have hI := is_integer_eq v hT
    rw [hIw] at hI
    obtain ⟨p, r1, r2⟩ := rep2 w
    simp only [Q.b_ok, Q.b_ex, Q.b_bd, Q.t_ok, Q.t_ex, Q.t_bd, Q.s_nx, Q.s_rt, Q.s_bk, Q.s_ct, Q.s_ex, Q.s_bd, Q.p_sm, Q.p_no, Q.r_sh, Q.r_l, Q.r_t, Q.r_d, Q.w_sh, Q.w_fr, Q.w_br, Q.d_sh, Q.d_fr, Q.d_br, Q.a_sh, Q.a_ow, Q.a_io, Q.a_lk, Q.m_ow, Q.m_io, Q.m_sh, Q.h_sh, Q.h_fr, Q.h_br, Q.c_sh, Q.c_fr, Q.c_br, Q.v_sh, Q.v_fr, Q.e_val, Q.e_tst, Q.e_io, Q.e_md, Q.kC', Q.kV', Q.kU', Q.kB', Q.kP0, Q.kP1, Q.kS', Q.kT', Q.kCh', Q.bl_s, Q.kVa, Q.kN', Q.kI', Q.kIT, Q.kAV, Q.kAT, Q.kSh, Q.kNl, Q.kCo, Q.kVw', Q.kSt, Q.kTu, Q.kLs, Q.kBi', Q.dr_n, Q.dr_c, Q.kMm', Q.kMt, Q.kMf, Q.kCa, Q.kCk, Q.cs, Q.av_n, Q.av_s, Q.av_i, Q.ai_n, Q.ai_s, Q.ai_i, Q.io_s, Q.io_i, Q.st_n, Q.st_c, Q.mu_l, Q.mu_d, Q.mu_o, Q.sa, Q.fa, Q.f_no, Q.f_sh, Q.f_ow, Q.bv, Q.ag_n, Q.ag_t, Q.an, Q.at_, Q.as_n, Q.as_c, Q.pv, Q.rt_s, Q.rt_f, Q.rt_b, Q.kIv, Q.kYs, Q.os_n, Q.os_t, Q.os_f, Q.is_t, Q.is_f, Q.is_n, Q.rs, Q.so, Q.l_int, Q.le_int, Q.g_int, Q.ge_int, Q.eq_d, Q.ne_d, Q.is_non, Q.bo', Q.tr_b, Q.tr_i, Q.tr_l, Q.ad_i, Q.sb_i, Q.ml_i, Q.fd_i, Q.md_i, Q.pw_i, Q.ad_l, Q.su_l, Q.su_t, Q.bi1', Q.i_i, Q.i_b, Q.ab_i, Q.le_l, Q.le_t, Q.li_l, Q.tu_l, Q.ng_i, Q.sx_l, Q.bm_s, exb, exs, evc, evl, evi, List.getElem?_cons_zero, List.getElem?_cons_succ, List.getElem?_nil, List.set_cons_zero, List.set_cons_succ, List.length_cons, List.length_nil, Option.bind_some, Option.bind_none, Option.map_some, Option.map_none, List.map_cons, List.map_nil, List.replicate_zero, List.replicate_succ, List.append_nil, List.cons_append, List.nil_append, Bool.not_true, Bool.not_false, Bool.false_eq_true, if_true, if_false, ite_true, ite_false, Option.isSome_some, Option.isSome_none, Bool.and_true, Bool.true_and, Bool.and_false, Bool.false_and, Bool.or_true, Bool.true_or, Bool.or_false, Bool.false_or, Nat.reduceAdd, Nat.reduceSub, Nat.sub_self, Nat.add_zero, Nat.zero_add, Nat.reduceLT, Nat.reduceLeDiff, reduceCtorEq, List.nodup_nil, List.nodup_cons, List.not_mem_nil, not_false_eq_true, and_self, and_true, true_and, decide_true, decide_false, List.tail_cons, List.headD_cons, CE.isNoe, CL.len, Bool.true_eq_false, Int.reduceLT, Int.reduceLE, Int.reduceToNat, reduceIte, hI, m4, kw1, r1, r2, l2]
  -- is_within
  refine (exb_nx (S1 := [.sh scr, .ow d5, s2, .sh (.bl due), s4, s5, s6, s7, .sh v, .sh (.bl w), .sh l, .sh m, .no, .no]) ?_).trans ?_
  · have hW := is_within_eq v l m hT hl hm
    rw [← hdue] at hW
    obtain ⟨p, r1, r2⟩ := rep2 due
    simp only [Q.b_ok, Q.b_ex, Q.b_bd, Q.t_ok, Q.t_ex, Q.t_bd, Q.s_nx, Q.s_rt, Q.s_bk, Q.s_ct, Q.s_ex, Q.s_bd, Q.p_sm, Q.p_no, Q.r_sh, Q.r_l, Q.r_t, Q.r_d, Q.w_sh, Q.w_fr, Q.w_br, Q.d_sh, Q.d_fr, Q.d_br, Q.a_sh, Q.a_ow, Q.a_io, Q.a_lk, Q.m_ow, Q.m_io, Q.m_sh, Q.h_sh, Q.h_fr, Q.h_br, Q.c_sh, Q.c_fr, Q.c_br, Q.v_sh, Q.v_fr, Q.e_val, Q.e_tst, Q.e_io, Q.e_md, Q.kC', Q.kV', Q.kU', Q.kB', Q.kP0, Q.kP1, Q.kS', Q.kT', Q.kCh', Q.bl_s, Q.kVa, Q.kN', Q.kI', Q.kIT, Q.kAV, Q.kAT, Q.kSh, Q.kNl, Q.kCo, Q.kVw', Q.kSt, Q.kTu, Q.kLs, Q.kBi', Q.dr_n, Q.dr_c, Q.kMm', Q.kMt, Q.kMf, Q.kCa, Q.kCk, Q.cs, Q.av_n, Q.av_s, Q.av_i, Q.ai_n, Q.ai_s, Q.ai_i, Q.io_s, Q.io_i, Q.st_n, Q.st_c, Q.mu_l, Q.mu_d, Q.mu_o, Q.sa, Q.fa, Q.f_no, Q.f_sh, Q.f_ow, Q.bv, Q.ag_n, Q.ag_t, Q.an, Q.at_, Q.as_n, Q.as_c, Q.pv, Q.rt_s, Q.rt_f, Q.rt_b, Q.kIv, Q.kYs, Q.os_n, Q.os_t, Q.os_f, Q.is_t, Q.is_f, Q.is_n, Q.rs, Q.so, Q.l_int, Q.le_int, Q.g_int, Q.ge_int, Q.eq_d, Q.ne_d, Q.is_non, Q.bo', Q.tr_b, Q.tr_i, Q.tr_l, Q.ad_i, Q.sb_i, Q.ml_i, Q.fd_i, Q.md_i, Q.pw_i, Q.ad_l, Q.su_l, Q.su_t, Q.bi1', Q.i_i, Q.i_b, Q.ab_i, Q.le_l, Q.le_t, Q.li_l, Q.tu_l, Q.ng_i, Q.sx_l, Q.bm_s, exb, exs, evc, evl, evi, List.getElem?_cons_zero, List.getElem?_cons_succ, List.getElem?_nil, List.set_cons_zero, List.set_cons_succ, List.length_cons, List.length_nil, Option.bind_some, Option.bind_none, Option.map_some, Option.map_none, List.map_cons, List.map_nil, List.replicate_zero, List.replicate_succ, List.append_nil, List.cons_append, List.nil_append, Bool.not_true, Bool.not_false, Bool.false_eq_true, if_true, if_false, ite_true, ite_false, Option.isSome_some, Option.isSome_none, Bool.and_true, Bool.true_and, Bool.and_false, Bool.false_and, Bool.or_true, Bool.true_or, Bool.or_false, Bool.false_or, Nat.reduceAdd, Nat.reduceSub, Nat.sub_self, Nat.add_zero, Nat.zero_add, Nat.reduceLT, Nat.reduceLeDiff, reduceCtorEq, List.nodup_nil, List.nodup_cons, List.not_mem_nil, not_false_eq_true, and_self, and_true, true_and, decide_true, decide_false, List.tail_cons, List.headD_cons, CE.isNoe, CL.len, Bool.true_eq_false, Int.reduceLT, Int.reduceLE, Int.reduceToNat, reduceIte, hW, m5, kw3, r1, r2, l2]
  -- many
  refine (exb_nx (S1 := [.sh scr, .ow d7, s2, .sh (.bl due), .sh (.int kk), s5, s6, s7, .sh v, .sh (.bl w), .sh l, .sh m, .no, .no]) ?_).trans ?_
  · simp only [Q.b_ok, Q.b_ex, Q.b_bd, Q.t_ok, Q.t_ex, Q.t_bd, Q.s_nx, Q.s_rt, Q.s_bk, Q.s_ct, Q.s_ex, Q.s_bd, Q.p_sm, Q.p_no, Q.r_sh, Q.r_l, Q.r_t, Q.r_d, Q.w_sh, Q.w_fr, Q.w_br, Q.d_sh, Q.d_fr, Q.d_br, Q.a_sh, Q.a_ow, Q.a_io, Q.a_lk, Q.m_ow, Q.m_io, Q.m_sh, Q.h_sh, Q.h_fr, Q.h_br, Q.c_sh, Q.c_fr, Q.c_br, Q.v_sh, Q.v_fr, Q.e_val, Q.e_tst, Q.e_io, Q.e_md, Q.kC', Q.kV', Q.kU', Q.kB', Q.kP0, Q.kP1, Q.kS', Q.kT', Q.kCh', Q.bl_s, Q.kVa, Q.kN', Q.kI', Q.kIT, Q.kAV, Q.kAT, Q.kSh, Q.kNl, Q.kCo, Q.kVw', Q.kSt, Q.kTu, Q.kLs, Q.kBi', Q.dr_n, Q.dr_c, Q.kMm', Q.kMt, Q.kMf, Q.kCa, Q.kCk, Q.cs, Q.av_n, Q.av_s, Q.av_i, Q.ai_n, Q.ai_s, Q.ai_i, Q.io_s, Q.io_i, Q.st_n, Q.st_c, Q.mu_l, Q.mu_d, Q.mu_o, Q.sa, Q.fa, Q.f_no, Q.f_sh, Q.f_ow, Q.bv, Q.ag_n, Q.ag_t, Q.an, Q.at_, Q.as_n, Q.as_c, Q.pv, Q.rt_s, Q.rt_f, Q.rt_b, Q.kIv, Q.kYs, Q.os_n, Q.os_t, Q.os_f, Q.is_t, Q.is_f, Q.is_n, Q.rs, Q.so, Q.l_int, Q.le_int, Q.g_int, Q.ge_int, Q.eq_d, Q.ne_d, Q.is_non, Q.bo', Q.tr_b, Q.tr_i, Q.tr_l, Q.ad_i, Q.sb_i, Q.ml_i, Q.fd_i, Q.md_i, Q.pw_i, Q.ad_l, Q.su_l, Q.su_t, Q.bi1', Q.i_i, Q.i_b, Q.ab_i, Q.le_l, Q.le_t, Q.li_l, Q.tu_l, Q.ng_i, Q.sx_l, Q.bm_s, exb, exs, evc, evl, evi, List.getElem?_cons_zero, List.getElem?_cons_succ, List.getElem?_nil, List.set_cons_zero, List.set_cons_succ, List.length_cons, List.length_nil, Option.bind_some, Option.bind_none, Option.map_some, Option.map_none, List.map_cons, List.map_nil, List.replicate_zero, List.replicate_succ, List.append_nil, List.cons_append, List.nil_append, Bool.not_true, Bool.not_false, Bool.false_eq_true, if_true, if_false, ite_true, ite_false, Option.isSome_some, Option.isSome_none, Bool.and_true, Bool.true_and, Bool.and_false, Bool.false_and, Bool.or_true, Bool.true_or, Bool.or_false, Bool.false_or, Nat.reduceAdd, Nat.reduceSub, Nat.sub_self, Nat.add_zero, Nat.zero_add, Nat.reduceLT, Nat.reduceLeDiff, reduceCtorEq, List.nodup_nil, List.nodup_cons, List.not_mem_nil, not_false_eq_true, and_self, and_true, true_and, decide_true, decide_false, List.tail_cons, List.headD_cons, CE.isNoe, CL.len, Bool.true_eq_false, Int.reduceLT, Int.reduceLE, Int.reduceToNat, reduceIte, h6, h7, m1, m2, u6, u7, f4, l5]
  -- the lot
  refine (exb_nx (S1 := [.sh scr, .ow d9, s2, .sh (.bl due), .sh (.int kk), .ow (.lst (zs.map D.int)), s6, s7, .sh v, .sh (.bl w), .sh l, .sh m, .no, .no]) ?_).trans ?_
  · refine asg_fr (S1 := [.sh scr, .ow d9, s2, .sh (.bl due), .sh (.int kk), s5, s6, s7, .sh v, .sh (.bl w), .sh l, .sh m, .no, .no]) ?_ f5
    have hlr := lrg_eq (S := [.sh scr, .ow d7, s2, .sh (.bl due), .sh (.int kk), s5, s6, s7, .sh v, .sh (.bl w), .sh l, .sh m, .no, .no]) (kk := kk) rfl k0 (by omega)
    have hit : evi (.val (.call "_law_stirred" g__law_stirred (.cons (.var 1) (.cons (.lrg false (.rng2 (.int 1) (.bin .Add (.var 4) (.int 1)))) .nil)))) [.sh scr, .ow d7, s2, .sh (.bl due), .sh (.int kk), s5, s6, s7, .sh v, .sh (.bl w), .sh l, .sh m, .no, .no] = .ok (ms.map D.int, none) [.sh scr, .ow d8, s2, .sh (.bl due), .sh (.int kk), s5, s6, s7, .sh v, .sh (.bl w), .sh l, .sh m, .no, .no] := by
      rw [← hyi]
      generalize CE.lrg false (.rng2 (.int 1) (.bin .Add (.var 4) (.int 1))) = C at *
      simp only [Q.b_ok, Q.b_ex, Q.b_bd, Q.t_ok, Q.t_ex, Q.t_bd, Q.s_nx, Q.s_rt, Q.s_bk, Q.s_ct, Q.s_ex, Q.s_bd, Q.p_sm, Q.p_no, Q.r_sh, Q.r_l, Q.r_t, Q.r_d, Q.w_sh, Q.w_fr, Q.w_br, Q.d_sh, Q.d_fr, Q.d_br, Q.a_sh, Q.a_ow, Q.a_io, Q.a_lk, Q.m_ow, Q.m_io, Q.m_sh, Q.h_sh, Q.h_fr, Q.h_br, Q.c_sh, Q.c_fr, Q.c_br, Q.v_sh, Q.v_fr, Q.e_val, Q.e_tst, Q.e_io, Q.e_md, Q.kC', Q.kV', Q.kU', Q.kB', Q.kP0, Q.kP1, Q.kS', Q.kT', Q.kCh', Q.bl_s, Q.kVa, Q.kN', Q.kI', Q.kIT, Q.kAV, Q.kAT, Q.kSh, Q.kNl, Q.kCo, Q.kVw', Q.kSt, Q.kTu, Q.kLs, Q.kBi', Q.dr_n, Q.dr_c, Q.kMm', Q.kMt, Q.kMf, Q.kCa, Q.kCk, Q.cs, Q.av_n, Q.av_s, Q.av_i, Q.ai_n, Q.ai_s, Q.ai_i, Q.io_s, Q.io_i, Q.st_n, Q.st_c, Q.mu_l, Q.mu_d, Q.mu_o, Q.sa, Q.fa, Q.f_no, Q.f_sh, Q.f_ow, Q.bv, Q.ag_n, Q.ag_t, Q.an, Q.at_, Q.as_n, Q.as_c, Q.pv, Q.rt_s, Q.rt_f, Q.rt_b, Q.kIv, Q.kYs, Q.os_n, Q.os_t, Q.os_f, Q.is_t, Q.is_f, Q.is_n, Q.rs, Q.so, Q.l_int, Q.le_int, Q.g_int, Q.ge_int, Q.eq_d, Q.ne_d, Q.is_non, Q.bo', Q.tr_b, Q.tr_i, Q.tr_l, Q.ad_i, Q.sb_i, Q.ml_i, Q.fd_i, Q.md_i, Q.pw_i, Q.ad_l, Q.su_l, Q.su_t, Q.bi1', Q.i_i, Q.i_b, Q.ab_i, Q.le_l, Q.le_t, Q.li_l, Q.tu_l, Q.ng_i, Q.sx_l, Q.bm_s, exb, exs, evc, evl, evi, List.getElem?_cons_zero, List.getElem?_cons_succ, List.getElem?_nil, List.set_cons_zero, List.set_cons_succ, List.length_cons, List.length_nil, Option.bind_some, Option.bind_none, Option.map_some, Option.map_none, List.map_cons, List.map_nil, List.replicate_zero, List.replicate_succ, List.append_nil, List.cons_append, List.nil_append, Bool.not_true, Bool.not_false, Bool.false_eq_true, if_true, if_false, ite_true, ite_false, Option.isSome_some, Option.isSome_none, Bool.and_true, Bool.true_and, Bool.and_false, Bool.false_and, Bool.or_true, Bool.true_or, Bool.or_false, Bool.false_or, Nat.reduceAdd, Nat.reduceSub, Nat.sub_self, Nat.add_zero, Nat.zero_add, Nat.reduceLT, Nat.reduceLeDiff, reduceCtorEq, List.nodup_nil, List.nodup_cons, List.not_mem_nil, not_false_eq_true, and_self, and_true, true_and, decide_true, decide_false, List.tail_cons, List.headD_cons, CE.isNoe, CL.len, Bool.true_eq_false, Int.reduceLT, Int.reduceLE, Int.reduceToNat, reduceIte, hlr, h8, m3, u8, itemsOf]
    show kComp (evc eltG).val (.nm 12) (evi _) ((evl .nil).tn true) [12] _ = _
    unfold kComp
    rw [hit]
    simp only [Q.b_ok]
    rw [show ([] : List D) = ([] : List Int).map D.int from rfl, h9]
    rfl
  -- each once
  refine (exb_nx (S1 := [.sh scr, .ow d9, s2, .sh (.bl due), .sh (.int kk), .ow (.lst (ls.map D.int)), s6, s7, .sh v, .sh (.bl w), .sh l, .sh m, .no, .no]) ?_).trans ?_
  · refine asg_fr (S1 := [.sh scr, .ow d9, s2, .sh (.bl due), .sh (.int kk), .ow (.lst (zs.map D.int)), s6, s7, .sh v, .sh (.bl w), .sh l, .sh m, .no, .no]) ?_ rfl
    have hi : evi (.val (.var 5)) [.sh scr, .ow d9, s2, .sh (.bl due), .sh (.int kk), .ow (.lst (zs.map D.int)), s6, s7, .sh v, .sh (.bl w), .sh l, .sh m, .no, .no] = .ok (zs.map D.int, some 5) [.sh scr, .ow d9, s2, .sh (.bl due), .sh (.int kk), .lk (.lst (zs.map D.int)), s6, s7, .sh v, .sh (.bl w), .sh l, .sh m, .no, .no] := by
      simp only [Q.b_ok, Q.b_ex, Q.b_bd, Q.t_ok, Q.t_ex, Q.t_bd, Q.s_nx, Q.s_rt, Q.s_bk, Q.s_ct, Q.s_ex, Q.s_bd, Q.p_sm, Q.p_no, Q.r_sh, Q.r_l, Q.r_t, Q.r_d, Q.w_sh, Q.w_fr, Q.w_br, Q.d_sh, Q.d_fr, Q.d_br, Q.a_sh, Q.a_ow, Q.a_io, Q.a_lk, Q.m_ow, Q.m_io, Q.m_sh, Q.h_sh, Q.h_fr, Q.h_br, Q.c_sh, Q.c_fr, Q.c_br, Q.v_sh, Q.v_fr, Q.e_val, Q.e_tst, Q.e_io, Q.e_md, Q.kC', Q.kV', Q.kU', Q.kB', Q.kP0, Q.kP1, Q.kS', Q.kT', Q.kCh', Q.bl_s, Q.kVa, Q.kN', Q.kI', Q.kIT, Q.kAV, Q.kAT, Q.kSh, Q.kNl, Q.kCo, Q.kVw', Q.kSt, Q.kTu, Q.kLs, Q.kBi', Q.dr_n, Q.dr_c, Q.kMm', Q.kMt, Q.kMf, Q.kCa, Q.kCk, Q.cs, Q.av_n, Q.av_s, Q.av_i, Q.ai_n, Q.ai_s, Q.ai_i, Q.io_s, Q.io_i, Q.st_n, Q.st_c, Q.mu_l, Q.mu_d, Q.mu_o, Q.sa, Q.fa, Q.f_no, Q.f_sh, Q.f_ow, Q.bv, Q.ag_n, Q.ag_t, Q.an, Q.at_, Q.as_n, Q.as_c, Q.pv, Q.rt_s, Q.rt_f, Q.rt_b, Q.kIv, Q.kYs, Q.os_n, Q.os_t, Q.os_f, Q.is_t, Q.is_f, Q.is_n, Q.rs, Q.so, Q.l_int, Q.le_int, Q.g_int, Q.ge_int, Q.eq_d, Q.ne_d, Q.is_non, Q.bo', Q.tr_b, Q.tr_i, Q.tr_l, Q.ad_i, Q.sb_i, Q.ml_i, Q.fd_i, Q.md_i, Q.pw_i, Q.ad_l, Q.su_l, Q.su_t, Q.bi1', Q.i_i, Q.i_b, Q.ab_i, Q.le_l, Q.le_t, Q.li_l, Q.tu_l, Q.ng_i, Q.sx_l, Q.bm_s, exb, exs, evc, evl, evi, List.getElem?_cons_zero, List.getElem?_cons_succ, List.getElem?_nil, List.set_cons_zero, List.set_cons_succ, List.length_cons, List.length_nil, Option.bind_some, Option.bind_none, Option.map_some, Option.map_none, List.map_cons, List.map_nil, List.replicate_zero, List.replicate_succ, List.append_nil, List.cons_append, List.nil_append, Bool.not_true, Bool.not_false, Bool.false_eq_true, if_true, if_false, ite_true, ite_false, Option.isSome_some, Option.isSome_none, Bool.and_true, Bool.true_and, Bool.and_false, Bool.false_and, Bool.or_true, Bool.true_or, Bool.or_false, Bool.false_or, Nat.reduceAdd, Nat.reduceSub, Nat.sub_self, Nat.add_zero, Nat.zero_add, Nat.reduceLT, Nat.reduceLeDiff, reduceCtorEq, List.nodup_nil, List.nodup_cons, List.not_mem_nil, not_false_eq_true, and_self, and_true, true_and, decide_true, decide_false, List.tail_cons, List.headD_cons, CE.isNoe, CL.len, Bool.true_eq_false, Int.reduceLT, Int.reduceLE, Int.reduceToNat, reduceIte, itemsOf, lock]
    have hc : (evc (.comp (.tup (.cons (.var 12) (.cons (.bl true) .nil))) (.nm 12) (.val (.var 5)) .nil [12])).val [.sh scr, .ow d9, s2, .sh (.bl due), .sh (.int kk), .ow (.lst (zs.map D.int)), s6, s7, .sh v, .sh (.bl w), .sh l, .sh m, .no, .no] = .ok (.fr (.lst (zs.map fun z => D.tup [.int z, .bl true]))) [.sh scr, .ow d9, s2, .sh (.bl due), .sh (.int kk), .ow (.lst (zs.map D.int)), s6, s7, .sh v, .sh (.bl w), .sh l, .sh m, .no, .no] := by
      have := kComp_map (elt := (evc (.tup (.cons (.var 12) (.cons (.bl true) .nil)))).val) (tg := .nm 12) (ifs := (evl .nil).tn true) (own := [12]) (f := fun x => D.tup [x, .bl true]) hi (fun y hy => by
        unfold turnC
        simp only [Q.b_ok, Q.b_ex, Q.b_bd, Q.t_ok, Q.t_ex, Q.t_bd, Q.s_nx, Q.s_rt, Q.s_bk, Q.s_ct, Q.s_ex, Q.s_bd, Q.p_sm, Q.p_no, Q.r_sh, Q.r_l, Q.r_t, Q.r_d, Q.w_sh, Q.w_fr, Q.w_br, Q.d_sh, Q.d_fr, Q.d_br, Q.a_sh, Q.a_ow, Q.a_io, Q.a_lk, Q.m_ow, Q.m_io, Q.m_sh, Q.h_sh, Q.h_fr, Q.h_br, Q.c_sh, Q.c_fr, Q.c_br, Q.v_sh, Q.v_fr, Q.e_val, Q.e_tst, Q.e_io, Q.e_md, Q.kC', Q.kV', Q.kU', Q.kB', Q.kP0, Q.kP1, Q.kS', Q.kT', Q.kCh', Q.bl_s, Q.kVa, Q.kN', Q.kI', Q.kIT, Q.kAV, Q.kAT, Q.kSh, Q.kNl, Q.kCo, Q.kVw', Q.kSt, Q.kTu, Q.kLs, Q.kBi', Q.dr_n, Q.dr_c, Q.kMm', Q.kMt, Q.kMf, Q.kCa, Q.kCk, Q.cs, Q.av_n, Q.av_s, Q.av_i, Q.ai_n, Q.ai_s, Q.ai_i, Q.io_s, Q.io_i, Q.st_n, Q.st_c, Q.mu_l, Q.mu_d, Q.mu_o, Q.sa, Q.fa, Q.f_no, Q.f_sh, Q.f_ow, Q.bv, Q.ag_n, Q.ag_t, Q.an, Q.at_, Q.as_n, Q.as_c, Q.pv, Q.rt_s, Q.rt_f, Q.rt_b, Q.kIv, Q.kYs, Q.os_n, Q.os_t, Q.os_f, Q.is_t, Q.is_f, Q.is_n, Q.rs, Q.so, Q.l_int, Q.le_int, Q.g_int, Q.ge_int, Q.eq_d, Q.ne_d, Q.is_non, Q.bo', Q.tr_b, Q.tr_i, Q.tr_l, Q.ad_i, Q.sb_i, Q.ml_i, Q.fd_i, Q.md_i, Q.pw_i, Q.ad_l, Q.su_l, Q.su_t, Q.bi1', Q.i_i, Q.i_b, Q.ab_i, Q.le_l, Q.le_t, Q.li_l, Q.tu_l, Q.ng_i, Q.sx_l, Q.bm_s, exb, exs, evc, evl, evi, List.getElem?_cons_zero, List.getElem?_cons_succ, List.getElem?_nil, List.set_cons_zero, List.set_cons_succ, List.length_cons, List.length_nil, Option.bind_some, Option.bind_none, Option.map_some, Option.map_none, List.map_cons, List.map_nil, List.replicate_zero, List.replicate_succ, List.append_nil, List.cons_append, List.nil_append, Bool.not_true, Bool.not_false, Bool.false_eq_true, if_true, if_false, ite_true, ite_false, Option.isSome_some, Option.isSome_none, Bool.and_true, Bool.true_and, Bool.and_false, Bool.false_and, Bool.or_true, Bool.true_or, Bool.or_false, Bool.false_or, Nat.reduceAdd, Nat.reduceSub, Nat.sub_self, Nat.add_zero, Nat.zero_add, Nat.reduceLT, Nat.reduceLeDiff, reduceCtorEq, List.nodup_nil, List.nodup_cons, List.not_mem_nil, not_false_eq_true, and_self, and_true, true_and, decide_true, decide_false, List.tail_cons, List.headD_cons, CE.isNoe, CL.len, Bool.true_eq_false, Int.reduceLT, Int.reduceLE, Int.reduceToNat, reduceIte, wipeS, backS, Option.getD_some, l2]) (by simp; omega)
      rw [List.map_map] at this
      exact this
    have hd : bi1 .dict (.lst (zs.map fun z => D.tup [.int z, .bl true])) = some (.nw (dicG (mergeG [] (zs.map fun z => ((.inl z : Key), D.bl true))))) := by
      show (pairsD _).map _ = _
      rw [pairs_bl]; rfl
    have hk : bi1 .list (dicG (mergeG [] (zs.map fun z => ((.inl z : Key), D.bl true)))) = some (.nw (.lst (ls.map D.int))) := by
      unfold dicG
      show (if _ then _ else _) = _
      rw [merge_keys, ← hls, if_pos (by
        have := congrArg List.length (merge_keys zs)
        rw [← hls, List.length_map, List.length_map] at this
        rw [List.length_map, List.length_map, this]), keys_ints]
      rfl
    have hr : ∀ q, RO.rv (.nw (dicG q)) = .fr (dicG q) := fun _ => rfl
    generalize CE.comp (.tup (.cons (.var 12) (.cons (.bl true) .nil))) (.nm 12) (.val (.var 5)) .nil [12] = C at *
    simp only [Q.b_ok, Q.b_ex, Q.b_bd, Q.t_ok, Q.t_ex, Q.t_bd, Q.s_nx, Q.s_rt, Q.s_bk, Q.s_ct, Q.s_ex, Q.s_bd, Q.p_sm, Q.p_no, Q.r_sh, Q.r_l, Q.r_t, Q.r_d, Q.w_sh, Q.w_fr, Q.w_br, Q.d_sh, Q.d_fr, Q.d_br, Q.a_sh, Q.a_ow, Q.a_io, Q.a_lk, Q.m_ow, Q.m_io, Q.m_sh, Q.h_sh, Q.h_fr, Q.h_br, Q.c_sh, Q.c_fr, Q.c_br, Q.v_sh, Q.v_fr, Q.e_val, Q.e_tst, Q.e_io, Q.e_md, Q.kC', Q.kV', Q.kU', Q.kB', Q.kP0, Q.kP1, Q.kS', Q.kT', Q.kCh', Q.bl_s, Q.kVa, Q.kN', Q.kI', Q.kIT, Q.kAV, Q.kAT, Q.kSh, Q.kNl, Q.kCo, Q.kVw', Q.kSt, Q.kTu, Q.kLs, Q.kBi', Q.dr_n, Q.dr_c, Q.kMm', Q.kMt, Q.kMf, Q.kCa, Q.kCk, Q.cs, Q.av_n, Q.av_s, Q.av_i, Q.ai_n, Q.ai_s, Q.ai_i, Q.io_s, Q.io_i, Q.st_n, Q.st_c, Q.mu_l, Q.mu_d, Q.mu_o, Q.sa, Q.fa, Q.f_no, Q.f_sh, Q.f_ow, Q.bv, Q.ag_n, Q.ag_t, Q.an, Q.at_, Q.as_n, Q.as_c, Q.pv, Q.rt_s, Q.rt_f, Q.rt_b, Q.kIv, Q.kYs, Q.os_n, Q.os_t, Q.os_f, Q.is_t, Q.is_f, Q.is_n, Q.rs, Q.so, Q.l_int, Q.le_int, Q.g_int, Q.ge_int, Q.eq_d, Q.ne_d, Q.is_non, Q.bo', Q.tr_b, Q.tr_i, Q.tr_l, Q.ad_i, Q.sb_i, Q.ml_i, Q.fd_i, Q.md_i, Q.pw_i, Q.ad_l, Q.su_l, Q.su_t, Q.bi1', Q.i_i, Q.i_b, Q.ab_i, Q.le_l, Q.le_t, Q.li_l, Q.tu_l, Q.ng_i, Q.sx_l, Q.bm_s, exb, exs, evc, evl, evi, List.getElem?_cons_zero, List.getElem?_cons_succ, List.getElem?_nil, List.set_cons_zero, List.set_cons_succ, List.length_cons, List.length_nil, Option.bind_some, Option.bind_none, Option.map_some, Option.map_none, List.map_cons, List.map_nil, List.replicate_zero, List.replicate_succ, List.append_nil, List.cons_append, List.nil_append, Bool.not_true, Bool.not_false, Bool.false_eq_true, if_true, if_false, ite_true, ite_false, Option.isSome_some, Option.isSome_none, Bool.and_true, Bool.true_and, Bool.and_false, Bool.false_and, Bool.or_true, Bool.true_or, Bool.or_false, Bool.false_or, Nat.reduceAdd, Nat.reduceSub, Nat.sub_self, Nat.add_zero, Nat.zero_add, Nat.reduceLT, Nat.reduceLeDiff, reduceCtorEq, List.nodup_nil, List.nodup_cons, List.not_mem_nil, not_false_eq_true, and_self, and_true, true_and, decide_true, decide_false, List.tail_cons, List.headD_cons, CE.isNoe, CL.len, Bool.true_eq_false, Int.reduceLT, Int.reduceLE, Int.reduceToNat, reduceIte, hc, hd, hr, hk]
  -- kept
  refine (exb_nx (S1 := [.sh scr, .ow d9, s2, .sh (.bl due), .sh (.int kk), .ow (.lst (ls.map D.int)), .ow (.lst (ls.map D.int)), s7, .sh v, .sh (.bl w), .sh l, .sh m, .no, .no]) ?_).trans ?_
  · simp only [Q.b_ok, Q.b_ex, Q.b_bd, Q.t_ok, Q.t_ex, Q.t_bd, Q.s_nx, Q.s_rt, Q.s_bk, Q.s_ct, Q.s_ex, Q.s_bd, Q.p_sm, Q.p_no, Q.r_sh, Q.r_l, Q.r_t, Q.r_d, Q.w_sh, Q.w_fr, Q.w_br, Q.d_sh, Q.d_fr, Q.d_br, Q.a_sh, Q.a_ow, Q.a_io, Q.a_lk, Q.m_ow, Q.m_io, Q.m_sh, Q.h_sh, Q.h_fr, Q.h_br, Q.c_sh, Q.c_fr, Q.c_br, Q.v_sh, Q.v_fr, Q.e_val, Q.e_tst, Q.e_io, Q.e_md, Q.kC', Q.kV', Q.kU', Q.kB', Q.kP0, Q.kP1, Q.kS', Q.kT', Q.kCh', Q.bl_s, Q.kVa, Q.kN', Q.kI', Q.kIT, Q.kAV, Q.kAT, Q.kSh, Q.kNl, Q.kCo, Q.kVw', Q.kSt, Q.kTu, Q.kLs, Q.kBi', Q.dr_n, Q.dr_c, Q.kMm', Q.kMt, Q.kMf, Q.kCa, Q.kCk, Q.cs, Q.av_n, Q.av_s, Q.av_i, Q.ai_n, Q.ai_s, Q.ai_i, Q.io_s, Q.io_i, Q.st_n, Q.st_c, Q.mu_l, Q.mu_d, Q.mu_o, Q.sa, Q.fa, Q.f_no, Q.f_sh, Q.f_ow, Q.bv, Q.ag_n, Q.ag_t, Q.an, Q.at_, Q.as_n, Q.as_c, Q.pv, Q.rt_s, Q.rt_f, Q.rt_b, Q.kIv, Q.kYs, Q.os_n, Q.os_t, Q.os_f, Q.is_t, Q.is_f, Q.is_n, Q.rs, Q.so, Q.l_int, Q.le_int, Q.g_int, Q.ge_int, Q.eq_d, Q.ne_d, Q.is_non, Q.bo', Q.tr_b, Q.tr_i, Q.tr_l, Q.ad_i, Q.sb_i, Q.ml_i, Q.fd_i, Q.md_i, Q.pw_i, Q.ad_l, Q.su_l, Q.su_t, Q.bi1', Q.i_i, Q.i_b, Q.ab_i, Q.le_l, Q.le_t, Q.li_l, Q.tu_l, Q.ng_i, Q.sx_l, Q.bm_s, exb, exs, evc, evl, evi, List.getElem?_cons_zero, List.getElem?_cons_succ, List.getElem?_nil, List.set_cons_zero, List.set_cons_succ, List.length_cons, List.length_nil, Option.bind_some, Option.bind_none, Option.map_some, Option.map_none, List.map_cons, List.map_nil, List.replicate_zero, List.replicate_succ, List.append_nil, List.cons_append, List.nil_append, Bool.not_true, Bool.not_false, Bool.false_eq_true, if_true, if_false, ite_true, ite_false, Option.isSome_some, Option.isSome_none, Bool.and_true, Bool.true_and, Bool.and_false, Bool.false_and, Bool.or_true, Bool.true_or, Bool.or_false, Bool.false_or, Nat.reduceAdd, Nat.reduceSub, Nat.sub_self, Nat.add_zero, Nat.zero_add, Nat.reduceLT, Nat.reduceLeDiff, reduceCtorEq, List.nodup_nil, List.nodup_cons, List.not_mem_nil, not_false_eq_true, and_self, and_true, true_and, decide_true, decide_false, List.tail_cons, List.headD_cons, CE.isNoe, CL.len, Bool.true_eq_false, Int.reduceLT, Int.reduceLE, Int.reduceToNat, reduceIte, f6]
  -- is_lot
  have hpd : PD 41 (.lst (ls.map D.int)) := PD.lst (ints_PD ls)
  refine (exb_nx (S1 := [.sh scr, .ow d9, s2, .sh (.bl due), .sh (.int kk), .sh (.lst (ls.map D.int)), .ow (.lst (ls.map D.int)), s7, .sh v, .sh (.bl w), .sh l, .sh m, .no, .no]) ?_).trans ?_
  · have q1 : g_is_lot.m [.lst (ls.map D.int)] = .ok false (.bl true) [] := by
      have := lot_ints false ls hl1 (by omega)
      rw [dedup_len hln, beq_self_eq_true] at this
      exact this
    have q2 : g_is_lot.m [.tup (ls.map D.int)] = .ok false (.bl true) [] := by
      have := lot_ints true ls hl1 (by omega)
      rw [dedup_len hln, beq_self_eq_true] at this
      exact this
    have q3 := eqD_self (by decide) hpd
    simp only [Q.b_ok, Q.b_ex, Q.b_bd, Q.t_ok, Q.t_ex, Q.t_bd, Q.s_nx, Q.s_rt, Q.s_bk, Q.s_ct, Q.s_ex, Q.s_bd, Q.p_sm, Q.p_no, Q.r_sh, Q.r_l, Q.r_t, Q.r_d, Q.w_sh, Q.w_fr, Q.w_br, Q.d_sh, Q.d_fr, Q.d_br, Q.a_sh, Q.a_ow, Q.a_io, Q.a_lk, Q.m_ow, Q.m_io, Q.m_sh, Q.h_sh, Q.h_fr, Q.h_br, Q.c_sh, Q.c_fr, Q.c_br, Q.v_sh, Q.v_fr, Q.e_val, Q.e_tst, Q.e_io, Q.e_md, Q.kC', Q.kV', Q.kU', Q.kB', Q.kP0, Q.kP1, Q.kS', Q.kT', Q.kCh', Q.bl_s, Q.kVa, Q.kN', Q.kI', Q.kIT, Q.kAV, Q.kAT, Q.kSh, Q.kNl, Q.kCo, Q.kVw', Q.kSt, Q.kTu, Q.kLs, Q.kBi', Q.dr_n, Q.dr_c, Q.kMm', Q.kMt, Q.kMf, Q.kCa, Q.kCk, Q.cs, Q.av_n, Q.av_s, Q.av_i, Q.ai_n, Q.ai_s, Q.ai_i, Q.io_s, Q.io_i, Q.st_n, Q.st_c, Q.mu_l, Q.mu_d, Q.mu_o, Q.sa, Q.fa, Q.f_no, Q.f_sh, Q.f_ow, Q.bv, Q.ag_n, Q.ag_t, Q.an, Q.at_, Q.as_n, Q.as_c, Q.pv, Q.rt_s, Q.rt_f, Q.rt_b, Q.kIv, Q.kYs, Q.os_n, Q.os_t, Q.os_f, Q.is_t, Q.is_f, Q.is_n, Q.rs, Q.so, Q.l_int, Q.le_int, Q.g_int, Q.ge_int, Q.eq_d, Q.ne_d, Q.is_non, Q.bo', Q.tr_b, Q.tr_i, Q.tr_l, Q.ad_i, Q.sb_i, Q.ml_i, Q.fd_i, Q.md_i, Q.pw_i, Q.ad_l, Q.su_l, Q.su_t, Q.bi1', Q.i_i, Q.i_b, Q.ab_i, Q.le_l, Q.le_t, Q.li_l, Q.tu_l, Q.ng_i, Q.sx_l, Q.bm_s, exb, exs, evc, evl, evi, List.getElem?_cons_zero, List.getElem?_cons_succ, List.getElem?_nil, List.set_cons_zero, List.set_cons_succ, List.length_cons, List.length_nil, Option.bind_some, Option.bind_none, Option.map_some, Option.map_none, List.map_cons, List.map_nil, List.replicate_zero, List.replicate_succ, List.append_nil, List.cons_append, List.nil_append, Bool.not_true, Bool.not_false, Bool.false_eq_true, if_true, if_false, ite_true, ite_false, Option.isSome_some, Option.isSome_none, Bool.and_true, Bool.true_and, Bool.and_false, Bool.false_and, Bool.or_true, Bool.true_or, Bool.or_false, Bool.false_or, Nat.reduceAdd, Nat.reduceSub, Nat.sub_self, Nat.add_zero, Nat.zero_add, Nat.reduceLT, Nat.reduceLeDiff, reduceCtorEq, List.nodup_nil, List.nodup_cons, List.not_mem_nil, not_false_eq_true, and_self, and_true, true_and, decide_true, decide_false, List.tail_cons, List.headD_cons, CE.isNoe, CL.len, Bool.true_eq_false, Int.reduceLT, Int.reduceLE, Int.reduceToNat, reduceIte, q1, q2, q3, m6, kw1, repT, eqT, l2]
  -- bent
  have hL : (ls.map D.int).length ≤ 40 := by rw [List.length_map]; exact hll
  obtain ⟨S, hS⟩ : ∃ S : SS, S = [.sh scr, .ow d9, s2, .sh (.bl due), .sh (.int kk), .sh (.lst (ls.map D.int)), .ow (.lst (ls.map D.int)), s7, .sh v, .sh (.bl w), .sh l, .sh m, .no, .no] := ⟨_, rfl⟩
  have w5 : (evc (.var 5)).val S = .ok (.sh (.lst (ls.map D.int))) S := by rw [hS]; rfl
  have lz : ∀ {e : CE} {d : D}, (evc e).val S = .ok (.sh d) S → (evc (.lst (.cons e .nil))).val S = .ok (.fr (.lst [d])) S := fun h => lst_of (sh_cons (sh_sh h) sh_nil) (by simp)
  have hi5 : evi (.val (.var 5)) S = .ok (ls.map D.int, none) S := by rw [hS]; simp only [Q.b_ok, Q.b_ex, Q.b_bd, Q.t_ok, Q.t_ex, Q.t_bd, Q.s_nx, Q.s_rt, Q.s_bk, Q.s_ct, Q.s_ex, Q.s_bd, Q.p_sm, Q.p_no, Q.r_sh, Q.r_l, Q.r_t, Q.r_d, Q.w_sh, Q.w_fr, Q.w_br, Q.d_sh, Q.d_fr, Q.d_br, Q.a_sh, Q.a_ow, Q.a_io, Q.a_lk, Q.m_ow, Q.m_io, Q.m_sh, Q.h_sh, Q.h_fr, Q.h_br, Q.c_sh, Q.c_fr, Q.c_br, Q.v_sh, Q.v_fr, Q.e_val, Q.e_tst, Q.e_io, Q.e_md, Q.kC', Q.kV', Q.kU', Q.kB', Q.kP0, Q.kP1, Q.kS', Q.kT', Q.kCh', Q.bl_s, Q.kVa, Q.kN', Q.kI', Q.kIT, Q.kAV, Q.kAT, Q.kSh, Q.kNl, Q.kCo, Q.kVw', Q.kSt, Q.kTu, Q.kLs, Q.kBi', Q.dr_n, Q.dr_c, Q.kMm', Q.kMt, Q.kMf, Q.kCa, Q.kCk, Q.cs, Q.av_n, Q.av_s, Q.av_i, Q.ai_n, Q.ai_s, Q.ai_i, Q.io_s, Q.io_i, Q.st_n, Q.st_c, Q.mu_l, Q.mu_d, Q.mu_o, Q.sa, Q.fa, Q.f_no, Q.f_sh, Q.f_ow, Q.bv, Q.ag_n, Q.ag_t, Q.an, Q.at_, Q.as_n, Q.as_c, Q.pv, Q.rt_s, Q.rt_f, Q.rt_b, Q.kIv, Q.kYs, Q.os_n, Q.os_t, Q.os_f, Q.is_t, Q.is_f, Q.is_n, Q.rs, Q.so, Q.l_int, Q.le_int, Q.g_int, Q.ge_int, Q.eq_d, Q.ne_d, Q.is_non, Q.bo', Q.tr_b, Q.tr_i, Q.tr_l, Q.ad_i, Q.sb_i, Q.ml_i, Q.fd_i, Q.md_i, Q.pw_i, Q.ad_l, Q.su_l, Q.su_t, Q.bi1', Q.i_i, Q.i_b, Q.ab_i, Q.le_l, Q.le_t, Q.li_l, Q.tu_l, Q.ng_i, Q.sx_l, Q.bm_s, exb, exs, evc, evl, evi, List.getElem?_cons_zero, List.getElem?_cons_succ, List.getElem?_nil, List.set_cons_zero, List.set_cons_succ, List.length_cons, List.length_nil, Option.bind_some, Option.bind_none, Option.map_some, Option.map_none, List.map_cons, List.map_nil, List.replicate_zero, List.replicate_succ, List.append_nil, List.cons_append, List.nil_append, Bool.not_true, Bool.not_false, Bool.false_eq_true, if_true, if_false, ite_true, ite_false, Option.isSome_some, Option.isSome_none, Bool.and_true, Bool.true_and, Bool.and_false, Bool.false_and, Bool.or_true, Bool.true_or, Bool.or_false, Bool.false_or, Nat.reduceAdd, Nat.reduceSub, Nat.sub_self, Nat.add_zero, Nat.zero_add, Nat.reduceLT, Nat.reduceLeDiff, reduceCtorEq, List.nodup_nil, List.nodup_cons, List.not_mem_nil, not_false_eq_true, and_self, and_true, true_and, decide_true, decide_false, List.tail_cons, List.headD_cons, CE.isNoe, CL.len, Bool.true_eq_false, Int.reduceLT, Int.reduceLE, Int.reduceToNat, reduceIte, itemsOf]
  have e3 : (evc (.ite (.cmp .NotEq (.var 5) (.lst .nil)) (.bin .Add (.var 5) (.slc (.var 5) .noe (.int 1))) (.lst (.cons (.int 2) (.cons (.int 2) .nil))))).val S = .ok (.fr (.lst (if ls.isEmpty then [.int 2, .int 2] else ls.map D.int ++ cutD (ls.map D.int) none (some 1)))) S := by
    have hq := eqD_nil (ints_PD ls)
    have hs : (evc (.slc (.var 5) .noe (.int 1))).val S = .ok (.fr (.lst (cutD (ls.map D.int) none (some 1)))) S := by rw [hS]; rfl
    have hcl : (cutD (ls.map D.int) none (some 1)).length ≤ 40 := by
      obtain ⟨c, hc, hcl⟩ := cutD_map ls none (some 1)
      rw [hc, List.length_map]; omega
    have ht : (evc (.cmp .NotEq (.var 5) (.lst .nil))).tst S = .ok (!(ls.map D.int).isEmpty) S := by
      rw [hS]
      simp only [Q.b_ok, Q.b_ex, Q.b_bd, Q.t_ok, Q.t_ex, Q.t_bd, Q.s_nx, Q.s_rt, Q.s_bk, Q.s_ct, Q.s_ex, Q.s_bd, Q.p_sm, Q.p_no, Q.r_sh, Q.r_l, Q.r_t, Q.r_d, Q.w_sh, Q.w_fr, Q.w_br, Q.d_sh, Q.d_fr, Q.d_br, Q.a_sh, Q.a_ow, Q.a_io, Q.a_lk, Q.m_ow, Q.m_io, Q.m_sh, Q.h_sh, Q.h_fr, Q.h_br, Q.c_sh, Q.c_fr, Q.c_br, Q.v_sh, Q.v_fr, Q.e_val, Q.e_tst, Q.e_io, Q.e_md, Q.kC', Q.kV', Q.kU', Q.kB', Q.kP0, Q.kP1, Q.kS', Q.kT', Q.kCh', Q.bl_s, Q.kVa, Q.kN', Q.kI', Q.kIT, Q.kAV, Q.kAT, Q.kSh, Q.kNl, Q.kCo, Q.kVw', Q.kSt, Q.kTu, Q.kLs, Q.kBi', Q.dr_n, Q.dr_c, Q.kMm', Q.kMt, Q.kMf, Q.kCa, Q.kCk, Q.cs, Q.av_n, Q.av_s, Q.av_i, Q.ai_n, Q.ai_s, Q.ai_i, Q.io_s, Q.io_i, Q.st_n, Q.st_c, Q.mu_l, Q.mu_d, Q.mu_o, Q.sa, Q.fa, Q.f_no, Q.f_sh, Q.f_ow, Q.bv, Q.ag_n, Q.ag_t, Q.an, Q.at_, Q.as_n, Q.as_c, Q.pv, Q.rt_s, Q.rt_f, Q.rt_b, Q.kIv, Q.kYs, Q.os_n, Q.os_t, Q.os_f, Q.is_t, Q.is_f, Q.is_n, Q.rs, Q.so, Q.l_int, Q.le_int, Q.g_int, Q.ge_int, Q.eq_d, Q.ne_d, Q.is_non, Q.bo', Q.tr_b, Q.tr_i, Q.tr_l, Q.ad_i, Q.sb_i, Q.ml_i, Q.fd_i, Q.md_i, Q.pw_i, Q.ad_l, Q.su_l, Q.su_t, Q.bi1', Q.i_i, Q.i_b, Q.ab_i, Q.le_l, Q.le_t, Q.li_l, Q.tu_l, Q.ng_i, Q.sx_l, Q.bm_s, exb, exs, evc, evl, evi, List.getElem?_cons_zero, List.getElem?_cons_succ, List.getElem?_nil, List.set_cons_zero, List.set_cons_succ, List.length_cons, List.length_nil, Option.bind_some, Option.bind_none, Option.map_some, Option.map_none, List.map_cons, List.map_nil, List.replicate_zero, List.replicate_succ, List.append_nil, List.cons_append, List.nil_append, Bool.not_true, Bool.not_false, Bool.false_eq_true, if_true, if_false, ite_true, ite_false, Option.isSome_some, Option.isSome_none, Bool.and_true, Bool.true_and, Bool.and_false, Bool.false_and, Bool.or_true, Bool.true_or, Bool.or_false, Bool.false_or, Nat.reduceAdd, Nat.reduceSub, Nat.sub_self, Nat.add_zero, Nat.zero_add, Nat.reduceLT, Nat.reduceLeDiff, reduceCtorEq, List.nodup_nil, List.nodup_cons, List.not_mem_nil, not_false_eq_true, and_self, and_true, true_and, decide_true, decide_false, List.tail_cons, List.headD_cons, CE.isNoe, CL.len, Bool.true_eq_false, Int.reduceLT, Int.reduceLE, Int.reduceToNat, reduceIte, hq, sizeLine_pos]
    show kIf (evc (.cmp .NotEq (.var 5) (.lst .nil))).tst (evc (.bin .Add (.var 5) (.slc (.var 5) .noe (.int 1)))).val (evc (.lst (.cons (.int 2) (.cons (.int 2) .nil)))).val S = _
    rw [Q.kI', ht]
    simp only [Q.b_ok]
    cases ls with
    | nil => exact lst_of (sh_cons (sh_sh rfl) (sh_cons (sh_sh rfl) sh_nil)) (by simp)
    | cons a as => exact add_l w5 hs rfl rfl (by omega)
  have c5 : (evc (.comp (.bi .str (.cons (.var 13) .nil)) (.nm 13) (.val (.var 5)) .nil [13])).val S = .ok (.fr (.lst (ls.map fun i => D.str (toString i)))) S := by
    have := kComp_map (elt := (evc (.bi .str (.cons (.var 13) .nil))).val) (tg := .nm 13) (ifs := (evl .nil).tn true) (own := [13]) (f := fun x => D.str (toString (toI x))) hi5 (fun y hy => by
      obtain ⟨i, hi, rfl⟩ := List.mem_map.mp hy
      have hb := hl2 i hi
      have hs : bi1 .str (.int i) = some (.sh (.str (toString i))) := by
        show (if i.natAbs.log2 < 1920 then _ else _) = _
        rw [if_pos ?_]
        rw [Nat.log2_lt (by omega)]
        have : i.natAbs < 2 ^ 42 := by omega
        calc i.natAbs < 2 ^ 42 := this
          _ ≤ 2 ^ 1920 := Nat.pow_le_pow_right (by decide) (by decide)
      rw [hS]
      unfold turnC
      simp only [Q.b_ok, Q.b_ex, Q.b_bd, Q.t_ok, Q.t_ex, Q.t_bd, Q.s_nx, Q.s_rt, Q.s_bk, Q.s_ct, Q.s_ex, Q.s_bd, Q.p_sm, Q.p_no, Q.r_sh, Q.r_l, Q.r_t, Q.r_d, Q.w_sh, Q.w_fr, Q.w_br, Q.d_sh, Q.d_fr, Q.d_br, Q.a_sh, Q.a_ow, Q.a_io, Q.a_lk, Q.m_ow, Q.m_io, Q.m_sh, Q.h_sh, Q.h_fr, Q.h_br, Q.c_sh, Q.c_fr, Q.c_br, Q.v_sh, Q.v_fr, Q.e_val, Q.e_tst, Q.e_io, Q.e_md, Q.kC', Q.kV', Q.kU', Q.kB', Q.kP0, Q.kP1, Q.kS', Q.kT', Q.kCh', Q.bl_s, Q.kVa, Q.kN', Q.kI', Q.kIT, Q.kAV, Q.kAT, Q.kSh, Q.kNl, Q.kCo, Q.kVw', Q.kSt, Q.kTu, Q.kLs, Q.kBi', Q.dr_n, Q.dr_c, Q.kMm', Q.kMt, Q.kMf, Q.kCa, Q.kCk, Q.cs, Q.av_n, Q.av_s, Q.av_i, Q.ai_n, Q.ai_s, Q.ai_i, Q.io_s, Q.io_i, Q.st_n, Q.st_c, Q.mu_l, Q.mu_d, Q.mu_o, Q.sa, Q.fa, Q.f_no, Q.f_sh, Q.f_ow, Q.bv, Q.ag_n, Q.ag_t, Q.an, Q.at_, Q.as_n, Q.as_c, Q.pv, Q.rt_s, Q.rt_f, Q.rt_b, Q.kIv, Q.kYs, Q.os_n, Q.os_t, Q.os_f, Q.is_t, Q.is_f, Q.is_n, Q.rs, Q.so, Q.l_int, Q.le_int, Q.g_int, Q.ge_int, Q.eq_d, Q.ne_d, Q.is_non, Q.bo', Q.tr_b, Q.tr_i, Q.tr_l, Q.ad_i, Q.sb_i, Q.ml_i, Q.fd_i, Q.md_i, Q.pw_i, Q.ad_l, Q.su_l, Q.su_t, Q.bi1', Q.i_i, Q.i_b, Q.ab_i, Q.le_l, Q.le_t, Q.li_l, Q.tu_l, Q.ng_i, Q.sx_l, Q.bm_s, exb, exs, evc, evl, evi, List.getElem?_cons_zero, List.getElem?_cons_succ, List.getElem?_nil, List.set_cons_zero, List.set_cons_succ, List.length_cons, List.length_nil, Option.bind_some, Option.bind_none, Option.map_some, Option.map_none, List.map_cons, List.map_nil, List.replicate_zero, List.replicate_succ, List.append_nil, List.cons_append, List.nil_append, Bool.not_true, Bool.not_false, Bool.false_eq_true, if_true, if_false, ite_true, ite_false, Option.isSome_some, Option.isSome_none, Bool.and_true, Bool.true_and, Bool.and_false, Bool.false_and, Bool.or_true, Bool.true_or, Bool.or_false, Bool.false_or, Nat.reduceAdd, Nat.reduceSub, Nat.sub_self, Nat.add_zero, Nat.zero_add, Nat.reduceLT, Nat.reduceLeDiff, reduceCtorEq, List.nodup_nil, List.nodup_cons, List.not_mem_nil, not_false_eq_true, and_self, and_true, true_and, decide_true, decide_false, List.tail_cons, List.headD_cons, CE.isNoe, CL.len, Bool.true_eq_false, Int.reduceLT, Int.reduceLE, Int.reduceToNat, reduceIte, wipeS, backS, Option.getD_some, hs, toI]) (by omega)
    rw [List.map_map] at this
    exact this
  have c6 : (evc (.comp (.lst (.cons (.var 13) .nil)) (.nm 13) (.val (.var 5)) .nil [13])).val S = .ok (.fr (.lst (ls.map fun i => D.lst [.int i]))) S := by
    have := kComp_map (elt := (evc (.lst (.cons (.var 13) .nil))).val) (tg := .nm 13) (ifs := (evl .nil).tn true) (own := [13]) (f := fun x => D.lst [x]) hi5 (fun y hy => by
      rw [hS]
      unfold turnC
      simp only [Q.b_ok, Q.b_ex, Q.b_bd, Q.t_ok, Q.t_ex, Q.t_bd, Q.s_nx, Q.s_rt, Q.s_bk, Q.s_ct, Q.s_ex, Q.s_bd, Q.p_sm, Q.p_no, Q.r_sh, Q.r_l, Q.r_t, Q.r_d, Q.w_sh, Q.w_fr, Q.w_br, Q.d_sh, Q.d_fr, Q.d_br, Q.a_sh, Q.a_ow, Q.a_io, Q.a_lk, Q.m_ow, Q.m_io, Q.m_sh, Q.h_sh, Q.h_fr, Q.h_br, Q.c_sh, Q.c_fr, Q.c_br, Q.v_sh, Q.v_fr, Q.e_val, Q.e_tst, Q.e_io, Q.e_md, Q.kC', Q.kV', Q.kU', Q.kB', Q.kP0, Q.kP1, Q.kS', Q.kT', Q.kCh', Q.bl_s, Q.kVa, Q.kN', Q.kI', Q.kIT, Q.kAV, Q.kAT, Q.kSh, Q.kNl, Q.kCo, Q.kVw', Q.kSt, Q.kTu, Q.kLs, Q.kBi', Q.dr_n, Q.dr_c, Q.kMm', Q.kMt, Q.kMf, Q.kCa, Q.kCk, Q.cs, Q.av_n, Q.av_s, Q.av_i, Q.ai_n, Q.ai_s, Q.ai_i, Q.io_s, Q.io_i, Q.st_n, Q.st_c, Q.mu_l, Q.mu_d, Q.mu_o, Q.sa, Q.fa, Q.f_no, Q.f_sh, Q.f_ow, Q.bv, Q.ag_n, Q.ag_t, Q.an, Q.at_, Q.as_n, Q.as_c, Q.pv, Q.rt_s, Q.rt_f, Q.rt_b, Q.kIv, Q.kYs, Q.os_n, Q.os_t, Q.os_f, Q.is_t, Q.is_f, Q.is_n, Q.rs, Q.so, Q.l_int, Q.le_int, Q.g_int, Q.ge_int, Q.eq_d, Q.ne_d, Q.is_non, Q.bo', Q.tr_b, Q.tr_i, Q.tr_l, Q.ad_i, Q.sb_i, Q.ml_i, Q.fd_i, Q.md_i, Q.pw_i, Q.ad_l, Q.su_l, Q.su_t, Q.bi1', Q.i_i, Q.i_b, Q.ab_i, Q.le_l, Q.le_t, Q.li_l, Q.tu_l, Q.ng_i, Q.sx_l, Q.bm_s, exb, exs, evc, evl, evi, List.getElem?_cons_zero, List.getElem?_cons_succ, List.getElem?_nil, List.set_cons_zero, List.set_cons_succ, List.length_cons, List.length_nil, Option.bind_some, Option.bind_none, Option.map_some, Option.map_none, List.map_cons, List.map_nil, List.replicate_zero, List.replicate_succ, List.append_nil, List.cons_append, List.nil_append, Bool.not_true, Bool.not_false, Bool.false_eq_true, if_true, if_false, ite_true, ite_false, Option.isSome_some, Option.isSome_none, Bool.and_true, Bool.true_and, Bool.and_false, Bool.false_and, Bool.or_true, Bool.true_or, Bool.or_false, Bool.false_or, Nat.reduceAdd, Nat.reduceSub, Nat.sub_self, Nat.add_zero, Nat.zero_add, Nat.reduceLT, Nat.reduceLeDiff, reduceCtorEq, List.nodup_nil, List.nodup_cons, List.not_mem_nil, not_false_eq_true, and_self, and_true, true_and, decide_true, decide_false, List.tail_cons, List.headD_cons, CE.isNoe, CL.len, Bool.true_eq_false, Int.reduceLT, Int.reduceLE, Int.reduceToNat, reduceIte, wipeS, backS, Option.getD_some, l1]) (by omega)
    rw [List.map_map] at this
    exact this
  obtain ⟨B1, hB1⟩ : ∃ B1 : List D, B1 = [.lst (ls.map D.int ++ [.int 0]), .lst ([.int (-1)] ++ ls.map D.int), .lst (if ls.isEmpty then [.int 2, .int 2] else ls.map D.int ++ cutD (ls.map D.int) none (some 1)), .lst (ls.map D.int ++ [.bl true]), .lst (ls.map (fun i => D.str (toString i)) ++ [.str "1"]), .lst (ls.map (fun i => D.lst [.int i]) ++ [.lst []])] := ⟨_, rfl⟩
  obtain ⟨B2, hB2⟩ : ∃ B2 : List D, B2 = [.non, .int 5, .str "123", .dic [.int 1] [.int 1], .lst [.lst (ls.map D.int)], .lst (ls.map D.int ++ [.non]), .tup [.tup (ls.map D.int)], .lst (ls.map (fun i => D.int (-i)) ++ [.int (-7)])] := ⟨_, rfl⟩
  have hB : B1 ++ B2 = bent ls := by rw [hB1, hB2]; rfl
  refine (exb_nx (S1 := [.sh scr, .ow d9, s2, .sh (.bl due), .sh (.int kk), .sh (.lst (ls.map D.int)), .ow (.lst (ls.map D.int)), .ow (.lst B1), .sh v, .sh (.bl w), .sh l, .sh m, .no, .no]) ?_).trans ?_
  · rw [← hS]
    refine (asg_fr (d := .lst B1) (S1 := S) ?_ (by rw [hS]; exact f7)).trans (by rw [hS]; rfl)
    rw [hB1]
    have hm1 : (evc (.neg (.int 1))).val S = .ok (.sh (.int (-1))) S := rfl
    exact lst_of (sh_cons (sh_fr (add_l w5 (lz (e := .int 0) rfl) rfl rfl (by simp; omega))) (sh_cons (sh_fr (add_l (lz hm1) w5 rfl rfl (by simp; omega))) (sh_cons (sh_fr e3) (sh_cons (sh_fr (add_l w5 (lz (e := .bl true) rfl) rfl rfl (by simp; omega)))
      (sh_cons (sh_fr (add_l c5 (lz (e := .str "1") rfl) rfl rfl (by simp; omega))) (sh_cons (sh_fr (add_l c6 (lst_of (sh_cons (sh_fr (lst_of sh_nil (by simp))) sh_nil) (by simp)) rfl rfl (by simp; omega))) sh_nil)))))) (by simp)
  -- more of them
  obtain ⟨T, hT'⟩ : ∃ T : SS, T = [.sh scr, .ow d9, s2, .sh (.bl due), .sh (.int kk), .sh (.lst (ls.map D.int)), .ow (.lst (ls.map D.int)), .ow (.lst B1), .sh v, .sh (.bl w), .sh l, .sh m, .no, .no] := ⟨_, rfl⟩
  have tw5 : (evc (.var 5)).val T = .ok (.sh (.lst (ls.map D.int))) T := by rw [hT']; rfl
  have tw7 : (evc (.var 7)).val T = .ok (.br 7) T := by rw [hT']; rfl
  have tz : ∀ {e : CE} {d : D}, (evc e).val T = .ok (.sh d) T → (evc (.lst (.cons e .nil))).val T = .ok (.fr (.lst [d])) T := fun h => lst_of (sh_cons (sh_sh h) sh_nil) (by simp)
  have ti5 : evi (.val (.var 5)) T = .ok (ls.map D.int, none) T := by rw [hT']; simp only [Q.b_ok, Q.b_ex, Q.b_bd, Q.t_ok, Q.t_ex, Q.t_bd, Q.s_nx, Q.s_rt, Q.s_bk, Q.s_ct, Q.s_ex, Q.s_bd, Q.p_sm, Q.p_no, Q.r_sh, Q.r_l, Q.r_t, Q.r_d, Q.w_sh, Q.w_fr, Q.w_br, Q.d_sh, Q.d_fr, Q.d_br, Q.a_sh, Q.a_ow, Q.a_io, Q.a_lk, Q.m_ow, Q.m_io, Q.m_sh, Q.h_sh, Q.h_fr, Q.h_br, Q.c_sh, Q.c_fr, Q.c_br, Q.v_sh, Q.v_fr, Q.e_val, Q.e_tst, Q.e_io, Q.e_md, Q.kC', Q.kV', Q.kU', Q.kB', Q.kP0, Q.kP1, Q.kS', Q.kT', Q.kCh', Q.bl_s, Q.kVa, Q.kN', Q.kI', Q.kIT, Q.kAV, Q.kAT, Q.kSh, Q.kNl, Q.kCo, Q.kVw', Q.kSt, Q.kTu, Q.kLs, Q.kBi', Q.dr_n, Q.dr_c, Q.kMm', Q.kMt, Q.kMf, Q.kCa, Q.kCk, Q.cs, Q.av_n, Q.av_s, Q.av_i, Q.ai_n, Q.ai_s, Q.ai_i, Q.io_s, Q.io_i, Q.st_n, Q.st_c, Q.mu_l, Q.mu_d, Q.mu_o, Q.sa, Q.fa, Q.f_no, Q.f_sh, Q.f_ow, Q.bv, Q.ag_n, Q.ag_t, Q.an, Q.at_, Q.as_n, Q.as_c, Q.pv, Q.rt_s, Q.rt_f, Q.rt_b, Q.kIv, Q.kYs, Q.os_n, Q.os_t, Q.os_f, Q.is_t, Q.is_f, Q.is_n, Q.rs, Q.so, Q.l_int, Q.le_int, Q.g_int, Q.ge_int, Q.eq_d, Q.ne_d, Q.is_non, Q.bo', Q.tr_b, Q.tr_i, Q.tr_l, Q.ad_i, Q.sb_i, Q.ml_i, Q.fd_i, Q.md_i, Q.pw_i, Q.ad_l, Q.su_l, Q.su_t, Q.bi1', Q.i_i, Q.i_b, Q.ab_i, Q.le_l, Q.le_t, Q.li_l, Q.tu_l, Q.ng_i, Q.sx_l, Q.bm_s, exb, exs, evc, evl, evi, List.getElem?_cons_zero, List.getElem?_cons_succ, List.getElem?_nil, List.set_cons_zero, List.set_cons_succ, List.length_cons, List.length_nil, Option.bind_some, Option.bind_none, Option.map_some, Option.map_none, List.map_cons, List.map_nil, List.replicate_zero, List.replicate_succ, List.append_nil, List.cons_append, List.nil_append, Bool.not_true, Bool.not_false, Bool.false_eq_true, if_true, if_false, ite_true, ite_false, Option.isSome_some, Option.isSome_none, Bool.and_true, Bool.true_and, Bool.and_false, Bool.false_and, Bool.or_true, Bool.true_or, Bool.or_false, Bool.false_or, Nat.reduceAdd, Nat.reduceSub, Nat.sub_self, Nat.add_zero, Nat.zero_add, Nat.reduceLT, Nat.reduceLeDiff, reduceCtorEq, List.nodup_nil, List.nodup_cons, List.not_mem_nil, not_false_eq_true, and_self, and_true, true_and, decide_true, decide_false, List.tail_cons, List.headD_cons, CE.isNoe, CL.len, Bool.true_eq_false, Int.reduceLT, Int.reduceLE, Int.reduceToNat, reduceIte, itemsOf]
  have c7 : (evc (.comp (.neg (.var 13)) (.nm 13) (.val (.var 5)) .nil [13])).val T = .ok (.fr (.lst (ls.map fun i => D.int (-i)))) T := by
    have := kComp_map (elt := (evc (.neg (.var 13))).val) (tg := .nm 13) (ifs := (evl .nil).tn true) (own := [13]) (f := fun x => D.int (-(toI x))) ti5 (fun y hy => by
      obtain ⟨i, hi, rfl⟩ := List.mem_map.mp hy
      rw [hT']
      unfold turnC
      simp only [Q.b_ok, Q.b_ex, Q.b_bd, Q.t_ok, Q.t_ex, Q.t_bd, Q.s_nx, Q.s_rt, Q.s_bk, Q.s_ct, Q.s_ex, Q.s_bd, Q.p_sm, Q.p_no, Q.r_sh, Q.r_l, Q.r_t, Q.r_d, Q.w_sh, Q.w_fr, Q.w_br, Q.d_sh, Q.d_fr, Q.d_br, Q.a_sh, Q.a_ow, Q.a_io, Q.a_lk, Q.m_ow, Q.m_io, Q.m_sh, Q.h_sh, Q.h_fr, Q.h_br, Q.c_sh, Q.c_fr, Q.c_br, Q.v_sh, Q.v_fr, Q.e_val, Q.e_tst, Q.e_io, Q.e_md, Q.kC', Q.kV', Q.kU', Q.kB', Q.kP0, Q.kP1, Q.kS', Q.kT', Q.kCh', Q.bl_s, Q.kVa, Q.kN', Q.kI', Q.kIT, Q.kAV, Q.kAT, Q.kSh, Q.kNl, Q.kCo, Q.kVw', Q.kSt, Q.kTu, Q.kLs, Q.kBi', Q.dr_n, Q.dr_c, Q.kMm', Q.kMt, Q.kMf, Q.kCa, Q.kCk, Q.cs, Q.av_n, Q.av_s, Q.av_i, Q.ai_n, Q.ai_s, Q.ai_i, Q.io_s, Q.io_i, Q.st_n, Q.st_c, Q.mu_l, Q.mu_d, Q.mu_o, Q.sa, Q.fa, Q.f_no, Q.f_sh, Q.f_ow, Q.bv, Q.ag_n, Q.ag_t, Q.an, Q.at_, Q.as_n, Q.as_c, Q.pv, Q.rt_s, Q.rt_f, Q.rt_b, Q.kIv, Q.kYs, Q.os_n, Q.os_t, Q.os_f, Q.is_t, Q.is_f, Q.is_n, Q.rs, Q.so, Q.l_int, Q.le_int, Q.g_int, Q.ge_int, Q.eq_d, Q.ne_d, Q.is_non, Q.bo', Q.tr_b, Q.tr_i, Q.tr_l, Q.ad_i, Q.sb_i, Q.ml_i, Q.fd_i, Q.md_i, Q.pw_i, Q.ad_l, Q.su_l, Q.su_t, Q.bi1', Q.i_i, Q.i_b, Q.ab_i, Q.le_l, Q.le_t, Q.li_l, Q.tu_l, Q.ng_i, Q.sx_l, Q.bm_s, exb, exs, evc, evl, evi, List.getElem?_cons_zero, List.getElem?_cons_succ, List.getElem?_nil, List.set_cons_zero, List.set_cons_succ, List.length_cons, List.length_nil, Option.bind_some, Option.bind_none, Option.map_some, Option.map_none, List.map_cons, List.map_nil, List.replicate_zero, List.replicate_succ, List.append_nil, List.cons_append, List.nil_append, Bool.not_true, Bool.not_false, Bool.false_eq_true, if_true, if_false, ite_true, ite_false, Option.isSome_some, Option.isSome_none, Bool.and_true, Bool.true_and, Bool.and_false, Bool.false_and, Bool.or_true, Bool.true_or, Bool.or_false, Bool.false_or, Nat.reduceAdd, Nat.reduceSub, Nat.sub_self, Nat.add_zero, Nat.zero_add, Nat.reduceLT, Nat.reduceLeDiff, reduceCtorEq, List.nodup_nil, List.nodup_cons, List.not_mem_nil, not_false_eq_true, and_self, and_true, true_and, decide_true, decide_false, List.tail_cons, List.headD_cons, CE.isNoe, CL.len, Bool.true_eq_false, Int.reduceLT, Int.reduceLE, Int.reduceToNat, reduceIte, wipeS, backS, Option.getD_some, toI]) (by omega)
    rw [List.map_map] at this
    exact this
  have tt : (evc (.tup (.cons (.bi .tuple (.cons (.var 5) .nil)) .nil))).val T = .ok (.sh (.tup [.tup (ls.map D.int)])) T := by
    rw [hT']
    simp only [Q.b_ok, Q.b_ex, Q.b_bd, Q.t_ok, Q.t_ex, Q.t_bd, Q.s_nx, Q.s_rt, Q.s_bk, Q.s_ct, Q.s_ex, Q.s_bd, Q.p_sm, Q.p_no, Q.r_sh, Q.r_l, Q.r_t, Q.r_d, Q.w_sh, Q.w_fr, Q.w_br, Q.d_sh, Q.d_fr, Q.d_br, Q.a_sh, Q.a_ow, Q.a_io, Q.a_lk, Q.m_ow, Q.m_io, Q.m_sh, Q.h_sh, Q.h_fr, Q.h_br, Q.c_sh, Q.c_fr, Q.c_br, Q.v_sh, Q.v_fr, Q.e_val, Q.e_tst, Q.e_io, Q.e_md, Q.kC', Q.kV', Q.kU', Q.kB', Q.kP0, Q.kP1, Q.kS', Q.kT', Q.kCh', Q.bl_s, Q.kVa, Q.kN', Q.kI', Q.kIT, Q.kAV, Q.kAT, Q.kSh, Q.kNl, Q.kCo, Q.kVw', Q.kSt, Q.kTu, Q.kLs, Q.kBi', Q.dr_n, Q.dr_c, Q.kMm', Q.kMt, Q.kMf, Q.kCa, Q.kCk, Q.cs, Q.av_n, Q.av_s, Q.av_i, Q.ai_n, Q.ai_s, Q.ai_i, Q.io_s, Q.io_i, Q.st_n, Q.st_c, Q.mu_l, Q.mu_d, Q.mu_o, Q.sa, Q.fa, Q.f_no, Q.f_sh, Q.f_ow, Q.bv, Q.ag_n, Q.ag_t, Q.an, Q.at_, Q.as_n, Q.as_c, Q.pv, Q.rt_s, Q.rt_f, Q.rt_b, Q.kIv, Q.kYs, Q.os_n, Q.os_t, Q.os_f, Q.is_t, Q.is_f, Q.is_n, Q.rs, Q.so, Q.l_int, Q.le_int, Q.g_int, Q.ge_int, Q.eq_d, Q.ne_d, Q.is_non, Q.bo', Q.tr_b, Q.tr_i, Q.tr_l, Q.ad_i, Q.sb_i, Q.ml_i, Q.fd_i, Q.md_i, Q.pw_i, Q.ad_l, Q.su_l, Q.su_t, Q.bi1', Q.i_i, Q.i_b, Q.ab_i, Q.le_l, Q.le_t, Q.li_l, Q.tu_l, Q.ng_i, Q.sx_l, Q.bm_s, exb, exs, evc, evl, evi, List.getElem?_cons_zero, List.getElem?_cons_succ, List.getElem?_nil, List.set_cons_zero, List.set_cons_succ, List.length_cons, List.length_nil, Option.bind_some, Option.bind_none, Option.map_some, Option.map_none, List.map_cons, List.map_nil, List.replicate_zero, List.replicate_succ, List.append_nil, List.cons_append, List.nil_append, Bool.not_true, Bool.not_false, Bool.false_eq_true, if_true, if_false, ite_true, ite_false, Option.isSome_some, Option.isSome_none, Bool.and_true, Bool.true_and, Bool.and_false, Bool.false_and, Bool.or_true, Bool.true_or, Bool.or_false, Bool.false_or, Nat.reduceAdd, Nat.reduceSub, Nat.sub_self, Nat.add_zero, Nat.zero_add, Nat.reduceLT, Nat.reduceLeDiff, reduceCtorEq, List.nodup_nil, List.nodup_cons, List.not_mem_nil, not_false_eq_true, and_self, and_true, true_and, decide_true, decide_false, List.tail_cons, List.headD_cons, CE.isNoe, CL.len, Bool.true_eq_false, Int.reduceLT, Int.reduceLE, Int.reduceToNat, reduceIte, l1]
  have td : (evc (.dic1 (.int 1) (.int 1))).val T = .ok (.fr (.dic [.int 1] [.int 1])) T := rfl
  have tn7 : (evc (.neg (.int 7))).val T = .ok (.sh (.int (-7))) T := rfl
  refine (exb_nx (S1 := [.sh scr, .ow d9, s2, .sh (.bl due), .sh (.int kk), .sh (.lst (ls.map D.int)), .ow (.lst (ls.map D.int)), .ow (.lst (bent ls)), .sh v, .sh (.bl w), .sh l, .sh m, .no, .no]) ?_).trans ?_
  · rw [← hT']
    refine (asg_fr (d := .lst (bent ls)) (S1 := T) ?_ (by rw [hT']; rfl)).trans (by rw [hT']; rfl)
    rw [← hB]
    refine add_l (S1 := T) (S2 := T) (xs := B1) (ys := B2) (t := .fr (.lst B2)) tw7 ?_ (by rw [hT']; rfl) rfl (by rw [hB1, hB2]; simp)
    rw [hB2]
    exact lst_of (sh_cons (sh_sh rfl) (sh_cons (sh_sh rfl) (sh_cons (sh_sh rfl) (sh_cons (sh_fr td) (sh_cons (sh_fr (tz tw5)) (sh_cons (sh_fr (add_l tw5 (tz (e := .non) rfl) rfl rfl (by simp; omega))) (sh_cons (sh_sh tt) (sh_cons (sh_fr (add_l c7 (tz tn7) rfl rfl (by simp; omega))) sh_nil)))))))) (by simp)
  -- none of them is a lot
  refine (exb_nx (S1 := [.sh scr, .ow d10, s2, .sh (.bl due), .sh (.int kk), .sh (.lst (ls.map D.int)), .ow (.lst (ls.map D.int)), .sh (.lst (bent ls)), .sh v, .sh (.bl w), .sh l, .sh m, .no, .no]) ?_).trans ?_
  · simp only [Q.b_ok, Q.b_ex, Q.b_bd, Q.t_ok, Q.t_ex, Q.t_bd, Q.s_nx, Q.s_rt, Q.s_bk, Q.s_ct, Q.s_ex, Q.s_bd, Q.p_sm, Q.p_no, Q.r_sh, Q.r_l, Q.r_t, Q.r_d, Q.w_sh, Q.w_fr, Q.w_br, Q.d_sh, Q.d_fr, Q.d_br, Q.a_sh, Q.a_ow, Q.a_io, Q.a_lk, Q.m_ow, Q.m_io, Q.m_sh, Q.h_sh, Q.h_fr, Q.h_br, Q.c_sh, Q.c_fr, Q.c_br, Q.v_sh, Q.v_fr, Q.e_val, Q.e_tst, Q.e_io, Q.e_md, Q.kC', Q.kV', Q.kU', Q.kB', Q.kP0, Q.kP1, Q.kS', Q.kT', Q.kCh', Q.bl_s, Q.kVa, Q.kN', Q.kI', Q.kIT, Q.kAV, Q.kAT, Q.kSh, Q.kNl, Q.kCo, Q.kVw', Q.kSt, Q.kTu, Q.kLs, Q.kBi', Q.dr_n, Q.dr_c, Q.kMm', Q.kMt, Q.kMf, Q.kCa, Q.kCk, Q.cs, Q.av_n, Q.av_s, Q.av_i, Q.ai_n, Q.ai_s, Q.ai_i, Q.io_s, Q.io_i, Q.st_n, Q.st_c, Q.mu_l, Q.mu_d, Q.mu_o, Q.sa, Q.fa, Q.f_no, Q.f_sh, Q.f_ow, Q.bv, Q.ag_n, Q.ag_t, Q.an, Q.at_, Q.as_n, Q.as_c, Q.pv, Q.rt_s, Q.rt_f, Q.rt_b, Q.kIv, Q.kYs, Q.os_n, Q.os_t, Q.os_f, Q.is_t, Q.is_f, Q.is_n, Q.rs, Q.so, Q.l_int, Q.le_int, Q.g_int, Q.ge_int, Q.eq_d, Q.ne_d, Q.is_non, Q.bo', Q.tr_b, Q.tr_i, Q.tr_l, Q.ad_i, Q.sb_i, Q.ml_i, Q.fd_i, Q.md_i, Q.pw_i, Q.ad_l, Q.su_l, Q.su_t, Q.bi1', Q.i_i, Q.i_b, Q.ab_i, Q.le_l, Q.le_t, Q.li_l, Q.tu_l, Q.ng_i, Q.sx_l, Q.bm_s, exb, exs, evc, evl, evi, List.getElem?_cons_zero, List.getElem?_cons_succ, List.getElem?_nil, List.set_cons_zero, List.set_cons_succ, List.length_cons, List.length_nil, Option.bind_some, Option.bind_none, Option.map_some, Option.map_none, List.map_cons, List.map_nil, List.replicate_zero, List.replicate_succ, List.append_nil, List.cons_append, List.nil_append, Bool.not_true, Bool.not_false, Bool.false_eq_true, if_true, if_false, ite_true, ite_false, Option.isSome_some, Option.isSome_none, Bool.and_true, Bool.true_and, Bool.and_false, Bool.false_and, Bool.or_true, Bool.true_or, Bool.or_false, Bool.false_or, Nat.reduceAdd, Nat.reduceSub, Nat.sub_self, Nat.add_zero, Nat.zero_add, Nat.reduceLT, Nat.reduceLeDiff, reduceCtorEq, List.nodup_nil, List.nodup_cons, List.not_mem_nil, not_false_eq_true, and_self, and_true, true_and, decide_true, decide_false, List.tail_cons, List.headD_cons, CE.isNoe, CL.len, Bool.true_eq_false, Int.reduceLT, Int.reduceLE, Int.reduceToNat, reduceIte, h10, hx, m2, m6, u10, isnot_ff]
  · rfl

/-! ### the law -/
def Iv (scr : D) (n : Nat) (S : SS) : Prop := ∃ d s2 s3 s4 s5 s6 s7 s8 s9 s10 s11, S = [.sh scr, .ow d, s2, s3, s4, s5, s6, s7, s8, s9, s10, s11, .no, .no] ∧ TubOk n d ∧ frO (some s2) = true ∧ frO (some s3) = true ∧ frO (some s4) = true ∧ frO (some s5) = true ∧ frO (some s6) = true ∧ frO (some s7) = true ∧ frO (some s8) = true ∧ frO (some s9) = true ∧ frO (some s10) = true ∧ frO (some s11) = true
theorem turns (scr : D) (xs : List D) : ∀ (n : Nat) (S : SS), Iv scr n S → n + 100 * xs.length ≤ 2500 → ∃ S', forF (.nm 2) (exb bodyB) xs S = .nx S' ∧ Iv scr (n + 100 * xs.length) S' := by
  induction xs with
  | nil => intro n S h _; exact ⟨S, rfl, h⟩
  | cons x xs ih =>
    rintro n S ⟨d, s2, s3, s4, s5, s6, s7, s8, s9, s10, s11, rfl, tok, f2, f3, f4, f5, f6, f7, f8, f9, f10, f11⟩ hn
    have hn' : n + 100 * (xs.length + 1) ≤ 2500 := hn
    obtain ⟨d', x3, x4, x5, x6, x7, x8, x9, x10, x11, hb, t'⟩ := body_ok (scr := scr) (s2 := .sh x) tok (by omega) f3 f4 f5 f6 f7 f8 f9 f10 f11
    obtain ⟨S', h1, h2⟩ := ih (n + 100) [.sh scr, .ow d', .sh x, .sh x3, .sh x4, .sh x5, .ow x6, .sh x7, .sh x8, .sh x9, .sh x10, .sh x11, .no, .no] ⟨d', .sh x, .sh x3, .sh x4, .sh x5, .ow x6, .sh x7, .sh x8, .sh x9, .sh x10, .sh x11, rfl, t', rfl, rfl, rfl, rfl, rfl, rfl, rfl, rfl, rfl, rfl⟩ (by omega)
    refine ⟨S', (for_nx (S1 := [.sh scr, .ow d, .sh x, s3, s4, s5, s6, s7, s8, s9, s10, s11, .no, .no]) ?_ hb).trans h1, (show n + 100 * (xs.length + 1) = n + 100 + 100 * xs.length by omega) ▸ h2⟩
    have ff : freeAt [SV.sh scr, .ow d, s2, s3, s4, s5, s6, s7, s8, s9, s10, s11, .no, .no] 2 = true := f2
    rw [Q.an, if_pos ff]
    rfl
theorem holds : ∀ ns : List Int, ns.length ≤ 63 → ∃ outs, g_law.m [.scr (ns.map D.int)] = .ok false (.bl true) outs := by
  intro ns hl
  obtain ⟨c, hc⟩ := makes.2 ns (by omega)
  have m0 : g__law_tub.md = [false] := rfl
  have m6 : g_is_lot.md = [false] := rfl
  obtain ⟨S', h1, ⟨d, s2, s3, s4, s5, s6, s7, s8, s9, s10, s11, rfl, _⟩⟩ := turns (.scr (ns.map D.int)) (rangeD 0 5) 0 [.sh (.scr (ns.map D.int)), .ow (Tub c 0 0), .no, .no, .no, .no, .no, .no, .no, .no, .no, .no, .no, .no] ⟨Tub c 0 0, .no, .no, .no, .no, .no, .no, .no, .no, .no, .no, rfl, ⟨c, 0, 0, rfl, by decide, by decide, by decide⟩, rfl, rfl, rfl, rfl, rfl, rfl, rfl, rfl, rfl, rfl⟩ (by decide)
  refine ⟨[], runS_rt (n := 14) (ds := [.scr (ns.map D.int)]) (b := exb b_law) (ms := [false]) (o := []) (S := [.sh (.scr (ns.map D.int)), .ow d, s2, s3, s4, s5, s6, s7, s8, s9, s10, s11, .no, .no]) rfl ?_ rfl⟩
  have e0 : slotsOf 14 [false] [.scr (ns.map D.int)] = [.sh (.scr (ns.map D.int)), .no, .no, .no, .no, .no, .no, .no, .no, .no, .no, .no, .no, .no] := rfl
  rw [e0]
  refine (exb_nx (S1 := [.sh (.scr (ns.map D.int)), .ow (Tub c 0 0), .no, .no, .no, .no, .no, .no, .no, .no, .no, .no, .no, .no]) ?_).trans ?_
  · simp only [Q.b_ok, Q.b_ex, Q.b_bd, Q.t_ok, Q.t_ex, Q.t_bd, Q.s_nx, Q.s_rt, Q.s_bk, Q.s_ct, Q.s_ex, Q.s_bd, Q.p_sm, Q.p_no, Q.r_sh, Q.r_l, Q.r_t, Q.r_d, Q.w_sh, Q.w_fr, Q.w_br, Q.d_sh, Q.d_fr, Q.d_br, Q.a_sh, Q.a_ow, Q.a_io, Q.a_lk, Q.m_ow, Q.m_io, Q.m_sh, Q.h_sh, Q.h_fr, Q.h_br, Q.c_sh, Q.c_fr, Q.c_br, Q.v_sh, Q.v_fr, Q.e_val, Q.e_tst, Q.e_io, Q.e_md, Q.kC', Q.kV', Q.kU', Q.kB', Q.kP0, Q.kP1, Q.kS', Q.kT', Q.kCh', Q.bl_s, Q.kVa, Q.kN', Q.kI', Q.kIT, Q.kAV, Q.kAT, Q.kSh, Q.kNl, Q.kCo, Q.kVw', Q.kSt, Q.kTu, Q.kLs, Q.kBi', Q.dr_n, Q.dr_c, Q.kMm', Q.kMt, Q.kMf, Q.kCa, Q.kCk, Q.cs, Q.av_n, Q.av_s, Q.av_i, Q.ai_n, Q.ai_s, Q.ai_i, Q.io_s, Q.io_i, Q.st_n, Q.st_c, Q.mu_l, Q.mu_d, Q.mu_o, Q.sa, Q.fa, Q.f_no, Q.f_sh, Q.f_ow, Q.bv, Q.ag_n, Q.ag_t, Q.an, Q.at_, Q.as_n, Q.as_c, Q.pv, Q.rt_s, Q.rt_f, Q.rt_b, Q.kIv, Q.kYs, Q.os_n, Q.os_t, Q.os_f, Q.is_t, Q.is_f, Q.is_n, Q.rs, Q.so, Q.l_int, Q.le_int, Q.g_int, Q.ge_int, Q.eq_d, Q.ne_d, Q.is_non, Q.bo', Q.tr_b, Q.tr_i, Q.tr_l, Q.ad_i, Q.sb_i, Q.ml_i, Q.fd_i, Q.md_i, Q.pw_i, Q.ad_l, Q.su_l, Q.su_t, Q.bi1', Q.i_i, Q.i_b, Q.ab_i, Q.le_l, Q.le_t, Q.li_l, Q.tu_l, Q.ng_i, Q.sx_l, Q.bm_s, exb, exs, evc, evl, evi, List.getElem?_cons_zero, List.getElem?_cons_succ, List.getElem?_nil, List.set_cons_zero, List.set_cons_succ, List.length_cons, List.length_nil, Option.bind_some, Option.bind_none, Option.map_some, Option.map_none, List.map_cons, List.map_nil, List.replicate_zero, List.replicate_succ, List.append_nil, List.cons_append, List.nil_append, Bool.not_true, Bool.not_false, Bool.false_eq_true, if_true, if_false, ite_true, ite_false, Option.isSome_some, Option.isSome_none, Bool.and_true, Bool.true_and, Bool.and_false, Bool.false_and, Bool.or_true, Bool.true_or, Bool.or_false, Bool.false_or, Nat.reduceAdd, Nat.reduceSub, Nat.sub_self, Nat.add_zero, Nat.zero_add, Nat.reduceLT, Nat.reduceLeDiff, reduceCtorEq, List.nodup_nil, List.nodup_cons, List.not_mem_nil, not_false_eq_true, and_self, and_true, true_and, decide_true, decide_false, List.tail_cons, List.headD_cons, CE.isNoe, CL.len, Bool.true_eq_false, Int.reduceLT, Int.reduceLE, Int.reduceToNat, reduceIte, hc, m0]
  refine (exb_nx (exs_for (u := none) (S1 := [.sh (.scr (ns.map D.int)), .ow (Tub c 0 0), .no, .no, .no, .no, .no, .no, .no, .no, .no, .no, .no, .no]) rfl h1)).trans ?_
  refine exb_rt ?_
  have q1 : g_is_lot.m [.lst []] = .ok false (.bl true) [] := lot_ints false [] (by simp) (by decide)
  have q2 : g_is_lot.m [.lst [.int (10 ^ (40 : Int).toNat), .int 1]] = .ok false (.bl true) [] := lot_ints false [10 ^ (40 : Int).toNat, 1] (by decide) (by decide)
  have i1 : cmpD .Is (.bl true) (.bl true) = some (.sh (.bl true)) := rfl
  have l2 : (2 ≤ sizeLine) = True := eq_true (by rw [sizeLine_eq]; decide)
  have p1 : (0 ≤ (40 : Int)) = True := by simp
  have p2 : ((40 : Int) ≤ 1000000) = True := by simp
  have p3 : ((10 : Int).natAbs < 2 ^ 64) = True := by simp
  simp only [Q.b_ok, Q.b_ex, Q.b_bd, Q.t_ok, Q.t_ex, Q.t_bd, Q.s_nx, Q.s_rt, Q.s_bk, Q.s_ct, Q.s_ex, Q.s_bd, Q.p_sm, Q.p_no, Q.r_sh, Q.r_l, Q.r_t, Q.r_d, Q.w_sh, Q.w_fr, Q.w_br, Q.d_sh, Q.d_fr, Q.d_br, Q.a_sh, Q.a_ow, Q.a_io, Q.a_lk, Q.m_ow, Q.m_io, Q.m_sh, Q.h_sh, Q.h_fr, Q.h_br, Q.c_sh, Q.c_fr, Q.c_br, Q.v_sh, Q.v_fr, Q.e_val, Q.e_tst, Q.e_io, Q.e_md, Q.kC', Q.kV', Q.kU', Q.kB', Q.kP0, Q.kP1, Q.kS', Q.kT', Q.kCh', Q.bl_s, Q.kVa, Q.kN', Q.kI', Q.kIT, Q.kAV, Q.kAT, Q.kSh, Q.kNl, Q.kCo, Q.kVw', Q.kSt, Q.kTu, Q.kLs, Q.kBi', Q.dr_n, Q.dr_c, Q.kMm', Q.kMt, Q.kMf, Q.kCa, Q.kCk, Q.cs, Q.av_n, Q.av_s, Q.av_i, Q.ai_n, Q.ai_s, Q.ai_i, Q.io_s, Q.io_i, Q.st_n, Q.st_c, Q.mu_l, Q.mu_d, Q.mu_o, Q.sa, Q.fa, Q.f_no, Q.f_sh, Q.f_ow, Q.bv, Q.ag_n, Q.ag_t, Q.an, Q.at_, Q.as_n, Q.as_c, Q.pv, Q.rt_s, Q.rt_f, Q.rt_b, Q.kIv, Q.kYs, Q.os_n, Q.os_t, Q.os_f, Q.is_t, Q.is_f, Q.is_n, Q.rs, Q.so, Q.l_int, Q.le_int, Q.g_int, Q.ge_int, Q.eq_d, Q.ne_d, Q.is_non, Q.bo', Q.tr_b, Q.tr_i, Q.tr_l, Q.ad_i, Q.sb_i, Q.ml_i, Q.fd_i, Q.md_i, Q.pw_i, Q.ad_l, Q.su_l, Q.su_t, Q.bi1', Q.i_i, Q.i_b, Q.ab_i, Q.le_l, Q.le_t, Q.li_l, Q.tu_l, Q.ng_i, Q.sx_l, Q.bm_s, exb, exs, evc, evl, evi, List.getElem?_cons_zero, List.getElem?_cons_succ, List.getElem?_nil, List.set_cons_zero, List.set_cons_succ, List.length_cons, List.length_nil, Option.bind_some, Option.bind_none, Option.map_some, Option.map_none, List.map_cons, List.map_nil, List.replicate_zero, List.replicate_succ, List.append_nil, List.cons_append, List.nil_append, Bool.not_true, Bool.not_false, Bool.false_eq_true, if_true, if_false, ite_true, ite_false, Option.isSome_some, Option.isSome_none, Bool.and_true, Bool.true_and, Bool.and_false, Bool.false_and, Bool.or_true, Bool.true_or, Bool.or_false, Bool.false_or, Nat.reduceAdd, Nat.reduceSub, Nat.sub_self, Nat.add_zero, Nat.zero_add, Nat.reduceLT, Nat.reduceLeDiff, reduceCtorEq, List.nodup_nil, List.nodup_cons, List.not_mem_nil, not_false_eq_true, and_self, and_true, true_and, decide_true, decide_false, List.tail_cons, List.headD_cons, CE.isNoe, CL.len, Bool.true_eq_false, Int.reduceLT, Int.reduceLE, Int.reduceToNat, reduceIte, q1, q2, i1, m6, l2, p1, p2, p3, sizeLine_pos, unlock, -Int.reduceToNat, -Int.reducePow]
end LK02
open PySem PySem.W PyProof.Rows
set_option maxHeartbeats 0 in
theorem PySem.Challenge.cw_threelanes_k02_integers_and_lots_holds : PySem.Challenge.rw_threelanes_k02_integers_and_lots.Holds := by
  w_on; o_law; k_head; (case hw => w_witness2)
  k_fill
  refine Eng.walkG (l := PySem.Challenge.rw_threelanes_k02_integers_and_lots) (n := 63) (k := 4) (x := "_law_script") (c := fun _ _ => 0) (sg := LK02.g_law) rfl (by decide) rfl rfl ⟨rfl, by decide, by decide⟩ (fun w h Y => PySem.W.kIn_of Y) rfl ?F LK02.holds
  case F =>
    intro w mg fa h KX G hmg
    refine' LK02.all_mk KX G hmg ?a0 ?l0 ?c0 ?k0 ?a1 ?l1 ?c1 ?k1 ?a2 ?l2 ?c2 ?k2 ?a3 ?l3 ?c3 ?k3 ?a4 ?l4 ?c4 ?k4 ?a5 ?l5 ?c5 ?k5 ?a6 ?l6 ?c6 ?k6 ?a7 ?l7 ?c7 ?k7 ?a8 ?l8 ?c8 ?k8 ?z0 ?z1 ?z2 ?z3 ?z4 ?z5 ?z6 ?z7 ?z8 ?z9 ?z10 ?z11 ?z12 ?z13 ?z14 ?z15 ?z16 ?z17 ?z18 ?z19
    case a0 => k_is
    case l0 => k_is
    case c0 => k_is
    case k0 => k_is
    case a1 => k_is
    case l1 => k_is
    case c1 => k_is
    case k1 => k_is
    case a2 => k_is
    case l2 => k_is
    case c2 => k_is
    case k2 => k_is
    case a3 => k_is
    case l3 => k_is
    case c3 => k_is
    case k3 => k_is
    case a4 => k_is
    case l4 => k_is
    case c4 => k_is
    case k4 => k_is
    case a5 => k_is
    case l5 => k_is
    case c5 => k_is
    case k5 => k_is
    case a6 => k_is
    case l6 => k_is
    case c6 => k_is
    case k6 => k_is
    case a7 => k_is
    case l7 => k_is
    case c7 => k_is
    case k7 => k_is
    case a8 => k_is
    case l8 => k_is
    case c8 => k_is
    case k8 => k_is
    case z0 => k_is
    case z1 => k_is
    case z2 => k_is
    case z3 => k_is
    case z4 => k_is
    case z5 => k_is
    case z6 => k_is
    case z7 => k_is
    case z8 => k_is
    case z9 => k_is
    case z10 => k_is
    case z11 => k_is
    case z12 => k_is
    case z13 => k_is
    case z14 => k_is
    case z15 => k_is
    case z16 => k_is
    case z17 => k_is
    case z18 => k_is
    case z19 => k_is
