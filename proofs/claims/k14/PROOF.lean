import PyProof.Rows.All
import HandS.ForMost
import HandS.Wide
import HandS.WideBits
import HandS.Gcd
import HandS.IsInst
import HandS.Style
import HandS.Conv
import HandS.Exc
import HandS.TryOnly
import HandS.WordsExc
import HandS.ExcIs
import KE.SortData
import HandS.Defaults
import HandS.Head0
import HandS.Head1
import HandS.Head2
import HandS.Head3
import HandS.HeadEnd
import HandS.HeadHook1
import HandS.HeadHook2
import HandS.Deep
import HandS.DictComp
import HandS.Dict
import PySem.Challenge.RW_otherhow_k14_mixes_judged
set_option Elab.async false
set_option linter.all false
set_option maxRecDepth 100000
set_option maxHeartbeats 4000000
/-! Values of a program as plain data, and how the abstract heap bears them. -/
namespace Ev
open PySem PySem.Spec PyProof.Rows L2

/-- plain data: what may be shared, never changed -/
inductive D where
  | non
  | bl (b : Bool)
  | int (i : Int)
  | str (x : Str)
  | lst (xs : List D)
  | tup (xs : List D)
  | rol (xs : List D)
  | obj (c : Nat) (fs : List D)
  | dct (ks : List Int) (xs : List D)
  deriving Inhabited

/-- what a name holds: shared data, or a tree of lists that nothing else reaches -/
inductive M where
  | frz (d : D)
  | fl (ds : List D)
  | lst (ms : List M)
  | tup (ms : List M)
  | obj (c : Nat) (ms : List M)
  deriving Inhabited

mutual
def M.toD : M → D
  | .frz d => d
  | .fl ds => .lst ds
  | .lst ms => .lst (M.toDs ms)
  | .tup ms => .tup (M.toDs ms)
  | .obj c ms => .obj c (M.toDs ms)
def M.toDs : List M → List D
  | [] => []
  | m :: ms => m.toD :: M.toDs ms
end

mutual
def D.flat : D → Bool
  | .non => true
  | .bl _ => true
  | .int _ => true
  | .str _ => true
  | .tup ds => D.flats ds
  | _ => false
def D.flats : List D → Bool
  | [] => true
  | d :: ds => d.flat && D.flats ds
end
mutual
def M.ff : M → Bool
  | .frz d => d.flat
  | .fl ds => D.flats ds
  | .lst ms => M.ffs ms
  | .tup ms => M.ffs ms
  | .obj _ ms => M.ffs ms
def M.ffs : List M → Bool
  | [] => true
  | m :: ms => m.ff && M.ffs ms
end

/-- the attributes of the classes in order -/
def fsOf : Nat → List Str
  | 0 => ["names", "words", "heard"]
  | 1 => ["house", "sentences", "tables", "ways"]
  | 2 => ["house", "_names", "_tables", "_said", "_asked", "_taken"]
  | _ => []
def clsNm : Nat → String
  | 0 => "House"
  | 1 => "Data"
  | _ => "Desk"
/-- the classes: where each stands, how many there are -/
structure Kls where
  at_ : Nat → Addr
  n : Nat

variable {K : PySem.W.Frag} {C : Kls}

def RoL (K : PySem.W.Frag) (H : Hp) (a : Addr) (xs : List V) : Prop := (∃ o, H a = some (.frz o (.lst xs))) ∨
    ∃ (o : Obj) (its : Array Value) (n : Nat), K.lookup a = some o ∧ o.cls = .type "list" ∧ o.dict = none ∧ o.data = .seq its n ∧ its.size ≤ sizeLine ∧ Vals xs its.toList

mutual
inductive RD (K : PySem.W.Frag) (C : Kls) (H : Hp) (S : Addr → Prop) : V → D → Prop
  | non : RD K C H S .non .non
  | bl (b : Bool) : RD K C H S (.bl b) (.bl b)
  | int (i : Int) : RD K C H S (.int i) (.int i)
  | str (x : Str) : RD K C H S (.str x) (.str x)
  | lst {a : Addr} {vs : List V} {ds : List D} : S a → H a = some (.lst vs) → RDs K C H S vs ds → RD K C H S (.ref a) (.lst ds)
  | tup {a : Addr} {vs : List V} {ds : List D} : SqT K H a vs → RDs K C H S vs ds → RD K C H S (.ref a) (.tup ds)
  | rol {a : Addr} {vs : List V} {ds : List D} : RoL K H a vs → RDs K C H S vs ds → RD K C H S (.ref a) (.rol ds)
  | obj {a : Addr} {c : Nat} {dx : Addr} {fs : List (Str × V)} {ds : List D} : S a → H a = some (.ins (C.at_ c) dx fs) → (c < C.n ∧ fs.map (·.1) = fsOf c) → RDs K C H S (fs.map (·.2)) ds →
      RD K C H S (.ref a) (.obj c ds)
  | dct {a : Addr} {kvs : List (Key × V)} {ks : List Int} {ds : List D} : S a → H a = some (.dK kvs) → kvs.map (·.1) = ks.map Sum.inl → RDs K C H S (kvs.map (·.2)) ds → RD K C H S (.ref a) (.dct ks ds)
inductive RDs (K : PySem.W.Frag) (C : Kls) (H : Hp) (S : Addr → Prop) : List V → List D → Prop
  | nil : RDs K C H S [] []
  | cons {v : V} {vs : List V} {d : D} {ds : List D} : RD K C H S v d → RDs K C H S vs ds → RDs K C H S (v :: vs) (d :: ds)
end
mutual
inductive RM (K : PySem.W.Frag) (C : Kls) (H : Hp) (S : Addr → Prop) : V → M → List Addr → Prop
  | frz {v : V} {d : D} : RD K C H S v d → RM K C H S v (.frz d) []
  | fl {a : Addr} {vs : List V} {ds : List D} : H a = some (.lst vs) → RDs K C H S vs ds → RM K C H S (.ref a) (.fl ds) [a]
  | lst {a : Addr} {vs : List V} {ms : List M} {A : List Addr} : H a = some (.lst vs) → RMs K C H S vs ms A → RM K C H S (.ref a) (.lst ms) (a :: A)
  | tup {a : Addr} {vs : List V} {ms : List M} {A : List Addr} : SqT K H a vs → RMs K C H S vs ms A → RM K C H S (.ref a) (.tup ms) A
  | obj {a : Addr} {c : Nat} {dx : Addr} {fs : List (Str × V)} {ms : List M} {A : List Addr} : H a = some (.ins (C.at_ c) dx fs) → (c < C.n ∧ fs.map (·.1) = fsOf c) → RMs K C H S (fs.map (·.2)) ms A →
      RM K C H S (.ref a) (.obj c ms) (a :: A)
inductive RMs (K : PySem.W.Frag) (C : Kls) (H : Hp) (S : Addr → Prop) : List V → List M → List Addr → Prop
  | nil : RMs K C H S [] [] []
  | cons {v : V} {vs : List V} {m : M} {ms : List M} {A B : List Addr} : RM K C H S v m A → RMs K C H S vs ms B → RMs K C H S (v :: vs) (m :: ms) (A ++ B)
end

/-- what stays from one heap to another: the objects in S, all tuples, all that is frozen -/
structure Kp (S : Addr → Prop) (H H' : Hp) : Prop where
  set : ∀ a o, S a → H a = some o → H' a = some o
  tup : ∀ a xs, H a = some (.tup xs) → H' a = some (.tup xs)
  frz : ∀ a o u, H a = some (.frz o u) → H' a = some (.frz o u)
theorem Kp.of_same {S : Addr → Prop} {H H' : Hp} (h : Same H H') : Kp S H H' := ⟨fun a o _ e => h a o e, fun a _ e => h a _ e, fun a _ _ e => h a _ e⟩
theorem Kp.imp {S T : Addr → Prop} {H H' : Hp} (k : Kp S H H') (h : ∀ a, T a → S a) : Kp T H H' := ⟨fun a o s e => k.set a o (h a s) e, k.tup, k.frz⟩
/-- a list or an instance that is not in S is written -/
theorem Kp.upd {S : Addr → Prop} {H : Hp} {p : Addr} {o u : HO} (e : H p = some o) (ho : isObj o = true) (hs : ¬ S p) : Kp S H (upd H p u) := by
  have nt : ∀ a x, H a = some x → isObj x = false → a ≠ p := fun a x q n z => by
    subst z; rw [e] at q; cases q; rw [ho] at n; cases n
  refine ⟨fun a o' s q => ?_, fun a xs q => ?_, fun a o' u' q => ?_⟩
  · rw [upd_ne (fun z => hs (by rw [← z]; exact s))]; exact q
  · rw [upd_ne (nt a _ q rfl)]; exact q
  · rw [upd_ne (nt a _ q rfl)]; exact q
theorem Kp.trans {S : Addr → Prop} {H H1 H2 : Hp} (k : Kp S H H1) (l : Kp S H1 H2) : Kp S H H2 :=
  ⟨fun a o s e => l.set a o s (k.set a o s e), fun a xs e => l.tup a xs (k.tup a xs e), fun a o u e => l.frz a o u (k.frz a o u e)⟩
section
variable {S T : Addr → Prop} {H H' : Hp}
theorem Kp.sqT (k : Kp S H H') {a : Addr} {vs : List V} (h : SqT K H a vs) : SqT K H' a vs := by
  rcases h with (h | ⟨o, h⟩) | h
  · exact .inl (.inl (k.tup _ _ h))
  · exact .inl (.inr ⟨o, k.frz _ _ _ h⟩)
  · exact .inr h
theorem Kp.roL (k : Kp S H H') {a : Addr} {vs : List V} (h : RoL K H a vs) : RoL K H' a vs := by
  rcases h with ⟨o, h⟩ | h
  · exact .inl ⟨o, k.frz _ _ _ h⟩
  · exact .inr h
theorem RoL.sq {a : Addr} {vs : List V} (h : RoL K H a vs) : SqL K H a vs := by
  rcases h with h | h
  · exact .inl (.inr h)
  · exact .inr h
mutual
theorem RD.mono (hS : ∀ a, S a → T a) (k : Kp S H H') : ∀ {v : V} {d : D}, RD K C H S v d → RD K C H' T v d
  | _, _, .non => .non
  | _, _, .bl b => .bl b
  | _, _, .int i => .int i
  | _, _, .str x => .str x
  | _, _, .lst s e r => .lst (hS _ s) (k.set _ _ s e) (RDs.mono hS k r)
  | _, _, .tup s r => .tup (k.sqT s) (RDs.mono hS k r)
  | _, _, .rol s r => .rol (k.roL s) (RDs.mono hS k r)
  | _, _, .obj s e f r => .obj (hS _ s) (k.set _ _ s e) f (RDs.mono hS k r)
  | _, _, .dct s e f r => .dct (hS _ s) (k.set _ _ s e) f (RDs.mono hS k r)
theorem RDs.mono (hS : ∀ a, S a → T a) (k : Kp S H H') : ∀ {vs : List V} {ds : List D}, RDs K C H S vs ds → RDs K C H' T vs ds
  | _, _, .nil => .nil
  | _, _, .cons r t => .cons (RD.mono hS k r) (RDs.mono hS k t)
end
mutual
/-- flat data lean on nothing that may change -/
theorem RD.flat (k : Kp (fun _ => False) H H') : ∀ {v : V} {d : D}, d.flat = true → RD K C H S v d → RD K C H' T v d
  | _, _, _, .non => .non
  | _, _, _, .bl b => .bl b
  | _, _, _, .int i => .int i
  | _, _, _, .str x => .str x
  | _, _, f, .tup s r => .tup (k.sqT s) (RDs.flat k (by simpa [D.flat] using f) r)
  | _, _, f, .lst .. => by simp [D.flat] at f
  | _, _, f, .rol .. => by simp [D.flat] at f
  | _, _, f, .obj .. => by simp [D.flat] at f
  | _, _, f, .dct .. => by simp [D.flat] at f
theorem RDs.flat (k : Kp (fun _ => False) H H') : ∀ {vs : List V} {ds : List D}, D.flats ds = true → RDs K C H S vs ds → RDs K C H' T vs ds
  | _, _, _, .nil => .nil
  | _, _, f, .cons r t => by
    simp [D.flats] at f
    exact .cons (RD.flat k f.1 r) (RDs.flat k f.2 t)
end
mutual
theorem RM.mono {T : Addr → Prop} (hS : ∀ a, S a → T a) {S' : Addr → Prop} (k : Kp S' H H') (hs : ∀ a, S a → S' a) : ∀ {v : V} {m : M} {A : List Addr}, (∀ a ∈ A, S' a) → RM K C H S v m A → RM K C H' T v m A
  | _, _, _, hA, .frz r => .frz (r.mono hS (k.imp hs))
  | _, _, _, hA, .fl e r => .fl (k.set _ _ (hA _ (by simp)) e) (r.mono hS (k.imp hs))
  | _, _, _, hA, .lst e r => .lst (k.set _ _ (hA _ (by simp)) e) (RMs.mono hS k hs (fun a h => hA a (List.mem_cons_of_mem _ h)) r)
  | _, _, _, hA, .tup e r => .tup (k.sqT e) (RMs.mono hS k hs hA r)
  | _, _, _, hA, .obj e f r => .obj (k.set _ _ (hA _ (by simp)) e) f (RMs.mono hS k hs (fun a h => hA a (List.mem_cons_of_mem _ h)) r)
theorem RMs.mono {T : Addr → Prop} (hS : ∀ a, S a → T a) {S' : Addr → Prop} (k : Kp S' H H') (hs : ∀ a, S a → S' a) : ∀ {vs : List V} {ms : List M} {A : List Addr}, (∀ a ∈ A, S' a) → RMs K C H S vs ms A → RMs K C H' T vs ms A
  | _, _, _, _, .nil => .nil
  | _, _, _, hA, .cons r t => .cons (RM.mono hS k hs (fun a h => hA a (List.mem_append_left _ h)) r) (RMs.mono hS k hs (fun a h => hA a (List.mem_append_right _ h)) t)
end
theorem RM.same {v : V} {m : M} {A : List Addr} (h : Same H H') (r : RM K C H S v m A) : RM K C H' S v m A :=
  r.mono (S' := fun _ => True) (fun _ s => s) (Kp.of_same h) (fun _ _ => trivial) fun _ _ => trivial
theorem RM.sub {T : Addr → Prop} {v : V} {m : M} {A : List Addr} (hS : ∀ a, S a → T a) (r : RM K C H S v m A) : RM K C H T v m A :=
  r.mono (S' := fun _ => True) hS (Kp.of_same (Same.refl H)) (fun _ _ => trivial) fun _ _ => trivial
theorem RD.same {v : V} {d : D} (h : Same H H') (r : RD K C H S v d) : RD K C H' S v d := r.mono (fun _ s => s) (Kp.of_same h)
theorem RD.sub {T : Addr → Prop} {v : V} {d : D} (hS : ∀ a, S a → T a) (r : RD K C H S v d) : RD K C H T v d := r.mono hS (Kp.of_same (Same.refl H))
theorem RDs.same {v : List V} {d : List D} (h : Same H H') (r : RDs K C H S v d) : RDs K C H' S v d := r.mono (fun _ s => s) (Kp.of_same h)
theorem RDs.sub {T : Addr → Prop} {v : List V} {d : List D} (hS : ∀ a, S a → T a) (r : RDs K C H S v d) : RDs K C H T v d := r.mono hS (Kp.of_same (Same.refl H))
mutual
/-- the tree as data: its own objects are shared now -/
theorem RM.toD : ∀ {v : V} {m : M} {A : List Addr}, RM K C H S v m A → RD K C H (fun a => S a ∨ a ∈ A) v m.toD
  | _, _, _, .frz r => by rw [M.toD]; exact r.sub fun _ s => .inl s
  | _, _, _, .fl e r => by rw [M.toD]; exact .lst (.inr (by simp)) e (r.sub fun _ s => .inl s)
  | _, _, _, .lst e r => by
    rw [M.toD]
    exact .lst (.inr (by simp)) e ((RMs.toD r).sub fun a h => h.elim .inl fun h => .inr (List.mem_cons_of_mem _ h))
  | _, _, _, .tup e r => by rw [M.toD]; exact .tup e (RMs.toD r)
  | _, _, _, .obj e f r => by
    rw [M.toD]
    exact .obj (.inr (by simp)) e f ((RMs.toD r).sub fun a h => h.elim .inl fun h => .inr (List.mem_cons_of_mem _ h))
theorem RMs.toD : ∀ {vs : List V} {ms : List M} {A : List Addr}, RMs K C H S vs ms A → RDs K C H (fun a => S a ∨ a ∈ A) vs (M.toDs ms)
  | _, _, _, .nil => by rw [M.toDs]; exact .nil
  | _, _, _, .cons r t => by
    rw [M.toDs]
    exact .cons ((RM.toD r).sub fun a h => h.elim .inl fun h => .inr (List.mem_append_left _ h)) ((RMs.toD t).sub fun a h => h.elim .inl fun h => .inr (List.mem_append_right _ h))
end
mutual
theorem RM.live : ∀ {v : V} {m : M} {A : List Addr}, RM K C H S v m A → ∀ a ∈ A, ∃ o, H a = some o ∧ isObj o = true
  | _, _, _, .frz r, a, h => by simp at h
  | _, _, _, .fl e r, a, h => by
    obtain rfl : a = _ := by simpa using h
    exact ⟨_, e, rfl⟩
  | _, _, _, .lst e r, a, h => by
    rcases List.mem_cons.mp h with rfl | h
    · exact ⟨_, e, rfl⟩
    · exact RMs.live r a h
  | _, _, _, .tup e r, a, h => RMs.live r a h
  | _, _, _, .obj e f r, a, h => by
    rcases List.mem_cons.mp h with rfl | h
    · exact ⟨_, e, rfl⟩
    · exact RMs.live r a h
theorem RMs.live : ∀ {vs : List V} {ms : List M} {A : List Addr}, RMs K C H S vs ms A → ∀ a ∈ A, ∃ o, H a = some o ∧ isObj o = true
  | _, _, _, .nil, a, h => by simp at h
  | _, _, _, .cons r t, a, h => (List.mem_append.mp h).elim (RM.live r a) (RMs.live t a)
end
mutual
/-- flat: the shared part leans on nothing -/
theorem RM.flat {T : Addr → Prop} : ∀ {v : V} {m : M} {A : List Addr}, m.ff = true → RM K C H S v m A → RM K C H T v m A
  | _, _, _, f, .frz r => .frz (r.flat (Kp.of_same (Same.refl H)) (by simpa [M.ff] using f))
  | _, _, _, f, .fl e r => .fl e (r.flat (Kp.of_same (Same.refl H)) (by simpa [M.ff] using f))
  | _, _, _, f, .lst e r => .lst e (RMs.flat (by simpa [M.ff] using f) r)
  | _, _, _, f, .tup e r => .tup e (RMs.flat (by simpa [M.ff] using f) r)
  | _, _, _, f, .obj e g r => .obj e g (RMs.flat (by simpa [M.ff] using f) r)
theorem RMs.flat {T : Addr → Prop} : ∀ {vs : List V} {ms : List M} {A : List Addr}, M.ffs ms = true → RMs K C H S vs ms A → RMs K C H T vs ms A
  | _, _, _, _, .nil => .nil
  | _, _, _, f, .cons r t => by
    simp [M.ffs] at f
    exact .cons (RM.flat f.1 r) (RMs.flat f.2 t)
end
theorem RDs.length : ∀ {vs : List V} {ds : List D}, RDs K C H S vs ds → vs.length = ds.length
  | _, _, .nil => rfl
  | _, _, .cons _ t => by rw [List.length_cons, List.length_cons, RDs.length t]
theorem RDs.get : ∀ {vs : List V} {ds : List D} {i : Nat} {d : D}, RDs K C H S vs ds → ds[i]? = some d → ∃ v, vs[i]? = some v ∧ RD K C H S v d
  | _, _, _, _, .nil, e => by simp at e
  | _, _, 0, _, .cons r t, e => by simp at e; subst e; exact ⟨_, rfl, r⟩
  | _, _, i + 1, d, .cons r t, e => by
    obtain ⟨v, h1, h2⟩ := RDs.get (i := i) (d := d) t (by simpa using e)
    exact ⟨v, by simpa using h1, h2⟩
theorem RDs.get' : ∀ {vs : List V} {ds : List D} {i : Nat} {v : V}, RDs K C H S vs ds → vs[i]? = some v → ∃ d, ds[i]? = some d ∧ RD K C H S v d
  | _, _, _, _, .nil, e => by simp at e
  | _, _, 0, _, .cons r t, e => by simp at e; subst e; exact ⟨_, rfl, r⟩
  | _, _, i + 1, v, .cons r t, e => by
    obtain ⟨d, h1, h2⟩ := RDs.get' (i := i) (v := v) t (by simpa using e)
    exact ⟨d, by simpa using h1, h2⟩
theorem RDs.append : ∀ {vs ws : List V} {ds es : List D}, RDs K C H S vs ds → RDs K C H S ws es → RDs K C H S (vs ++ ws) (ds ++ es)
  | _, _, _, _, .nil, q => q
  | _, _, _, _, .cons r t, q => .cons r (RDs.append t q)
theorem RDs.drop : ∀ {vs : List V} {ds : List D} (n : Nat), RDs K C H S vs ds → RDs K C H S (vs.drop n) (ds.drop n)
  | _, _, 0, r => r
  | _, _, _ + 1, .nil => .nil
  | _, _, n + 1, .cons _ t => RDs.drop n t
theorem RDs.take : ∀ {vs : List V} {ds : List D} (n : Nat), RDs K C H S vs ds → RDs K C H S (vs.take n) (ds.take n)
  | _, _, 0, _ => .nil
  | _, _, _ + 1, .nil => .nil
  | _, _, n + 1, .cons r t => .cons r (RDs.take n t)
theorem RDs.reverse : ∀ {vs : List V} {ds : List D}, RDs K C H S vs ds → RDs K C H S vs.reverse ds.reverse
  | _, _, .nil => .nil
  | _, _, .cons r t => by
    rw [List.reverse_cons, List.reverse_cons]
    exact (RDs.reverse t).append (.cons r .nil)
theorem RDs.set : ∀ {vs : List V} {ds : List D} {v : V} {d : D} (i : Nat), RD K C H S v d → RDs K C H S vs ds → RDs K C H S (vs.set i v) (ds.set i d)
  | _, _, _, _, _, _, .nil => .nil
  | _, _, _, _, 0, r, .cons _ t => .cons r t
  | _, _, _, _, i + 1, r, .cons q t => .cons q (RDs.set i r t)
theorem RDs.eraseIdx : ∀ {vs : List V} {ds : List D} (i : Nat), RDs K C H S vs ds → RDs K C H S (vs.eraseIdx i) (ds.eraseIdx i)
  | _, _, _, .nil => .nil
  | _, _, 0, .cons _ t => t
  | _, _, i + 1, .cons q t => .cons q (RDs.eraseIdx i t)
theorem RDs.nil_of {vs : List V} (h : RDs K C H S vs []) : vs = [] := by cases h; rfl
theorem RDs.ints : ∀ (ns : List Int), RDs K C H S (ns.map V.int) (ns.map D.int)
  | [] => .nil
  | n :: ns => .cons (.int n) (RDs.ints ns)
end
end Ev

set_option maxRecDepth 100000
set_option maxHeartbeats 4000000
/-! A small language of expressions and statements over data, and its meaning. -/
namespace Ev
open PySem PySem.Spec PyProof.Rows L2

/-- what is raised: a class by number, what it holds -/
structure Exn where
  c : Nat
  at_ : Option Int
  deriving Inhabited, DecidableEq

inductive Res (α : Type) where
  | no
  | ok (a : α)
  | ex (e : Exn)
def Res.bind {α β : Type} (r : Res α) (f : α → Res β) : Res β := match r with
  | .no => .no
  | .ok a => f a
  | .ex e => .ex e
@[simp] theorem Res.bind_ok {α β : Type} (a : α) (f : α → Res β) : (Res.ok a).bind f = f a := Eq.trans rfl rfl
@[simp] theorem Res.bind_no {α β : Type} (f : α → Res β) : (Res.no : Res α).bind f = .no := Eq.trans rfl rfl
@[simp] theorem Res.bind_ex {α β : Type} (e : Exn) (f : α → Res β) : (Res.ex e : Res α).bind f = .ex e := Eq.trans rfl rfl
theorem Res.bind_eq_ok {α β : Type} {r : Res α} {f : α → Res β} {b : β} (h : r.bind f = .ok b) : ∃ a, r = .ok a ∧ f a = .ok b := by
  cases r with
  | no => cases h
  | ok a => exact ⟨a, rfl, h⟩
  | ex e => cases h
def Res.of {α : Type} : Option α → Res α
  | none => .no
  | some a => .ok a
@[simp] theorem Res.of_some {α : Type} (a : α) : Res.of (some a) = .ok a := Eq.trans rfl rfl
@[simp] theorem Res.of_none {α : Type} : Res.of (none : Option α) = .no := rfl
theorem Res.of_eq_ok {α : Type} {o : Option α} {a : α} (h : Res.of o = .ok a) : o = some a := by
  cases o with
  | none => cases h
  | some b => cases h; rfl

inductive Op where | add | sub | mul | fdiv | mod | pow
  deriving DecidableEq
inductive Cp where | eq | ne | lt | le | gt | ge | isN | isNt | isIn | ntIn
  deriving DecidableEq
inductive Bi where | len | int | abs | lst | tup | sum | min2 | max2 | gcd | srt
  deriving DecidableEq
inductive Ty where | int | bool | str | lst | tup | cls (c : Nat)
  deriving DecidableEq
inductive Tg where
  | nm (i : Nat)
  | tp (is : List Nat)

mutual
inductive E where
  | cst (d : D)
  | slot (i : Nat)
  | glob (x : String)
  | tup (es : Es)
  | lst (es : Es)
  | bin (o : Op) (a b : E)
  | neg (a : E)
  | cmp (o : Cp) (a b : E)
  | chain (o p : Cp) (a b c : E)
  | and (a b : E)
  | or (a b : E)
  | not (a : E)
  | ite (c a b : E)
  | ix (a i : E)
  | sl (a : E) (lo hi : Eo)
  | rev (a : E)
  | fld (a : E) (c k : Nat)
  | call (f : String) (es : Es)
  | bi (b : Bi) (es : Es)
  | isi (a : E) (t : Ty)
  | idx (a b : E)
  | bits (a : E)
  | comp (elt : E) (t : Tg) (it : It) (c : Eo)
  | compO (elt : E) (t : Tg) (it : It)
  | din (a : E) (i : Nat)
  | dat (i : Nat) (a : E)
  | mk (a : E)
  | tupO (a : E)
  | tupN (es : Es)
inductive Es where
  | nil
  | cons (e : E) (es : Es)
inductive Eo where
  | no
  | yes (e : E)
inductive It where
  | over (e : E)
  | rng (a : E)
  | rng2 (a b : E)
end
instance : Inhabited E := ⟨.cst .non⟩
/-- what stands in a try: calls that raise, chosen by tests; fx: the raising's own key -/
inductive XB where
  | call (fx : String) (es : Es)
  | ite (c : E) (a b : XB)

/-! what is written into a tree that nothing looks at any more -/
mutual
inductive J where
  | app (n : Nat) (e : E)
  | for (n : Nat) (is : List Nat) (b : Js)
inductive Js where
  | nil
  | cons (j : J) (r : Js)
end

mutual
inductive S where
  | set (t : Tg) (e : E)
  | par (i j : Nat) (a b : E)
  | app (i : Nat) (e : E)
  | seti (i : Nat) (k e : E)
  | dset (i : Nat) (t : Tg) (it : It) (kx vx : E)
  | ext (i : Nat) (e : E)
  | popL (i : Nat)
  | popA (i : Nat) (k : E)
  | popB (i : Nat) (j k : E)
  | setO (is : List Nat) (e : E)
  | set2 (i : Nat) (k n e : E)
  | appO (i : Nat) (e : E)
  | retT (es : Es)
  | appT (i : Nat) (k e : E)
  | expr (e : E)
  | ret (e : E)
  | retN
  | ite (c : E) (a b : Ss)
  | for (t : Tg) (it : It) (b : Ss)
  | while (c : E) (b : Ss)
  | brk
  | cont
  | pass
  | raiseN
  | tryX (i : Nat) (b : XB)
  | newO (i : Nat) (f : String) (es ms : Es)
  | appM (i : Nat) (es : Es)
inductive Ss where
  | nil
  | cons (s : S) (r : Ss)
  | ali (i j : Nat) (k c e : E) (r : Ss)
  | wrk (n : Nat) (js : Js) (r : Ss)
end
instance : Inhabited S := ⟨.pass⟩

/-- keys that tell where a def raises -/
def xnm (f : String) : Bool := f == "!conflicts" || f == "!settling" || f == "!assuming"
def xnf (f : String) : String := if f = "!conflicts" then "conflicts" else if f = "!settling" then "settling" else "assuming"
/-- keys of classes whose arguments stay the caller's own; how many of the first are shared -/
def knm (f : String) : Bool := f == "!Data" || f == "!House"
def knf (f : String) : String := if f = "!House" then "House" else "Data"
def knp (f : String) : Nat := if f = "!House" then 0 else 2
def pnm (f : String) : Bool := xnm f || knm f
abbrev Gm := List (Option M)
abbrev Tn := List Nat

/-! ### data -/
def D.items : D → Option (List D)
  | .lst ds => some ds
  | .tup ds => some ds
  | .rol ds => some ds
  | _ => none
def lim : Nat := 1000000
def binD : Op → D → D → Option D
  | .add, .int i, .int j => some (.int (i + j))
  | .add, .str x, .str y => if x.length + y.length ≤ lim then some (.str (x ++ y)) else none
  | .sub, .int i, .int j => some (.int (i - j))
  | .mul, .int i, .int j => if (i.natAbs < 2 ^ 60 ∨ j.natAbs < 2 ^ 60) ∨ i.natAbs.log2 + j.natAbs.log2 < 100000000 then some (.int (i * j)) else none
  | .fdiv, .int i, .int j => if j ≠ 0 ∧ (j.natAbs.log2 < 9000 ∨ i.natAbs.log2 ≤ j.natAbs.log2 + 4400) then some (.int (i.fdiv j)) else none
  | .mod, .int i, .int j => if 0 < j then some (.int (i % j)) else none
  | .pow, .int i, .int j => if 0 ≤ j ∧ j ≤ 1000 ∧ i.natAbs < 2 ^ 60 then some (.int (i ^ j.toNat)) else none
  | _, _, _ => none
mutual
def D.lay : Nat → D → Bool
  | _, .non => true
  | _, .bl _ => true
  | _, .int _ => true
  | _, .str x => PySem.PyData.strOk x
  | n + 1, .lst ds => D.lays n ds
  | n + 1, .tup ds => D.lays n ds
  | n + 1, .rol ds => D.lays n ds
  | _, _ => false
def D.lays : Nat → List D → Bool
  | _, [] => true
  | n, d :: ds => d.lay n && D.lays n ds
end
mutual
def D.eqv : D → D → Bool
  | .non, .non => true
  | .bl a, .bl b => a == b
  | .bl a, .int j => (if a then 1 else 0) == j
  | .int i, .bl b => i == (if b then 1 else 0)
  | .int i, .int j => i == j
  | .str x, .str y => x == y
  | .lst xs, .lst ys => D.eqvs xs ys
  | .lst xs, .rol ys => D.eqvs xs ys
  | .rol xs, .lst ys => D.eqvs xs ys
  | .rol xs, .rol ys => D.eqvs xs ys
  | .tup xs, .tup ys => D.eqvs xs ys
  | _, _ => false
def D.eqvs : List D → List D → Bool
  | [], [] => true
  | x :: xs, y :: ys => x.eqv y && D.eqvs xs ys
  | _, _ => false
end
def D.sc : D → Bool
  | .non => true
  | .bl _ => true
  | .int _ => true
  | .str _ => true
  | _ => false
def D.truth : D → Option Bool
  | .non => some false
  | .bl b => some b
  | .int i => some (i != 0)
  | .str x => if x.length ≤ lim then some ((x.length : Int) != 0) else none
  | .lst ds => some (!ds.isEmpty)
  | .tup ds => some (!ds.isEmpty)
  | .rol ds => some (!ds.isEmpty)
  | .obj _ _ => none
  | .dct _ _ => none
def cmpD : Cp → D → D → Option Bool
  | .eq, d, e => if (d.sc && e.sc) || (d.lay 8 && e.lay 8) then some (d.eqv e) else none
  | .ne, d, e => if (d.sc && e.sc) || (d.lay 8 && e.lay 8) then some (!d.eqv e) else none
  | .lt, .int i, .int j => some (decide (i < j))
  | .le, .int i, .int j => some (decide (i ≤ j))
  | .gt, .int i, .int j => some (decide (j < i))
  | .ge, .int i, .int j => some (decide (j ≤ i))
  | .isN, d, .non => some (match d with | .non => true | _ => false)
  | .isNt, d, .non => some (match d with | .non => false | _ => true)
  | .isN, .bl a, .bl b => some (decide (a = b))
  | .isNt, .bl a, .bl b => some (!decide (a = b))
  | .isIn, .str x, .str y => some (!(Builtin.Str.occurrences y x 0 y.length 1).isEmpty)
  | .ntIn, .str x, .str y => some (!(!(Builtin.Str.occurrences y x 0 y.length 1).isEmpty))
  | .isIn, d, e => match e.items with | some ds => if d.sc && ds.all D.sc then some (ds.any fun x => x.eqv d) else none | none => none
  | .ntIn, d, e => match e.items with | some ds => if d.sc && ds.all D.sc then some (!ds.any fun x => x.eqv d) else none | none => none
  | _, _, _ => none
def ixD : D → D → Option D
  | .str z, .int i => if z.length ≤ lim then (atI z.cps.toList i).map fun c => .str ⟨#[c]⟩ else none
  | d, .int i => d.items.bind fun ds => atI ds i
  | _, _ => none
def cutD (ds : List D) (lo hi : Option Int) : List D := (ds.drop (HT.sIx ds.length 0 lo)).take (HT.sIx ds.length ds.length hi - HT.sIx ds.length 0 lo)
def D.isI : D → Option Int
  | .int i => some i
  | _ => none
def intsOf : List D → Option (List Int)
  | [] => some []
  | .int i :: ds => (intsOf ds).map (i :: ·)
  | _ => none
def isiD : Ty → D → Bool
  | .int, .int _ => true
  | .int, .bl _ => true
  | .bool, .bl _ => true
  | .str, .str _ => true
  | .lst, .lst _ => true
  | .lst, .rol _ => true
  | .tup, .tup _ => true
  | .cls c, .obj c' _ => c == c'
  | _, _ => false
/-- a built-in whose answer is a number or a truth value -/
def intOfD : D → Option Int
  | .int i => some i
  | _ => none
def rowOfD : D → Option (List Int)
  | .lst ds => ds.mapM intOfD
  | _ => none
def encZ (ns : List Int) : D := .lst (ns.map .int)
def leZ (p q : List Int) : Bool := decide (p ≤ q)
/-- what sorted answers: lists of whole numbers alone -/
def srtD (ds : List D) : Option (List D) := (ds.mapM rowOfD).map fun rows => (rows.mergeSort leZ).map encZ
def biD : Bi → List D → Option D
  | .len, [.str x] => if x.length ≤ lim then some (.int x.length) else none
  | .len, [d] => d.items.map fun ds => .int ds.length
  | .int, [.int i] => some (.int i)
  | .int, [.bl b] => some (.int (if b then 1 else 0))
  | .abs, [.int i] => some (.int (if i < 0 then -i else i))
  | .sum, [.lst ds] => (intsOf ds).map fun ns => .int ns.sum
  | .min2, [.int i, .int j] => some (.int (if j < i then j else i))
  | .max2, [.int i, .int j] => some (.int (if j > i then j else i))
  | .gcd, [.int i, .int j] => some (.int (Nat.gcd i.natAbs j.natAbs : Nat))
  | _, _ => none

mutual
/-- holds no list -/
def D.nOw : D → Bool
  | .lst _ => false
  | .tup ds => D.nOws ds
  | _ => true
def D.nOws : List D → Bool
  | [] => true
  | d :: ds => d.nOw && D.nOws ds
end
mutual
/-- data as a tree of one's own -/
def ownM : D → M
  | .lst ds => if D.nOws ds then .fl ds else .lst (ownMs ds)
  | .tup ds => if D.nOws ds then .frz (.tup ds) else .tup (ownMs ds)
  | d => .frz d
def ownMs : List D → List M
  | [] => []
  | d :: ds => ownM d :: ownMs ds
end
mutual
/-- a tree that is as its data tell -/
def cnM : M → Bool
  | .frz d => d.nOw
  | .fl ds => D.nOws ds
  | .lst ms => cnMs ms
  | .tup ms => cnMs ms
  | .obj _ _ => false
def cnMs : List M → Bool
  | [] => true
  | m :: ms => cnM m && cnMs ms
end

/-! ### names -/
/-- one name's tree becomes shared data -/
def frz1 (g : Gm) (i : Nat) : Gm := match g[i]? with
  | some (some m) => g.set i (some (.frz m.toD))
  | _ => g
def frzG : Tn → Gm → Gm
  | [], g => g
  | i :: t, g => frzG t (frz1 g i)
@[simp] theorem frzG_nil (g : Gm) : frzG [] g = g := rfl
def nrm : M × Tn → Tn
  | (_, []) => []
  | (m, t) => if m.ff then [] else t
@[simp] theorem nrm_nil (m : M) : nrm (m, []) = [] := rfl
def setTs : Gm → List Nat → List D → Option Gm
  | g, [], [] => some g
  | g, i :: is, d :: ds => setTs (g.set i (some (.frz d))) is ds
  | _, _, _ => none
def bindT : Tg → D → Gm → Option Gm
  | .nm i, d, g => some (g.set i (some (.frz d)))
  | .tp is, .tup ds, g => setTs g is ds
  | .tp is, .lst ds, g => setTs g is ds
  | _, _, _ => none
/-- a name read where only what is in it is looked at -/
def lvS (g : Gm) (i : Nat) : Res (D × Tn) := match g[i]? with
  | some (some (.frz d)) => .ok (d, [])
  | some (some (.fl ds)) => .ok (.lst ds, [])
  | some (some m) => .ok (m.toD, [i])
  | _ => .no
def lvw (a : E) (g : Gm) (r : Res (M × Tn)) : Res (D × Tn) := match a with
  | .slot i => lvS g i
  | _ => r.bind fun r => .ok (r.1.toD, r.2)

def compGo (t : Tg) (c : Gm → Res Bool) (elt : Gm → Res (M × Tn)) : List D → Gm → Res (List D)
  | [], _ => .ok []
  | d :: ds, g => (Res.of (bindT t d g)).bind fun g1 => (c g1).bind fun b =>
      if b then (elt g1).bind fun r => match nrm r with
        | [] => (compGo t c elt ds g).bind fun os => if os.length < lim then .ok (r.1.toD :: os) else .no
        | _ => .no
      else compGo t c elt ds g
/-- .. where the items stay the name's own -/
def compOGo (t : Tg) (elt : Gm → Res (M × Tn)) : List D → Gm → Res (List M)
  | [], _ => .ok []
  | d :: ds, g => (Res.of (bindT t d g)).bind fun g1 => (elt g1).bind fun r => match nrm r with
      | [] => (compOGo t elt ds g).bind fun os => if os.length < lim then .ok (r.1 :: os) else .no
      | _ => .no
/-- a dict's items, one after the other; each key once -/
def dctGo (t : Tg) (kx vx : Gm → Res (M × Tn)) : List D → Gm → List Int → List D → Res (List Int × List D)
  | [], _, ks, xs => .ok (ks, xs)
  | d :: ds, g, ks, xs => (Res.of (bindT t d g)).bind fun g1 => (kx g1).bind fun a => (vx g1).bind fun b => match a.1.toD, nrm b with
      | .int k, [] => if k ∉ ks ∧ ks.length < lim then dctGo t kx vx ds g (ks ++ [k]) (xs ++ [b.1.toD]) else .no
      | _, _ => .no
/-- what a dict holds at a key -/
def dctAt : List Int → List D → Int → Option D
  | k :: ks, x :: xs, i => if k = i then some x else dctAt ks xs i
  | _, _, _ => none
def dinR (d : D) (o : Option (Option M)) : Res (M × Tn) := match d, o with
  | .int k, some (some (.frz (.dct ks xs))) => .ok (.frz (.bl (dctAt ks xs k).isSome), [])
  | _, _ => .no
def datR (d : D) (o : Option (Option M)) : Res (M × Tn) := match d, o with
  | .int k, some (some (.frz (.dct ks xs))) => (Res.of (dctAt ks xs k)).bind fun v => .ok (.frz v, [])
  | _, _ => .no
def M.isF : M → Bool
  | .frz _ => true
  | _ => false
/-- a list of shared things alone -/
def mkM : M → M
  | .lst ms => if !ms.isEmpty && ms.all M.isF then .fl (M.toDs ms) else .lst ms
  | m => m
/-- .. as a tuple -/
def tupM : M → Option M
  | .lst ms => some (if ms.all M.isF then .frz (.tup (M.toDs ms)) else .tup ms)
  | .fl ds => some (.frz (.tup ds))
  | _ => none
def rngD (lo hi : Int) : List D := (List.range (hi - lo).toNat).map fun (k : Nat) => .int (lo + k)

section
variable (Φ : String → List D → Res M) (G : String → Option D)
mutual
def ev : E → Gm → Res (M × Tn)
  | .cst d, _ => .ok (.frz d, [])
  | .slot i, g => match g[i]? with
    | some (some (.frz d)) => .ok (.frz d, [])
    | some (some m) => .ok (.frz m.toD, [i])
    | _ => .no
  | .glob x, _ => (Res.of (G x)).bind fun d => .ok (.frz d, [])
  | .tup es, g => (evs es g).bind fun r => .ok (.frz (.tup r.1), r.2)
  | .lst es, g => (evs es g).bind fun r => .ok (.fl r.1, r.2)
  | .bin o a b, g => (lvw a g (ev a g)).bind fun x => (lvw b g (ev b g)).bind fun y =>
      match o, x.1, y.1 with
      | .add, .lst ds, .lst es => if ds.length + es.length < lim then .ok (.fl (ds ++ es), x.2 ++ y.2) else .no
      | o, d, e => (Res.of (binD o d e)).bind fun v => .ok (.frz v, [])
  | .neg a, g => (ev a g).bind fun r => match r.1.toD with
      | .int i => .ok (.frz (.int (-i)), [])
      | _ => .no
  | .cmp o a b, g => (lvw a g (ev a g)).bind fun x => (lvw b g (ev b g)).bind fun y => (Res.of (cmpD o x.1 y.1)).bind fun v => .ok (.frz (.bl v), [])
  | .chain o p a b c, g => (ev a g).bind fun x => (ev b g).bind fun y => (Res.of (cmpD o x.1.toD y.1.toD)).bind fun v =>
      if v then (ev c g).bind fun z => (Res.of (cmpD p y.1.toD z.1.toD)).bind fun u => .ok (.frz (.bl u), []) else .ok (.frz (.bl false), [])
  | .and a b, g => (ev a g).bind fun x => match x.1.toD with
      | .bl true => ev b g
      | .bl false => .ok (.frz (.bl false), [])
      | _ => .no
  | .or a b, g => (ev a g).bind fun x => match x.1.toD with
      | .bl true => .ok (.frz (.bl true), [])
      | .bl false => ev b g
      | _ => .no
  | .not a, g => (ev a g).bind fun x => match x.1.toD with
      | .bl v => .ok (.frz (.bl (!v)), [])
      | _ => .no
  | .ite c a b, g => (tv c g (ev c g)).bind fun v => if v then ev a g else ev b g
  | .ix a k, g => (lvw a g (ev a g)).bind fun x => (ev k g).bind fun y => (Res.of (ixD x.1 y.1.toD)).bind fun v => .ok (.frz v, x.2)
  | .sl a lo hi, g => (lvw a g (ev a g)).bind fun x => (evo lo g).bind fun l => (evo hi g).bind fun h => match x.1 with
      | .lst ds => .ok (.fl (cutD ds l h), x.2)
      | _ => .no
  | .rev a, g => (lvw a g (ev a g)).bind fun x => match x.1 with
      | .lst ds => .ok (.fl ds.reverse, x.2)
      | _ => .no
  | .fld a c k, g => (lvw a g (ev a g)).bind fun x => match x.1 with
      | .obj c' ds => if c' = c then (Res.of ds[k]?).bind fun v => .ok (.frz v, x.2) else .no
      | _ => .no
  | .call f es, g => (evs es g).bind fun r => (Φ f r.1).bind fun m => .ok (m, if m.ff then [] else r.2)
  | .bi b es, g => match b, es with
      | .lst, .cons e .nil => (lvw e g (ev e g)).bind fun x => match x.1.items with
        | some ds => .ok (.fl ds, x.2)
        | none => .no
      | .tup, .cons e .nil => (lvw e g (ev e g)).bind fun x => match x.1 with
        | .lst ds => .ok (.frz (.tup ds), x.2)
        | _ => .no
      | .len, .cons e .nil => (lvw e g (ev e g)).bind fun x => (Res.of (biD .len [x.1])).bind fun v => .ok (.frz v, [])
      | .srt, .cons e .nil => (lvw e g (ev e g)).bind fun x => match x.1 with
        | .lst ds => (Res.of (srtD ds)).bind fun os => .ok (.fl os, x.2)
        | _ => .no
      | b, es => (evs es g).bind fun r => (Res.of (biD b r.1)).bind fun v => .ok (.frz v, [])
  | .isi a t, g => (lvw a g (ev a g)).bind fun x => .ok (.frz (.bl (isiD t x.1)), [])
  | .idx a b, g => (lvw a g (ev a g)).bind fun x => (ev b g).bind fun y => match x.1 with
      | .lst ds => if (y.1.toD.sc && ds.all D.sc) || (y.1.toD.lay 7 && D.lays 7 ds) then (match ds.findIdx? (fun z => z.eqv y.1.toD) with
          | some j => .ok (.frz (.int j), [])
          | none => .no) else .no
      | _ => .no
  | .bits a, g => (ev a g).bind fun x => match x.1.toD with
      | .int i => .ok (.frz (.int (Builtin.Int.intBits i : Nat)), [])
      | _ => .no
  | .comp elt t it c, g => (its it g).bind fun x => (compGo t (fun g => tvo c g) (fun g => ev elt g) x.1 (frzG x.2 g)).bind fun os => .ok (.fl os, x.2)
  | .compO elt t it, g => (its it g).bind fun x => (compOGo t (fun g => ev elt g) x.1 (frzG x.2 g)).bind fun os => .ok (.lst os, x.2)
  | .din a i, g => (ev a g).bind fun x => dinR x.1.toD g[i]?
  | .dat i a, g => (ev a g).bind fun x => datR x.1.toD g[i]?
  | .mk a, g => (ev a g).bind fun x => .ok (mkM x.1, x.2)
  | .tupO a, g => (ev a g).bind fun x => (Res.of (tupM x.1)).bind fun m => .ok (m, x.2)
  | .tupN es, g => (evP es g).bind fun ms => .ok (.tup ms, [])
/-- parts that are of their own -/
def evP : Es → Gm → Res (List M)
  | .nil, _ => .ok []
  | .cons e es, g => (ev e g).bind fun x => match nrm x with
    | [] => (evP es g).bind fun ys => .ok (x.1 :: ys)
    | _ => .no
def evs : Es → Gm → Res (List D × Tn)
  | .nil, _ => .ok ([], [])
  | .cons e es, g => (ev e g).bind fun x => (evs es g).bind fun y => .ok (x.1.toD :: y.1, x.2 ++ y.2)
def evo : Eo → Gm → Res (Option Int)
  | .no, _ => .ok none
  | .yes e, g => (ev e g).bind fun x => match x.1.toD with
      | .int i => .ok (some i)
      | _ => .no
/-- what is walked; for a comprehension -/
def its : It → Gm → Res (List D × Tn)
  | .over e, g => (lvw e g (ev e g)).bind fun x => match x.1.items with
      | some ds => .ok (ds, x.2)
      | none => match x.1 with
        | .str z => .ok (z.cps.toList.map fun c => .str ⟨#[c]⟩, [])
        | _ => .no
  | .rng a, g => (ev a g).bind fun x => match x.1.toD with
      | .int n => if n < 2 ^ 40 ∧ -(2 ^ 40) < n then .ok (rngD 0 n, []) else .no
      | _ => .no
  | .rng2 a b, g => (ev a g).bind fun x => (ev b g).bind fun y => match x.1.toD, y.1.toD with
      | .int m, .int n => if (m < 2 ^ 40 ∧ -(2 ^ 40) < m) ∧ (n < 2 ^ 40 ∧ -(2 ^ 40) < n) then .ok (rngD m n, []) else .no
      | _, _ => .no
/-- as a test -/
def tv : E → Gm → Res (M × Tn) → Res Bool
  | .and a b, g, _ => (tv a g (ev a g)).bind fun v => if v then tv b g (ev b g) else .ok false
  | .or a b, g, _ => (tv a g (ev a g)).bind fun v => if v then .ok true else tv b g (ev b g)
  | .not a, g, _ => (tv a g (ev a g)).bind fun v => .ok (!v)
  | .ite _ _ _, _, _ => .no
  | .slot i, g, _ => (lvS g i).bind fun x => Res.of x.1.truth
  | _, _, r => r.bind fun x => Res.of x.1.toD.truth
def tvo : Eo → Gm → Res Bool
  | .no, _ => .ok true
  | .yes e, g => tv e g (ev e g)
end
/-- what a for walks: the list itself is shared from there on -/
def itf : It → Gm → Res (List D × Tn)
  | .over e, g => (ev Φ G e g).bind fun x => match x.1.toD.items with
      | some ds => .ok (ds, x.2)
      | none => match x.1.toD with
        | .str z => .ok (z.cps.toList.map fun c => .str ⟨#[c]⟩, [])
        | _ => .no
  | .rng a, g => its Φ G (.rng a) g
  | .rng2 a b, g => its Φ G (.rng2 a b) g
end
end Ev

set_option maxRecDepth 100000
set_option maxHeartbeats 4000000
/-! What holds of the heap while a def runs, and what an expression leaves. -/
namespace Ev
open PySem PySem.Spec PyProof.Rows L2

theorem same_upd {H : Hp} {p : Addr} {o : HO} (h : H p = none) : Same H (upd H p o) := fun b x e => by
  rw [upd_ne (ne_of_none e h)]
  exact e
structure Cf where
  S : Addr → Prop
  fp : Nat → List Addr
  g : Gm

structure Ok (K : PySem.W.Frag) (C : Kls) (c : Cf) (σ : L2.St) (H : Hp) : Prop where
  len : c.g.length = σ.length
  slot : ∀ i m, c.g[i]? = some (some m) → ∃ v, σ[i]? = some (some v) ∧ RM K C H c.S v m (c.fp i)
  live : ∀ a, c.S a → H a ≠ none
  own : ∀ i a, a ∈ c.fp i → (∃ o, H a = some o ∧ isObj o = true) ∧ ¬ c.S a
  nd : ∀ i, (c.fp i).Nodup
  dj : ∀ i j a, a ∈ c.fp i → a ∈ c.fp j → i = j

section
variable {K : PySem.W.Frag} {C : Kls} {c : Cf} {σ : L2.St} {H H1 H2 H' H'' : Hp} {S S' : Addr → Prop} {v w : V} {m : M} {d e : D} {T U : Tn}
theorem RM.frz' {A : List Addr} (r : RM K C H S v (.frz d) A) : A = [] ∧ RD K C H S v d := by cases r with | frz r => exact ⟨rfl, r⟩
theorem RM.fl' {ds : List D} {A : List Addr} (r : RM K C H S v (.fl ds) A) : ∃ a vs, v = .ref a ∧ A = [a] ∧ H a = some (.lst vs) ∧ RDs K C H S vs ds := by
  cases r with | fl e r => exact ⟨_, _, rfl, rfl, e, r⟩
theorem Ok.same (k : Ok K C c σ H) (s : Same H H') : Ok K C c σ H' :=
  ⟨k.len, fun i m e => let ⟨v, e1, r⟩ := k.slot i m e; ⟨v, e1, r.same s⟩, fun a h z => k.live a h (s.free z), fun i a h => let ⟨⟨o, e, q⟩, n⟩ := k.own i a h; ⟨⟨o, s _ _ e, q⟩, n⟩, k.nd, k.dj⟩

structure Gw (c : Cf) (T : Tn) (H H' : Hp) (S : Addr → Prop) : Prop where
  sub : ∀ a, S a → c.S a ∨ (∃ i ∈ T, a ∈ c.fp i) ∨ H a = none
  live : ∀ a, S a → H' a ≠ none
theorem Gw.left (s : Same H H1) (g : Gw c T H1 H' S) : Gw c T H H' S := ⟨fun a h => (g.sub a h).imp_right fun q => q.imp_right s.free, g.live⟩
theorem Gw.right (s : Same H' H'') (g : Gw c T H H' S) : Gw c T H H'' S := ⟨g.sub, fun a h z => g.live a h (s.free z)⟩
theorem Gw.or (g : Gw c T H H' S) (h : Gw c U H H' S') : Gw c (T ++ U) H H' (fun a => S a ∨ S' a) :=
  ⟨fun a q => q.elim (fun q => (g.sub a q).imp_right fun z => z.imp_left fun ⟨i, p, r⟩ => ⟨i, List.mem_append_left _ p, r⟩) fun q => (h.sub a q).imp_right fun z => z.imp_left fun ⟨i, p, r⟩ => ⟨i, List.mem_append_right _ p, r⟩,
   fun a q => q.elim (g.live a) (h.live a)⟩
theorem Gw.mem {A : List Addr} (g : Gw c T H H' S) (h : ∀ a ∈ A, H a = none ∧ H' a ≠ none) : Gw c T H H' (fun a => S a ∨ a ∈ A) :=
  ⟨fun a q => q.elim (g.sub a) fun q => .inr (.inr (h a q).1), fun a q => q.elim (g.live a) fun q => (h a q).2⟩
theorem Gw.nil : Gw c T H H' (fun _ => False) := ⟨fun _ h => h.elim, fun _ h => h.elim⟩
theorem Gw.self (k : Ok K C c σ H) (s : Same H H') : Gw c T H H' c.S := ⟨fun _ h => .inl h, fun a h z => k.live a h (s.free z)⟩
theorem Gw.more (g : Gw c T H H' S) (h : ∀ i ∈ T, i ∈ U) : Gw c U H H' S := ⟨fun a q => (g.sub a q).imp_right fun z => z.imp_left fun ⟨i, p, r⟩ => ⟨i, h i p, r⟩, g.live⟩

/-- a value whose own object may be another's: a list is read now -/
inductive RL (K : PySem.W.Frag) (C : Kls) (H : Hp) (S : Addr → Prop) : V → D → Prop
  | rd {v : V} {d : D} : RD K C H S v d → RL K C H S v d
  | lst {a : Addr} {vs : List V} {ds : List D} : H a = some (.lst vs) → RDs K C H S vs ds → RL K C H S (.ref a) (.lst ds)
theorem RL.same (s : Same H H') : RL K C H S v d → RL K C H' S v d
  | .rd r => .rd (r.same s)
  | .lst e r => .lst (s _ _ e) (r.same s)
theorem RL.sub (h : ∀ a, S a → S' a) : RL K C H S v d → RL K C H S' v d
  | .rd r => .rd (r.sub h)
  | .lst e r => .lst e (r.sub h)

def LPost (K : PySem.W.Frag) (C : Kls) (c : Cf) (H H' : Hp) (v : V) (d : D) (T : Tn) : Prop := ∃ S, Gw c T H H' S ∧ RL K C H' S v d
def EPost (K : PySem.W.Frag) (C : Kls) (c : Cf) (H H' : Hp) (v : V) (m : M) (T : Tn) : Prop :=
  ∃ S A, Gw c T H H' S ∧ RM K C H' S v m A ∧ A.Nodup ∧ ∀ a ∈ A, H a = none ∧ ¬ S a
theorem LPost.left (s : Same H H1) : LPost K C c H1 H' v d T → LPost K C c H H' v d T := fun ⟨S, g, r⟩ => ⟨S, g.left s, r⟩
theorem LPost.right (s : Same H' H'') : LPost K C c H H' v d T → LPost K C c H H'' v d T := fun ⟨S, g, r⟩ => ⟨S, g.right s, r.same s⟩
theorem EPost.left (s : Same H H1) : EPost K C c H1 H' v m T → EPost K C c H H' v m T := fun ⟨S, A, g, r, n, h⟩ => ⟨S, A, g.left s, r, n, fun a q => ⟨s.free (h a q).1, (h a q).2⟩⟩
theorem EPost.right (s : Same H' H'') : EPost K C c H H' v m T → EPost K C c H H'' v m T := fun ⟨S, A, g, r, n, h⟩ => ⟨S, A, g.right s, r.same s, n, h⟩
/-- as shared data -/
theorem EPost.rd (h : EPost K C c H H' v m T) : ∃ S, Gw c T H H' S ∧ RD K C H' S v m.toD := by
  obtain ⟨S, A, g, r, n, h⟩ := h
  exact ⟨_, g.mem fun a q => ⟨(h a q).1, by obtain ⟨o, e, _⟩ := r.live a q; rw [e]; simp⟩, r.toD⟩
theorem EPost.lp (h : EPost K C c H H' v m T) : LPost K C c H H' v m.toD T := by
  obtain ⟨S, g, r⟩ := h.rd
  exact ⟨S, g, .rd r⟩
theorem EPost.of_rd (g : Gw c T H H' S) (r : RD K C H' S v d) : EPost K C c H H' v (.frz d) T := ⟨S, [], g, .frz r, .nil, fun _ h => by simp at h⟩
theorem EPost.flat (h : EPost K C c H H' v m T) (f : m.ff = true) : EPost K C c H H' v m U := by
  obtain ⟨S, A, g, r, n, h⟩ := h
  exact ⟨fun _ => False, A, .nil, r.flat f, n, fun a q => ⟨(h a q).1, fun z => z⟩⟩
theorem EPost.nrm (h : EPost K C c H H' v m T) : EPost K C c H H' v m (nrm (m, T)) := by
  cases T with
  | nil => exact h
  | cons i t =>
    show EPost K C c H H' v m (if m.ff then [] else i :: t)
    by_cases f : m.ff = true
    · rw [if_pos f]; exact h.flat f
    · rw [if_neg f]; exact h
theorem epost_int (i : Int) : EPost K C c H H' (.int i) (.frz (.int i)) T := .of_rd .nil (.int i)
theorem epost_bl (i : Bool) : EPost K C c H H' (.bl i) (.frz (.bl i)) T := .of_rd .nil (.bl i)
theorem epost_str (i : Str) : EPost K C c H H' (.str i) (.frz (.str i)) T := .of_rd .nil (.str i)
theorem epost_non : EPost K C c H H' .non (.frz .non) T := .of_rd .nil .non
/-- a new list -/
theorem epost_fl {p : Addr} {vs : List V} {ds : List D} (s : Same H H') (g : Gw c T H H' S) (r : RDs K C H' S vs ds) (np : H' p = none) : EPost K C c H (upd H' p (.lst vs)) (.ref p) (.fl ds) T := by
  have s2 := same_upd (o := .lst vs) np
  refine ⟨S, [p], g.right s2, .fl upd_same (r.same s2), by simp, fun a q => ?_⟩
  obtain rfl : a = p := by simpa using q
  exact ⟨s.free np, fun z => g.live a z np⟩
/-- a new tuple -/
theorem epost_tup {p : Addr} {vs : List V} {ds : List D} (g : Gw c T H H' S) (r : RDs K C H' S vs ds) (np : H' p = none) : EPost K C c H (upd H' p (.tup vs)) (.ref p) (.frz (.tup ds)) T := by
  have s2 := same_upd (o := .tup vs) np
  exact .of_rd (g.right s2) (.tup (.inl (.inl upd_same)) (r.same s2))

theorem RL.int {i : Int} (r : RL K C H S v (.int i)) : v = .int i := by cases r with | rd r => cases r; rfl
theorem RL.bl {i : Bool} (r : RL K C H S v (.bl i)) : v = .bl i := by cases r with | rd r => cases r; rfl
theorem RL.str {i : Str} (r : RL K C H S v (.str i)) : v = .str i := by cases r with | rd r => cases r; rfl
theorem RL.non (r : RL K C H S v .non) : v = .non := by cases r with | rd r => cases r; rfl
theorem RL.lst' {ds : List D} (r : RL K C H S v (.lst ds)) : ∃ a vs, v = .ref a ∧ H a = some (.lst vs) ∧ RDs K C H S vs ds := by
  cases r with
  | rd r => cases r with | lst s e r => exact ⟨_, _, rfl, e, r⟩
  | lst e r => exact ⟨_, _, rfl, e, r⟩
theorem RL.items {ds : List D} (r : RL K C H S v d) (e : d.items = some ds) : ∃ a vs, v = .ref a ∧ (SqL K H a vs ∨ SqT K H a vs) ∧ RDs K C H S vs ds := by
  cases r with
  | rd r => cases r with
    | lst s q r => cases e; exact ⟨_, _, rfl, .inl (SqL.of q), r⟩
    | tup s r => cases e; exact ⟨_, _, rfl, .inr s, r⟩
    | rol s r => cases e; exact ⟨_, _, rfl, .inl s.sq, r⟩
    | _ => cases e
  | lst q r => cases e; exact ⟨_, _, rfl, .inl (SqL.of q), r⟩
theorem RD.lift (r : RD K C H S v d) : RL K C H S v d := .rd r

/-! ### equality -/
mutual
def D.py : D → PyData
  | .non => .none
  | .bl b => .bool b
  | .int i => .int i
  | .str x => .str x
  | .lst ds => .list (D.pys ds)
  | .rol ds => .list (D.pys ds)
  | .tup ds => .tuple (D.pys ds)
  | .obj _ _ => .none
  | .dct _ _ => .none
def D.pys : List D → List PyData
  | [] => []
  | d :: ds => d.py :: D.pys ds
end
mutual
theorem eqv_py : ∀ {n m : Nat} (d e : D), d.lay n = true → e.lay m = true → PyData.eqv d.py e.py = d.eqv e
  | n, m, .obj _ _, e, h, h' => by cases n <;> simp [D.lay] at h
  | n, m, d, .obj _ _, h, h' => by cases m <;> simp [D.lay] at h'
  | n, m, .dct _ _, e, h, h' => by cases n <;> simp [D.lay] at h
  | n, m, d, .dct _ _, h, h' => by cases m <;> simp [D.lay] at h'
  | n, m, .non, e, h, h' => by cases e <;> simp [D.py, D.eqv, PyData.eqv] <;> (cases m <;> simp [D.lay] at h')
  | n, m, .bl _, e, h, h' => by cases e <;> simp [D.py, D.eqv, PyData.eqv] <;> (cases m <;> simp [D.lay] at h')
  | n, m, .int _, e, h, h' => by cases e <;> simp [D.py, D.eqv, PyData.eqv] <;> (cases m <;> simp [D.lay] at h')
  | n, m, .str _, e, h, h' => by cases e <;> simp [D.py, D.eqv, PyData.eqv] <;> (cases m <;> simp [D.lay] at h')
  | n + 1, m + 1, .lst xs, .lst ys, h, h' => by simp only [D.py, D.eqv, PyData.eqv]; exact eqvs_py xs ys (by simpa [D.lay] using h) (by simpa [D.lay] using h')
  | n + 1, m + 1, .lst xs, .rol ys, h, h' => by simp only [D.py, D.eqv, PyData.eqv]; exact eqvs_py xs ys (by simpa [D.lay] using h) (by simpa [D.lay] using h')
  | n + 1, m + 1, .rol xs, .lst ys, h, h' => by simp only [D.py, D.eqv, PyData.eqv]; exact eqvs_py xs ys (by simpa [D.lay] using h) (by simpa [D.lay] using h')
  | n + 1, m + 1, .rol xs, .rol ys, h, h' => by simp only [D.py, D.eqv, PyData.eqv]; exact eqvs_py xs ys (by simpa [D.lay] using h) (by simpa [D.lay] using h')
  | n + 1, m + 1, .tup xs, .tup ys, h, h' => by simp only [D.py, D.eqv, PyData.eqv]; exact eqvs_py xs ys (by simpa [D.lay] using h) (by simpa [D.lay] using h')
  | n + 1, m, .lst xs, .non, h, h' => by simp [D.py, D.eqv, PyData.eqv]
  | n + 1, m, .lst xs, .bl _, h, h' => by simp [D.py, D.eqv, PyData.eqv]
  | n + 1, m, .lst xs, .int _, h, h' => by simp [D.py, D.eqv, PyData.eqv]
  | n + 1, m, .lst xs, .str _, h, h' => by simp [D.py, D.eqv, PyData.eqv]
  | n + 1, m, .lst xs, .tup _, h, h' => by simp [D.py, D.eqv, PyData.eqv]
  | n + 1, m, .rol xs, .non, h, h' => by simp [D.py, D.eqv, PyData.eqv]
  | n + 1, m, .rol xs, .bl _, h, h' => by simp [D.py, D.eqv, PyData.eqv]
  | n + 1, m, .rol xs, .int _, h, h' => by simp [D.py, D.eqv, PyData.eqv]
  | n + 1, m, .rol xs, .str _, h, h' => by simp [D.py, D.eqv, PyData.eqv]
  | n + 1, m, .rol xs, .tup _, h, h' => by simp [D.py, D.eqv, PyData.eqv]
  | n + 1, m, .tup xs, .non, h, h' => by simp [D.py, D.eqv, PyData.eqv]
  | n + 1, m, .tup xs, .bl _, h, h' => by simp [D.py, D.eqv, PyData.eqv]
  | n + 1, m, .tup xs, .int _, h, h' => by simp [D.py, D.eqv, PyData.eqv]
  | n + 1, m, .tup xs, .str _, h, h' => by simp [D.py, D.eqv, PyData.eqv]
  | n + 1, m, .tup xs, .lst _, h, h' => by simp [D.py, D.eqv, PyData.eqv]
  | n + 1, m, .tup xs, .rol _, h, h' => by simp [D.py, D.eqv, PyData.eqv]
  | 0, m, .lst xs, e, h, h' => by simp [D.lay] at h
  | 0, m, .rol xs, e, h, h' => by simp [D.lay] at h
  | 0, m, .tup xs, e, h, h' => by simp [D.lay] at h
  | n, 0, _, .lst xs, h, h' => by simp [D.lay] at h'
  | n, 0, _, .rol xs, h, h' => by simp [D.lay] at h'
  | n, 0, _, .tup xs, h, h' => by simp [D.lay] at h'
theorem eqvs_py : ∀ {n m : Nat} (d e : List D), D.lays n d = true → D.lays m e = true → PyData.eqvAll (D.pys d) (D.pys e) = D.eqvs d e
  | _, _, [], [], _, _ => by simp [D.pys, D.eqvs, PyData.eqvAll]
  | _, _, [], _ :: _, _, _ => by simp [D.pys, D.eqvs, PyData.eqvAll]
  | _, _, _ :: _, [], _, _ => by simp [D.pys, D.eqvs, PyData.eqvAll]
  | n, m, x :: xs, y :: ys, h, h' => by
    simp [D.lays] at h h'
    simp only [D.pys, D.eqvs, PyData.eqvAll]
    rw [eqv_py x y h.1 h'.1, eqvs_py xs ys h.2 h'.2]
end
mutual
theorem lay_py : ∀ {n : Nat} (d : D), d.lay n = true → d.py.canLay0 = true ∧ d.py.depth ≤ n
  | n, .non, h => by simp [D.py, PyData.canLay0, PyData.depth]
  | n, .bl _, h => by simp [D.py, PyData.canLay0, PyData.depth]
  | n, .int _, h => by simp [D.py, PyData.canLay0, PyData.depth]
  | n, .str x, h => by
    have : PyData.strOk x = true := by cases n <;> simpa [D.lay] using h
    simp [D.py, PyData.canLay0, PyData.depth, this]
  | n + 1, .lst ds, h => by
    have := lays_py ds (by simpa [D.lay] using h)
    simp only [D.py, PyData.canLay0, PyData.depth]; exact ⟨this.1, by omega⟩
  | n + 1, .rol ds, h => by
    have := lays_py ds (by simpa [D.lay] using h)
    simp only [D.py, PyData.canLay0, PyData.depth]; exact ⟨this.1, by omega⟩
  | n + 1, .tup ds, h => by
    have := lays_py ds (by simpa [D.lay] using h)
    simp only [D.py, PyData.canLay0, PyData.depth]; exact ⟨this.1, by omega⟩
  | 0, .lst ds, h => by simp [D.lay] at h
  | 0, .rol ds, h => by simp [D.lay] at h
  | 0, .tup ds, h => by simp [D.lay] at h
  | n, .obj _ _, h => by cases n <;> simp [D.lay] at h
  | n, .dct _ _, h => by cases n <;> simp [D.lay] at h
theorem lays_py : ∀ {n : Nat} (d : List D), D.lays n d = true → PyData.canLayAll0 (D.pys d) = true ∧ PyData.depthAll (D.pys d) ≤ n
  | n, [], h => by simp [D.pys, PyData.canLayAll0, PyData.depthAll]
  | n, x :: xs, h => by
    simp [D.lays] at h
    have h1 := lay_py x h.1
    have h2 := lays_py xs h.2
    simp only [D.pys, PyData.canLayAll0, PyData.depthAll, Bool.and_eq_true]
    exact ⟨⟨h1.1, h2.1⟩, by omega⟩
end
theorem lay_shaped {n : Nat} (d : D) (h : d.lay n = true) (hn : n ≤ 64) : SeqAt.shaped d.py = true := by
  have := lay_py d h
  unfold SeqAt.shaped
  rw [this.1, Bool.true_and]
  exact decide_eq_true (by omega)
mutual
theorem RD.dp : ∀ {n : Nat} {v : V} {d : D}, d.lay n = true → RD K C H S v d → Dp K H v d.py
  | _, _, _, _, .non => by rw [D.py]; exact .non
  | _, _, _, _, .bl b => by rw [D.py]; exact .bl b
  | _, _, _, _, .int i => by rw [D.py]; exact .int i
  | _, _, _, _, .str x => by rw [D.py]; exact .str x
  | n + 1, _, _, h, .lst s e r => by rw [D.py]; exact .lst (SqL.of e) (RDs.dp (by simpa [D.lay] using h) r)
  | n + 1, _, _, h, .tup s r => by rw [D.py]; exact .tup s (RDs.dp (by simpa [D.lay] using h) r)
  | n + 1, _, _, h, .rol s r => by rw [D.py]; exact .lst s.sq (RDs.dp (by simpa [D.lay] using h) r)
  | 0, _, _, h, .lst s e r => by simp [D.lay] at h
  | 0, _, _, h, .tup s r => by simp [D.lay] at h
  | 0, _, _, h, .rol s r => by simp [D.lay] at h
  | n, _, _, h, .obj .. => by cases n <;> simp [D.lay] at h
  | n, _, _, h, .dct .. => by cases n <;> simp [D.lay] at h
theorem RDs.dp : ∀ {n : Nat} {vs : List V} {ds : List D}, D.lays n ds = true → RDs K C H S vs ds → DpAll K H vs (D.pys ds)
  | _, _, _, _, .nil => by rw [D.pys]; exact .nil
  | n, _, _, h, .cons r t => by
    simp [D.lays] at h
    rw [D.pys]
    exact .cons (RD.dp h.1 r) (RDs.dp h.2 t)
end
theorem RL.dp {n : Nat} (h : d.lay n = true) (r : RL K C H S v d) : Dp K H v d.py := by
  cases r with
  | rd r => exact r.dp h
  | lst e r =>
    cases n with
    | zero => simp [D.lay] at h
    | succ n => rw [D.py]; exact .lst (SqL.of e) (r.dp (by simpa [D.lay] using h))
/-- a number, a text, a truth value, None as a value -/
def D.toV : D → V
  | .bl b => .bl b
  | .int i => .int i
  | .str x => .str x
  | _ => .non
theorem RL.sc (r : RL K C H S v d) (h : d.sc = true) : v = d.toV := by
  cases d <;> first | (simp [D.sc] at h; done) | (cases r with | rd r => cases r; rfl)
theorem RDs.scs : ∀ {vs : List V} {ds : List D}, ds.all D.sc = true → RDs K C H S vs ds → vs = ds.map D.toV
  | _, _, _, .nil => rfl
  | _, _, h, .cons r t => by
    simp at h
    rw [RL.sc (.rd r) h.1, RDs.scs (by simpa using h.2) t]; rfl
theorem flat_toV (h : d.sc = true) : flatV d.toV = true := by cases d <;> simp_all [D.sc, D.toV, flatV]
theorem flat_toVs {ds : List D} (h : ds.all D.sc = true) : (ds.map D.toV).all flatV = true := by
  rw [List.all_map]
  rw [List.all_eq_true] at h ⊢
  exact fun x hx => flat_toV (h x hx)
theorem eqV_toV (h : d.sc = true) (h' : e.sc = true) : eqV d.toV e.toV = d.eqv e := by
  cases d <;> cases e <;> simp_all [D.sc, D.toV, eqV, D.eqv]
theorem inV_toV {ds : List D} (h : d.sc = true) (h' : ds.all D.sc = true) : inV d.toV (ds.map D.toV) = ds.any fun x => x.eqv d := by
  unfold inV
  rw [List.any_map]
  rw [List.all_eq_true] at h'
  induction ds with
  | nil => rfl
  | cons x xs ih =>
    rw [List.any_cons, List.any_cons, ih fun y hy => h' y (List.mem_cons_of_mem _ hy)]
    rw [Function.comp, eqV_toV (h' x (List.mem_cons_self ..)) h]
theorem intsOf_vals : ∀ {ds : List D} {ns : List Int} {vs : List V}, intsOf ds = some ns → RDs K C H S vs ds → vs = ns.map V.int
  | [], _, _, h, .nil => by simp [intsOf] at h; subst h; rfl
  | .int i :: ds, ns, _, h, .cons r t => by
    cases q : intsOf ds with
    | none => simp [intsOf, q] at h
    | some ms =>
      simp [intsOf, q] at h
      subst h
      rw [intsOf_vals q t, RL.int (.rd r)]; rfl
  | .non :: _, _, _, h, _ => by simp [intsOf] at h
  | .bl _ :: _, _, _, h, _ => by simp [intsOf] at h
  | .str _ :: _, _, _, h, _ => by simp [intsOf] at h
  | .lst _ :: _, _, _, h, _ => by simp [intsOf] at h
  | .tup _ :: _, _, _, h, _ => by simp [intsOf] at h
  | .rol _ :: _, _, _, h, _ => by simp [intsOf] at h
  | .obj _ _ :: _, _, _, h, _ => by simp [intsOf] at h
  | .dct _ _ :: _, _, _, h, _ => by simp [intsOf] at h
theorem RDs.atI {vs : List V} {ds : List D} {i : Int} (r : RDs K C H S vs ds) (e : atI ds i = some d) : ∃ v, L2.atI vs i = some v ∧ RD K C H S v d := by
  unfold L2.atI at e ⊢
  rw [r.length]
  cases q : ixN ds.length i with
  | none => rw [q] at e; simp at e
  | some j =>
    rw [q] at e
    simp only [Option.bind_some] at e ⊢
    exact r.get e
theorem RDs.cut {vs : List V} {ds : List D} {lo hi : Option Int} (r : RDs K C H S vs ds) : RDs K C H S (cutV vs lo hi) (cutD ds lo hi) := by
  unfold cutV cutD
  rw [r.length]
  exact (r.drop _).take _
theorem lim_size : lim ≤ sizeLine := by rw [sizeLine_eq]; decide
end
end Ev

set_option maxRecDepth 100000
set_option maxHeartbeats 4000000
/-! The world around a def, and each form of expression over the heap. -/
namespace Ev
open PySem PySem.Spec PyProof.Rows L2

/-- a def's promise: it hands back what F says, all that was there stays -/
def spF (K : PySem.W.Frag) (C : Kls) (F : List D → Res M) : Sp := fun vs H Q _ => ∃ (S : Addr → Prop) (ds : List D) (m : M), RDs K C H S vs ds ∧ (∀ a, S a → H a ≠ none) ∧ F ds = .ok m ∧
  ∀ v H' S' A, Same H H' → RM K C H' S' v m A → A.Nodup → (∀ a ∈ A, H a = none ∧ ¬ S' a) → (∀ a, S' a → S a ∨ H a = none) → (∀ a, S' a → H' a ≠ none) → Q v H'

/-- where a def raises: that it does, all that was there stays -/
def spX (K : PySem.W.Frag) (C : Kls) (NA : Addr) (F : List D → Res M) : Sp := fun vs H _ E => ∃ (S : Addr → Prop) (ds : List D), RDs K C H S vs ds ∧ (∀ a, S a → H a ≠ none) ∧ F ds = .ok (.frz (.bl true)) ∧ ∀ H', Same H H' → E (.ref NA) none H'
/-- what the errors' classes must say -/
structure ErrOk (K : PySem.W.Frag) (mg : Str → Option Value) (NA : Addr) : Prop where
  ex : ExcC K NA
  be : ∃ B : Addr, mg (Str.ofString "BeenError") = some (.ref B) ∧ PySem.W.exmOne K (.ref NA) (.ref B) = some true
  na : mg (Str.ofString "NotAllowed") = some (.ref NA) ∧ PySem.W.kitOne K (.ref NA) (.ref NA) = some true
  bt : ∃ B : Addr, mg (Str.ofString "BadText") = some (.ref B) ∧ PySem.W.kitOne K (.ref NA) (.ref B) = some false
  un : ∃ B : Addr, mg (Str.ofString "UnknownName") = some (.ref B) ∧ PySem.W.kitOne K (.ref NA) (.ref B) = some false
/-- an __init__'s promise: the new instance holds what F says, all else stays -/
def spI (K : PySem.W.Frag) (C : Kls) (c : Nat) (F : List D → Res M) : Sp := fun vs H Q _ => ∃ (x dx : Addr) (us : List V) (S : Addr → Prop) (ds es : List D), vs = .ref x :: us ∧ H x = some (.ins (C.at_ c) dx []) ∧ RDs K C H S us ds ∧ (∀ a, S a → H a ≠ none) ∧ ¬ S x ∧
  F ds = .ok (.frz (.obj c es)) ∧ ∀ H' S' fs, (∀ a o, a ≠ x → H a = some o → H' a = some o) → H' x = some (.ins (C.at_ c) dx fs) → fs.map (·.1) = fsOf c → RDs K C H' S' (fs.map (·.2)) es → (∀ a, S' a → S a ∨ H a = none) → (∀ a, S' a → H' a ≠ none) → Q .non H'
/-- .. where the later arguments stay the caller's own -/
def spIO (K : PySem.W.Frag) (C : Kls) (c np : Nat) (F : List D → Res M) : Sp := fun vs H Q _ => ∃ (x dx : Addr) (us ws : List V) (S : Addr → Prop) (ds hs es : List D) (A : List Addr), vs = .ref x :: (us ++ ws) ∧ H x = some (.ins (C.at_ c) dx []) ∧ RDs K C H S us ds ∧ ds.length = np ∧ RMs K C H S ws (ownMs hs) A ∧ A.Nodup ∧
  (∀ a ∈ A, ¬ S a ∧ a ≠ x) ∧ (∀ a, S a → H a ≠ none) ∧ ¬ S x ∧ F (ds ++ hs) = .ok (.frz (.obj c es)) ∧
  ∀ H' S' fs, (∀ a o, a ≠ x → H a = some o → H' a = some o) → H' x = some (.ins (C.at_ c) dx fs) → fs.map (·.1) = fsOf c → RDs K C H' S' (fs.map (·.2)) es → (∀ a, S' a → S a ∨ H a = none) → (∀ a, S' a → H' a ≠ none) → Q .non H'
def Kls.tyD (C : Kls) : D → Value
  | .non => .type "NoneType"
  | .bl _ => .type "bool"
  | .int _ => .type "int"
  | .str _ => .type "str"
  | .lst _ => .type "list"
  | .rol _ => .type "list"
  | .tup _ => .type "tuple"
  | .obj c _ => .ref (C.at_ c)
  | .dct _ _ => .type "dict"
def tyNm : Ty → String
  | .int => "int"
  | .bool => "bool"
  | .str => "str"
  | .lst => "list"
  | .tup => "tuple"
  | .cls c => clsNm c
def Kls.tyT (C : Kls) : Ty → Value
  | .cls c => .ref (C.at_ c)
  | t => .type (tyNm t)

/-- the module: the table of defs, constants, built-ins, classes -/
structure Wd (P : Program) (w : World) (K : PySem.W.Frag) (mg : Str → Option Value) (base : Heap) (CX : CXT) (C : Kls) (k : Nat) (Φ : String → List D → Res M) (G : String → Option D) (bl : List String) : Prop where
  tab : ∀ f, pnm f = false → (∃ (a : Addr) (fd : FuncData) (ps : List Str), FnOk P w K mg base CX k a fd ps (spF K C (Φ f)) ∧ mg (Str.ofString f) = some (.ref a) ∧ PySem.W.keepIn K (.ref a) = true ∧ Binds K fd ps []) ∨
    (∃ (c j : Nat) (a : Addr) (fd : FuncData) (ps : List Str), c < C.n ∧ Str.ofString f = Str.ofString (clsNm c) ∧ j + 1 ≤ k ∧ Mk K (C.at_ c) a ∧ FnOk P w K mg base CX j a fd ps (spI K C c (Φ f)) ∧ Binds K fd ps [] ∧ ∀ ds m, Φ f ds = .ok m → ∃ es, m = .frz (.obj c es)) ∨ ∀ ds m, Φ f ds ≠ .ok m
  tabX : ∀ f, xnm f = true → (∃ (NA a : Addr) (fd : FuncData) (ps : List Str), FnOk P w K mg base (L2.CX P w) k a fd ps (spX K C NA (Φ f)) ∧ mg (Str.ofString (xnf f)) = some (.ref a) ∧ PySem.W.keepIn K (.ref a) = true ∧ Binds K fd ps [] ∧ ErrOk K mg NA) ∨ ∀ ds m, Φ f ds ≠ .ok m
  tabK : ∀ f, knm f = true → (∃ (c j : Nat) (a : Addr) (fd : FuncData) (ps : List Str), c < C.n ∧ Str.ofString (knf f) = Str.ofString (clsNm c) ∧ j + 1 ≤ k ∧ Mk K (C.at_ c) a ∧ FnOk P w K mg base CX j a fd ps (spIO K C c (knp f) (Φ f)) ∧ Binds K fd ps [] ∧ ∀ ds m, Φ f ds = .ok m → ∃ es, m = .frz (.obj c es)) ∨ ∀ ds m, Φ f ds ≠ .ok m
  gl : ∀ x d, G x = some d → ∃ v u, mg (Str.ofString x) = some u ∧ RelV v u ∧ ∀ H S, RD K C H S v d
  bn : ∀ x ∈ bl, x ≠ "gcd" → mg (Str.ofString x) = none
  gcd : "gcd" ∈ bl → mg (Str.ofString "gcd") = some (.builtin "math.gcd")
  cls : ∀ c, c < C.n → Cls K (C.at_ c) ∧ (∀ f ∈ fsOf c, NoAttr K (C.at_ c) f) ∧ mg (Str.ofString (clsNm c)) = some (.ref (C.at_ c)) ∧ ∀ H a dx fs, H a = some (.ins (C.at_ c) dx fs) → TyX K H (.ref a) (.ref (C.at_ c))
  kit : ∀ t d, (∀ c, t = .cls c → c < C.n) → (∀ c fs, d = .obj c fs → c < C.n) → PySem.W.kitOne K (C.tyD d) (C.tyT t) = some (isiD t d)

structure Ctx (X : Cx) (CX : CXT) (C : Kls) (k : Nat) (Φ : String → List D → Res M) (G : String → Option D) (bl : List String) (N : List Str) (sc : Scope) : Prop where
  wd : Wd X.prog X.w X.K X.mg X.base CX C k Φ G bl
  hN : X.N = N
  nd : N.Nodup
  calm : X.calm = true
  room : Room k X.A
  pass : ∀ (Y : Cx), Y.prog = X.prog → Y.w = X.w → Passes CX Y E0
  loc : ∀ x, sc.names.lookup x = some .local → X.env.scope.names.lookup x = some .local
  cel : ∀ x, sc.names.lookup x = some .cell → X.env.scope.names.lookup x = some .cell
  fre : ∀ x, sc.names.lookup x = some .free → X.env.scope.names.lookup x = some .free ∨ X.env.scope.names.lookup x = some .cell
  glo : ∀ x, sc.names.lookup x = some .globalImplicit → X.env.scope.names.lookup x = some .globalImplicit
  fn : ∀ x, sc.names.lookup x = some .cell → X.fn x = true
  kind : X.env.scope.kind = .function

/-! ### forms of the text -/
def plainB : Expr → Bool
  | .Starred .. => false
  | .Slice .. => false
  | .Set .. => false
  | _ => true
def plainT : Expr → Bool
  | .UnaryOp .Not _ _ => false
  | .BoolOp .. => false
  | .IfExp .. => false
  | .Compare .. => false
  | _ => true
def plainC : Expr → Bool
  | .ListComp .. => false
  | .SetComp .. => false
  | .DictComp .. => false
  | _ => true
def plainO : Expr → Bool
  | .Call _ [] [] _ => false
  | _ => true
theorem star_plain {e : Expr} {es : List Expr} {env : Env} (h : plainB e = true) : starEach (e :: es) env = (false, eval e env) :: starEach es env := by
  cases e <;> first | rfl | (simp [plainB] at h)
theorem back_plain {pos : Pos} {env : Env} : ∀ {es : List Expr}, es.all plainB = true → (backTo pos (starEach es env)).any (·.1) = false
  | [], _ => rfl
  | e :: es, h => by
    simp at h
    rw [star_plain h.1]
    show ((false || (backTo pos (starEach es env)).any (·.1)) = false)
    rw [back_plain (by simpa using h.2)]; rfl
theorem behind_plain {e : Expr} {op : CmpOp} (h : plainB e = true) : behindInMarks op e = false := by
  cases e <;> first | rfl | (simp [plainB] at h)
theorem ix_plain {e : Expr} (h : plainB e = true) : PlainIx e := by
  intro o i
  cases e <;> first | rfl | (simp [plainB] at h)
theorem fold_plain {e : Expr} {env : Env} (h : plainB e = true) : ∀ x, foldedSetIterable e env x = pure x := by
  intro x
  cases e <;> first | rfl | (simp [plainB] at h)
theorem true_plain {e : Expr} {env : Env} (h : plainT e = true) : ∀ whole, isTrue e env whole = (do let v ← whole; standAt e.pos; holding [v] (truthy v)) := by
  intro wh
  cases e <;> first | rfl | (simp [plainT] at h; done) | (rename_i op _ _; cases op <;> first | rfl | (simp [plainT] at h))
theorem base_plain {e : Expr} {n : Str} {env : Env} (h : plainO e = true) : attributeBase e n env (eval e env) = eval e env := by
  cases e <;> first | rfl | skip
  rename_i f args kws pos
  cases args with
  | nil => cases kws with
    | nil => simp [plainO] at h
    | cons _ _ => cases f <;> rfl
  | cons _ _ => cases f <;> rfl
theorem swaps_plain {e : Expr} {t : Option Expr} {l : Nat} {env : Env} (h : plainC e = true) : swapsWith e t l env = pure false := by
  cases e <;> first | rfl | (simp [plainC] at h)
theorem swaps_tup {e : Expr} {ts : List Expr} {k : Nat} {pos : Pos} {l : Nat} {env : Env} : swapsWith e (some (.Tuple ts k pos)) l env = pure false := by
  cases e <;> rfl
theorem swaps_sub {e : Expr} {a b : Expr} {pos : Pos} {l : Nat} {env : Env} : swapsWith e (some (.Subscript a b pos)) l env = pure false := by
  cases e <;> rfl
theorem sole_tup {e : Expr} {ts : List Expr} {k : Nat} {pos : Pos} {l : Nat} {env : Env} : swapsWithSole [.Tuple ts k pos] e l env = pure false := swaps_tup (ts := ts) (k := k) (pos := pos) (l := l) (env := env) (e := e)
theorem sole_sub {e : Expr} {a b : Expr} {pos : Pos} {l : Nat} {env : Env} : swapsWithSole [.Subscript a b pos] e l env = pure false := swaps_sub (a := a) (b := b) (pos := pos) (l := l) (env := env) (e := e)
def notTup : Expr → Bool
  | .Tuple .. => false
  | _ => true
theorem stores_plain {e t : Expr} {env : Env} (h : notTup e = true) : swappedStores [t] e env = pure none := by
  cases e <;> first | (cases t <;> rfl) | (simp [notTup] at h)

section
variable {X : Cx} {CX : CXT} {C : Kls} {k : Nat} {Φ : String → List D → Res M} {G : String → Option D} {bl : List String} {N : List Str} {sc : Scope}

theorem pe_imp {e : Expr} {t t' : TE} (h : PE X e t) (hh : ∀ σ H Q, t' σ H Q → t σ H Q) : PE X e t' := ⟨fun pins s σ H Q I q => h.run pins s σ H Q I (hh σ H Q q)⟩
theorem pt_imp {e : Expr} {t t' : TT} (h : PT X e t) (hh : ∀ σ H Q, t' σ H Q → t σ H Q) : PT X e t' := ⟨fun pins s σ H Q I q => h.run pins s σ H Q I (hh σ H Q q)⟩
theorem pw_imp {e : Expr} {t t' : TT} (h : PW X e t) (hh : ∀ σ H Q, t' σ H Q → t σ H Q) : PW X e t' := ⟨fun wh pins s σ H Q I q => h.run wh pins s σ H Q I (hh σ H Q q)⟩
theorem pa_imp {e : List Expr} {t t' : TA} (h : PA X e t) (hh : ∀ σ H Q, t' σ H Q → t σ H Q) : PA X e t' := ⟨fun pos pins s σ H Q I q => h.run pos pins s σ H Q I (hh σ H Q q)⟩
theorem ps_imp {e : Stmt} {t t' : TS} (h : PS X e t) (hh : ∀ D σ H, t' D σ H → t D σ H) : PS X e t' := ⟨fun pins s σ H D I q => h.run pins s σ H D I (hh D σ H q)⟩
theorem pss_imp {e : List Stmt} {t t' : TS} (h : PSs X e t) (hh : ∀ D σ H, t' D σ H → t D σ H) : PSs X e t' := ⟨fun pins s σ H D I q => h.run pins s σ H D I (hh D σ H q)⟩

def nmOk (N : List Str) (sc : Scope) (x : Str) (i : Nat) : Bool := decide (N[i]? = some x) && !(x == ("__debug__" : Str)) && !(x == ("__classdict__" : Str)) &&
  match sc.names.lookup x with
  | some .local => true
  | some .cell => true
  | some .free => true
  | _ => false
def stOk (N : List Str) (sc : Scope) (x : Str) (i : Nat) : Bool := decide (N[i]? = some x) &&
  match sc.names.lookup x with
  | some .local => true
  | some .cell => true
  | _ => false
def glOk (sc : Scope) (x : Str) (f : String) : Bool := decide (x = Str.ofString f) && decide (sc.names.lookup x = some .globalImplicit) && !(x == ("__debug__" : Str))

variable (cx : Ctx X CX C k Φ G bl N sc)
include cx
theorem Ctx.vis {x : Str} {i : Nat} (h : nmOk N sc x i = true) : X.N[i]? = some x ∧ Vis X.env.scope x ∧ (x == ("__debug__" : Str)) = false ∧ (x == ("__classdict__" : Str)) = false := by
  unfold nmOk at h
  simp only [Bool.and_eq_true, decide_eq_true_eq, Bool.not_eq_true'] at h
  obtain ⟨⟨⟨h1, h2⟩, h3⟩, h4⟩ := h
  refine ⟨by rw [cx.hN]; exact h1, ?_, h2, h3⟩
  cases q : sc.names.lookup x with
  | none => rw [q] at h4; simp at h4
  | some kd =>
    rw [q] at h4
    cases kd with
    | «local» => exact .inl (cx.loc x q)
    | cell => exact .inr (.inl (cx.cel x q))
    | free => exact (cx.fre x q).elim (fun z => .inr (.inr z)) fun z => .inr (.inl z)
    | globalExplicit => simp at h4
    | globalImplicit => simp at h4
theorem Ctx.st {x : Str} {i : Nat} (h : stOk N sc x i = true) : X.N[i]? = some x ∧ Loc X.env.scope x ∧ (X.fn x = true ∨ X.env.scope.names.lookup x = some .local) := by
  unfold stOk at h
  simp only [Bool.and_eq_true, decide_eq_true_eq] at h
  obtain ⟨h1, h4⟩ := h
  refine ⟨by rw [cx.hN]; exact h1, ?_⟩
  cases q : sc.names.lookup x with
  | none => rw [q] at h4; simp at h4
  | some kd =>
    rw [q] at h4
    cases kd with
    | «local» => exact ⟨.inl (cx.loc x q), .inr (cx.loc x q)⟩
    | cell => exact ⟨.inr (cx.cel x q), .inl (cx.fn x q)⟩
    | free => simp at h4
    | globalExplicit => simp at h4
    | globalImplicit => simp at h4
theorem Ctx.gl {x : Str} {f : String} (h : glOk sc x f = true) : x = Str.ofString f ∧ Gl X x ∧ (x == ("__debug__" : Str)) = false := by
  unfold glOk at h
  simp only [Bool.and_eq_true, decide_eq_true_eq, Bool.not_eq_true'] at h
  obtain ⟨⟨h1, h2⟩, h3⟩ := h
  exact ⟨h1, cx.glo x h2, h3⟩
omit cx
theorem Ctx.nd' (cx : Ctx X CX C k Φ G bl N sc) : X.N.Nodup := by rw [cx.hN]; exact cx.nd

/-! ### readings -/
def REv (K : PySem.W.Frag) (C : Kls) (r : Res (M × Tn)) (c : Cf) (H : Hp) (Q : VK) : Prop := match r with
  | .ok (m, T) => ∀ v H', Same H H' → EPost K C c H H' v m T → Q v H'
  | _ => False
def RLv (K : PySem.W.Frag) (C : Kls) (r : Res (D × Tn)) (c : Cf) (H : Hp) (Q : VK) : Prop := match r with
  | .ok (d, T) => ∀ v H', Same H H' → LPost K C c H H' v d T → Q v H'
  | _ => False
def APost (K : PySem.W.Frag) (C : Kls) (c : Cf) (H H' : Hp) (vs : List V) (ds : List D) (T : Tn) : Prop := ∃ S, Gw c T H H' S ∧ RDs K C H' S vs ds
def RAv (K : PySem.W.Frag) (C : Kls) (r : Res (List D × Tn)) (c : Cf) (H : Hp) (Q : List V → Hp → Prop) : Prop := match r with
  | .ok (ds, T) => ∀ vs H', Same H H' → APost K C c H H' vs ds T → Q vs H'
  | _ => False
def RTv (r : Res Bool) (c : Cf) (H : Hp) (Q : Bool → Hp → Prop) : Prop := match r with
  | .ok b => ∀ H', Same H H' → Q b H'
  | _ => False
def tEv (K : PySem.W.Frag) (C : Kls) (Φ : String → List D → Res M) (G : String → Option D) (e : E) : TE := fun σ H Q => ∃ c, Ok K C c σ H ∧ REv K C (ev Φ G e c.g) c H Q
def tLv (K : PySem.W.Frag) (C : Kls) (Φ : String → List D → Res M) (G : String → Option D) (e : E) : TE := fun σ H Q => ∃ c, Ok K C c σ H ∧ RLv K C (lvw e c.g (ev Φ G e c.g)) c H Q
def tAv (K : PySem.W.Frag) (C : Kls) (Φ : String → List D → Res M) (G : String → Option D) (e : Es) : TA := fun σ H Q => ∃ c, Ok K C c σ H ∧ RAv K C (evs Φ G e c.g) c H Q
def tTv (K : PySem.W.Frag) (C : Kls) (Φ : String → List D → Res M) (G : String → Option D) (e : E) : TT := fun σ H Q => ∃ c, Ok K C c σ H ∧ RTv (tv Φ G e c.g (ev Φ G e c.g)) c H Q
/-- a part of a slice -/
def ROv (r : Res (Option Int)) (c : Cf) (H : Hp) (Q : Option Int → Hp → Prop) : Prop := match r with
  | .ok o => ∀ H', Same H H' → Q o H'
  | _ => False
def tOv (K : PySem.W.Frag) (C : Kls) (Φ : String → List D → Res M) (G : String → Option D) (e : Eo) : TO := fun σ H Q => ∃ c, Ok K C c σ H ∧ ROv (evo Φ G e c.g) c H Q

variable {x x1 x2 x3 : Expr} {xs : List Expr} {pos : Pos} {a b e : E} {es : Es}

/-- the reading of a read name -/
theorem snd_slot (cx : Ctx X CX C k Φ G bl N sc) {n : Str} {i : Nat} (h : nmOk N sc n i = true) : PE X (.Name n pos) (tEv X.K C Φ G (.slot i)) := by
  obtain ⟨h1, h2, h3, h4⟩ := cx.vis h
  refine pe_imp (pe_var h1 h2 h3 h4) fun σ H Q ⟨c, ok, q⟩ => ?_
  cases hg : c.g[i]? with
  | none => rw [ev, hg] at q; exact q.elim
  | some o =>
    cases o with
    | none => rw [ev, hg] at q; exact q.elim
    | some m =>
      obtain ⟨v, e1, r⟩ := ok.slot i m hg
      refine ⟨v, e1, ?_⟩
      have gen : EPost X.K C c H H v (.frz m.toD) [i] := by
        refine .of_rd (S := fun a => c.S a ∨ a ∈ c.fp i) ⟨fun a z => z.imp_right fun z => .inl ⟨i, by simp, z⟩, fun a z => z.elim (ok.live a) fun z => ?_⟩ r.toD
        obtain ⟨⟨o, e, _⟩, _⟩ := ok.own i a z
        rw [e]; simp
      cases m with
      | frz d =>
        rw [ev, hg] at q
        exact q v H (Same.refl H) (.of_rd (Gw.self ok (Same.refl H)) r.frz'.2)
      | fl ds => rw [ev, hg] at q; exact q v H (Same.refl H) gen
      | lst ds => rw [ev, hg] at q; exact q v H (Same.refl H) gen
      | tup ds => rw [ev, hg] at q; exact q v H (Same.refl H) gen
      | obj _ ds => rw [ev, hg] at q; exact q v H (Same.refl H) gen
theorem snd_slotL (cx : Ctx X CX C k Φ G bl N sc) {n : Str} {i : Nat} (h : nmOk N sc n i = true) : PE X (.Name n pos) (tLv X.K C Φ G (.slot i)) := by
  obtain ⟨h1, h2, h3, h4⟩ := cx.vis h
  refine pe_imp (pe_var h1 h2 h3 h4) fun σ H Q ⟨c, ok, q⟩ => ?_
  rw [lvw, lvS] at q
  cases hg : c.g[i]? with
  | none => rw [hg] at q; exact q.elim
  | some o =>
    cases o with
    | none => rw [hg] at q; exact q.elim
    | some m =>
      rw [hg] at q
      obtain ⟨v, e1, r⟩ := ok.slot i m hg
      refine ⟨v, e1, ?_⟩
      have gen : LPost X.K C c H H v m.toD [i] := by
        refine ⟨fun a => c.S a ∨ a ∈ c.fp i, ⟨fun a z => z.imp_right fun z => .inl ⟨i, by simp, z⟩, fun a z => z.elim (ok.live a) fun z => ?_⟩, .rd r.toD⟩
        obtain ⟨⟨o, e, _⟩, _⟩ := ok.own i a z
        rw [e]; simp
      cases m with
      | frz d =>
        exact q v H (Same.refl H) ⟨_, Gw.self ok (Same.refl H), .rd r.frz'.2⟩
      | fl ds =>
        obtain ⟨a, vs, rfl, _, e, r⟩ := r.fl'
        exact q _ H (Same.refl H) ⟨_, Gw.self ok (Same.refl H), .lst e r⟩
      | lst ds => exact q v H (Same.refl H) gen
      | tup ds => exact q v H (Same.refl H) gen
      | obj _ ds => exact q v H (Same.refl H) gen
def notSlot : E → Bool
  | .slot _ => false
  | _ => true
theorem lvw_not {g : Gm} {r : Res (M × Tn)} (h : notSlot a = true) : lvw a g r = r.bind fun r => .ok (r.1.toD, r.2) := by
  cases a <;> first | rfl | (simp [notSlot] at h)
theorem snd_lv (h : PE X x (tEv X.K C Φ G a)) (hn : notSlot a = true) : PE X x (tLv X.K C Φ G a) := by
  refine pe_imp h fun σ H Q ⟨c, ok, q⟩ => ⟨c, ok, ?_⟩
  rw [lvw_not hn] at q
  cases r : ev Φ G a c.g with
  | no => rw [r] at q; exact q.elim
  | ex _ => rw [r] at q; exact q.elim
  | ok z =>
    rw [r] at q
    exact fun v H' s p => q v H' s p.lp

/-- two looked-at values in a row -/
theorem two_lv {σ : L2.St} {H : Hp} {c : Cf} (ok : Ok X.K C c σ H) {da db : D} {Ta Tb : Tn} (ha : lvw a c.g (ev Φ G a c.g) = .ok (da, Ta)) (hb : lvw b c.g (ev Φ G b c.g) = .ok (db, Tb)) {R : V → V → Hp → Prop}
    (h : ∀ v w H', Same H H' → LPost X.K C c H H' v da Ta → LPost X.K C c H H' w db Tb → R v w H') : tLv X.K C Φ G a σ H fun v H1 => tLv X.K C Φ G b σ H1 fun w H2 => R v w H2 := by
  refine ⟨c, ok, ?_⟩
  rw [ha]
  intro v H1 s1 p1
  refine ⟨c, ok.same s1, ?_⟩
  rw [hb]
  intro w H2 s2 p2
  exact h v w H2 (s1.trans s2) (p1.right s2) (p2.left s1)
theorem two_ev {σ : L2.St} {H : Hp} {c : Cf} (ok : Ok X.K C c σ H) {da db : M} {Ta Tb : Tn} (ha : ev Φ G a c.g = .ok (da, Ta)) (hb : ev Φ G b c.g = .ok (db, Tb)) {R : V → V → Hp → Prop}
    (h : ∀ v w H', Same H H' → EPost X.K C c H H' v da Ta → EPost X.K C c H H' w db Tb → R v w H') : tEv X.K C Φ G a σ H fun v H1 => tEv X.K C Φ G b σ H1 fun w H2 => R v w H2 := by
  refine ⟨c, ok, ?_⟩
  rw [ha]
  intro v H1 s1 p1
  refine ⟨c, ok.same s1, ?_⟩
  rw [hb]
  intro w H2 s2 p2
  exact h v w H2 (s1.trans s2) (p1.right s2) (p2.left s1)
end
end Ev

set_option maxRecDepth 100000
set_option maxHeartbeats 4000000
/-! Each form of expression. -/
namespace Ev
open PySem PySem.Spec PyProof.Rows L2
section
variable {X : Cx} {CX : CXT} {C : Kls} {k : Nat} {Φ : String → List D → Res M} {G : String → Option D} {bl : List String} {N : List Str} {sc : Scope}
variable {x x1 x2 x3 : Expr} {xs : List Expr} {pos : Pos} {a b e : E} {es : Es} {c : Cf} {σ : L2.St} {H : Hp}

/-! ### what a reading's answer is -/
theorem RLv.ok_of {r : Res (D × Tn)} {Q : VK} (h : RLv X.K C r c H Q) : ∃ d T, r = .ok (d, T) := by
  cases r with
  | no => exact h.elim
  | ex _ => exact h.elim
  | ok z => exact ⟨z.1, z.2, rfl⟩
theorem REv.ok_of {r : Res (M × Tn)} {Q : VK} (h : REv X.K C r c H Q) : ∃ d T, r = .ok (d, T) := by
  cases r with
  | no => exact h.elim
  | ex _ => exact h.elim
  | ok z => exact ⟨z.1, z.2, rfl⟩
theorem REv.bind {α : Type} {r : Res α} {f : α → Res (M × Tn)} {Q : VK} (h : REv X.K C (r.bind f) c H Q) : ∃ z, r = .ok z ∧ REv X.K C (f z) c H Q := by
  cases r with
  | no => exact h.elim
  | ex _ => exact h.elim
  | ok z => exact ⟨z, rfl, h⟩
theorem RTv.bind {α : Type} {r : Res α} {f : α → Res Bool} {Q : Bool → Hp → Prop} (h : RTv (r.bind f) c H Q) : ∃ z, r = .ok z ∧ RTv (f z) c H Q := by
  cases r with
  | no => exact h.elim
  | ex _ => exact h.elim
  | ok z => exact ⟨z, rfl, h⟩
theorem RAv.bind {α : Type} {r : Res α} {f : α → Res (List D × Tn)} {Q : List V → Hp → Prop} (h : RAv X.K C (r.bind f) c H Q) : ∃ z, r = .ok z ∧ RAv X.K C (f z) c H Q := by
  cases r with
  | no => exact h.elim
  | ex _ => exact h.elim
  | ok z => exact ⟨z, rfl, h⟩
theorem Res.of_ok {α : Type} {o : Option α} {a : α} (h : Res.of o = .ok a) : o = some a := Res.of_eq_ok h

/-! ### operators -/
theorem noPylong_near {x y : Int} (h : x.natAbs.log2 ≤ y.natAbs.log2 + 4400) (hy : y ≠ 0) : Builtin.divisionGoesByPylong x y = false := by
  have hy' : (y == 0) = false := by simpa using hy
  have h2 : ¬ ((if x == 0 then 0 else x.natAbs.log2 / 30 + 1) > (if y == 0 then 0 else y.natAbs.log2 / 30 + 1) + 150) := by
    rw [hy', if_neg (c := false = true) (by decide)]
    split <;> omega
  show (decide ((if y == 0 then 0 else y.natAbs.log2 / 30 + 1) > 300) && decide ((if x == 0 then 0 else x.natAbs.log2 / 30 + 1) > (if y == 0 then 0 else y.natAbs.log2 / 30 + 1) + 150)) = false
  rw [decide_eq_false h2, Bool.and_false]
theorem noPylong_of {x y : Int} (h : y ≠ 0 ∧ (y.natAbs.log2 < 9000 ∨ x.natAbs.log2 ≤ y.natAbs.log2 + 4400)) : Builtin.divisionGoesByPylong x y = false := by
  rcases h.2 with k | k
  · exact PyProof.noPylong_of_log2 k
  · exact noPylong_near k h.1
theorem op_fdivX : OpR X (binaryOp .FloorDiv) (rI (fun i j => j ≠ 0 ∧ (j.natAbs.log2 < 9000 ∨ i.natAbs.log2 ≤ j.natAbs.log2 + 4400)) fun i j => .int (i.fdiv j)) := opI fun i j _ _ _ _ _ hc q =>
  floordiv_int hc.1 q (.inl (noPylong_of hc))
theorem mulx_of {i j : Int} (h : i.natAbs.log2 + j.natAbs.log2 < 100000000) : CMulX i j := by
  have b : ∀ x : Int, Builtin.Int.intBits x ≤ x.natAbs.log2 + 1 := fun x => by
    unfold Builtin.Int.intBits
    split <;> omega
  have h1 := b i
  have h2 := b j
  unfold CMulX
  omega
def pyOp : Op → Operator
  | .add => .Add
  | .sub => .Sub
  | .mul => .Mult
  | .fdiv => .FloorDiv
  | .mod => .Mod
  | .pow => .Pow
def rBin (o : Op) : R2 := match o with
  | .add => fun x y H Q => ((rI0 fun i j => V.int (i + j)) x y H Q ∨ ∃ i j, x = .str i ∧ y = .str j ∧ i.length + j.length ≤ sizeLine ∧ Q (.str (i ++ j)) H) ∨ rCat x y H Q
  | .sub => rI0 fun i j => .int (i - j)
  | .mul => fun x y H Q => (rI CMul fun i j => V.int (i * j)) x y H Q ∨ (rI CMulX fun i j => V.int (i * j)) x y H Q
  | .fdiv => rI (fun i j => j ≠ 0 ∧ (j.natAbs.log2 < 9000 ∨ i.natAbs.log2 ≤ j.natAbs.log2 + 4400)) fun i j => .int (i.fdiv j)
  | .mod => rI (fun _ j => 0 < j) fun i j => .int (i % j)
  | .pow => rI CPow fun i j => .int (i ^ j.toNat)
theorem op_bin (o : Op) : OpR X (binaryOp (pyOp o)) (rBin o) := by
  cases o with
  | add => exact (op_add.or op_add_str).or op_cat
  | sub => exact op_sub
  | mul => exact op_mul.or op_mulX
  | fdiv => exact op_fdivX
  | mod => exact op_mod
  | pow => exact op_pow
theorem lim_le {n : Nat} (h : n ≤ lim) : n ≤ sizeLine := Nat.le_trans h lim_size
theorem lim_lt {n : Nat} (h : n < lim) : n < sizeLine := Nat.lt_of_lt_of_le h lim_size
theorem LPost.ofI {H' : Hp} {v : V} {i : Int} {T : Tn} (h : LPost X.K C c H H' v (.int i) T) : v = .int i := let ⟨_, _, r⟩ := h; r.int
theorem LPost.ofB {H' : Hp} {v : V} {i : Bool} {T : Tn} (h : LPost X.K C c H H' v (.bl i) T) : v = .bl i := let ⟨_, _, r⟩ := h; r.bl
theorem LPost.ofS {H' : Hp} {v : V} {i : Str} {T : Tn} (h : LPost X.K C c H H' v (.str i) T) : v = .str i := let ⟨_, _, r⟩ := h; r.str
theorem LPost.ofN {H' : Hp} {v : V} {T : Tn} (h : LPost X.K C c H H' v .non T) : v = .non := let ⟨_, _, r⟩ := h; r.non
theorem EPost.as {H' : Hp} {v : V} {m : M} {d : D} {T : Tn} (h : EPost X.K C c H H' v m T) (e : m.toD = d) : LPost X.K C c H H' v d T := e ▸ h.lp

theorem binD_op {o : Op} {d e z : D} (hz : binD o d e = some z) {v w : V} {H' : Hp} {T U : Tn} (p : LPost X.K C c H H' v d T) (q : LPost X.K C c H H' w e U) {Q : VK} (h : ∀ v', EPost X.K C c H H' v' (.frz z) [] → Q v' H') : rBin o v w H' Q := by
  cases o <;> cases d <;> cases e <;> simp only [binD, reduceCtorEq] at hz
  case add.int.int i j => cases hz; exact .inl (.inl ⟨i, j, p.ofI, q.ofI, h _ (epost_int _)⟩)
  case add.str.str i j =>
    split at hz
    · cases hz; rename_i hl; exact .inl (.inr ⟨i, j, p.ofS, q.ofS, lim_le hl, h _ (epost_str _)⟩)
    · cases hz
  case sub.int.int i j => cases hz; exact ⟨i, j, p.ofI, q.ofI, h _ (epost_int _)⟩
  case mul.int.int i j =>
    split at hz
    · cases hz
      rename_i hl
      rcases hl with hl | hl
      · refine .inl ⟨i, j, p.ofI, q.ofI, ?_, h _ (epost_int _)⟩
        unfold CMul
        rcases hl with hl | hl
        · left; omega
        · right; omega
      · exact .inr ⟨i, j, p.ofI, q.ofI, mulx_of hl, h _ (epost_int _)⟩
    · cases hz
  case fdiv.int.int i j =>
    split at hz
    · cases hz; rename_i hl; exact ⟨i, j, p.ofI, q.ofI, hl, h _ (epost_int _)⟩
    · cases hz
  case mod.int.int i j =>
    split at hz
    · cases hz; rename_i hl; exact ⟨i, j, p.ofI, q.ofI, hl, h _ (epost_int _)⟩
    · cases hz
  case pow.int.int i j =>
    split at hz
    · cases hz; rename_i hl; exact ⟨i, j, p.ofI, q.ofI, ⟨hl.1, by omega, by omega⟩, h _ (epost_int _)⟩
    · cases hz
theorem cat_op {ds es : List D} {v w : V} {H' : Hp} {T U : Tn} (s : Same H H') (p : LPost X.K C c H H' v (.lst ds) T) (q : LPost X.K C c H H' w (.lst es) U) (hl : ds.length + es.length < lim) {Q : VK}
    (h : ∀ v' H2, Same H' H2 → EPost X.K C c H H2 v' (.fl (ds ++ es)) (T ++ U) → Q v' H2) : rBin .add v w H' Q := by
  obtain ⟨S1, g1, r1⟩ := p
  obtain ⟨S2, g2, r2⟩ := q
  obtain ⟨a, vs, rfl, ea, ra⟩ := r1.lst'
  obtain ⟨b, ws, rfl, eb, rb⟩ := r2.lst'
  refine .inr ⟨a, b, vs, ws, rfl, rfl, ea, eb, ?_, fun p np => h _ _ (same_upd np) ?_⟩
  · rw [ra.length, rb.length]; exact Nat.le_of_lt (lim_lt hl)
  · exact epost_fl s (g1.or g2) ((ra.sub fun _ z => .inl z).append (rb.sub fun _ z => .inr z)) np
theorem snd_bin {o : Op} (ha : PE X x1 (tLv X.K C Φ G a)) (hb : PE X x2 (tLv X.K C Φ G b)) : PE X (.BinOp x1 (pyOp o) x2 pos) (tEv X.K C Φ G (.bin o a b)) := by
  refine pe_imp (pe_op (op_bin o) ha hb) fun σ H Q ⟨c, ok, q⟩ => ?_
  rw [ev] at q
  obtain ⟨⟨da, Ta⟩, ea, q1⟩ := q.bind
  obtain ⟨⟨db, Tb⟩, eb, q2⟩ := q1.bind
  clear q q1
  have q := q2
  clear q2
  refine two_lv ok ea eb fun v w H' s p1 p2 => ?_
  have gen : (∃ z, binD o da db = some z ∧ REv X.K C (.ok (.frz z, [])) c H Q) → rBin o v w H' Q := fun ⟨z, ez, q⟩ => binD_op ez p1 p2 fun v' pp => q v' H' s pp
  have gen2 : REv X.K C ((Res.of (binD o da db)).bind fun v => .ok (.frz v, [])) c H Q → rBin o v w H' Q := fun q => by
    obtain ⟨z, ez, q⟩ := q.bind
    exact gen ⟨z, Res.of_ok ez, q⟩
  cases o with
  | add =>
    cases da <;> cases db <;> first | exact gen2 q | skip
    rename_i ds es
    have q' : REv X.K C (if ds.length + es.length < lim then .ok (.fl (ds ++ es), Ta ++ Tb) else .no) c H Q := q
    by_cases hl : ds.length + es.length < lim
    · rw [if_pos hl] at q'
      exact cat_op s p1 p2 hl fun v' H2 s2 pp => q' v' H2 (s.trans s2) pp
    · rw [if_neg hl] at q'; exact q'.elim
  | sub => exact gen2 q
  | mul => exact gen2 q
  | fdiv => exact gen2 q
  | mod => exact gen2 q
  | pow => exact gen2 q

theorem snd_neg (ha : PE X x (tEv X.K C Φ G a)) : PE X (.UnaryOp .USub x pos) (tEv X.K C Φ G (.neg a)) := by
  refine pe_imp (pe_un un_neg ha) fun σ H Q ⟨c, ok, q⟩ => ?_
  rw [ev] at q
  obtain ⟨⟨m, T⟩, ea, q⟩ := q.bind
  refine ⟨c, ok, ?_⟩
  rw [ea]
  intro v H' s p
  cases hm : m.toD <;> simp only [hm] at q <;> first | exact q.elim | skip
  rename_i i
  exact ⟨i, (p.as hm).ofI, q _ H' s (epost_int _)⟩

/-! ### comparisons -/
def pyCp : Cp → CmpOp
  | .eq => .Eq
  | .ne => .NotEq
  | .lt => .Lt
  | .le => .LtE
  | .gt => .Gt
  | .ge => .GtE
  | .isN => .Is
  | .isNt => .IsNot
  | .isIn => .In
  | .ntIn => .NotIn
def rCp (K : PySem.W.Frag) (o : Cp) : R2 := match o with
  | .eq => fun x y H Q => rEq x y H Q ∨ rEqD K x y H Q
  | .ne => fun x y H Q => rNe x y H Q ∨ rNeD K x y H Q
  | .lt => rI0 fun i j => .bl (decide (i < j))
  | .le => rI0 fun i j => .bl (decide (i ≤ j))
  | .gt => rI0 fun i j => .bl (decide (j < i))
  | .ge => rI0 fun i j => .bl (decide (j ≤ i))
  | .isN => fun x y H Q => (y = .non ∧ Q (.bl (decide (x = .non))) H) ∨ ∃ a b, x = .bl a ∧ y = .bl b ∧ Q (.bl (decide (a = b))) H
  | .isNt => fun x y H Q => (y = .non ∧ Q (.bl (!decide (x = .non))) H) ∨ ∃ a b, x = .bl a ∧ y = .bl b ∧ Q (.bl (!decide (a = b))) H
  | .isIn => fun x y H Q => (∃ i j, x = .str i ∧ y = .str j ∧ Q (.bl (!(Builtin.Str.occurrences j i 0 j.length 1).isEmpty)) H) ∨ rIn K false x y H Q
  | .ntIn => fun x y H Q => (∃ i j, x = .str i ∧ y = .str j ∧ Q (.bl (!(!(Builtin.Str.occurrences j i 0 j.length 1).isEmpty))) H) ∨ rIn K true x y H Q
theorem op_isB : OpR X (compareOp .Is) (fun x y H Q => ∃ a b, x = .bl a ∧ y = .bl b ∧ Q (.bl (decide (a = b))) H) := by
  intro pins s σ H x y v u Q I rx ry h
  obtain ⟨m, n, rfl, rfl, q⟩ := h
  cases (show v = Value.bool m from rx)
  cases (show u = Value.bool n from ry)
  by_cases e : m = n
  · subst e
    exact wpAny_is_self rfl ⟨.bl true, H, I, rfl, by simpa using q⟩
  · exact wpAny_is_other rfl (fun z => e (Value.bool.inj z)) ⟨.bl false, H, I, rfl, by simpa [e] using q⟩
theorem op_isNotB : OpR X (compareOp .IsNot) (fun x y H Q => ∃ a b, x = .bl a ∧ y = .bl b ∧ Q (.bl (!decide (a = b))) H) := by
  intro pins s σ H x y v u Q I rx ry h
  obtain ⟨m, n, rfl, rfl, q⟩ := h
  cases (show v = Value.bool m from rx)
  cases (show u = Value.bool n from ry)
  by_cases e : m = n
  · subst e
    exact wpAny_isNot_self rfl ⟨.bl false, H, I, rfl, by simpa using q⟩
  · exact wpAny_isNot_other rfl (fun z => e (Value.bool.inj z)) ⟨.bl true, H, I, rfl, by simpa [e] using q⟩
theorem op_cp (hu : X.A.units + 64 < cLine) (o : Cp) : OpR X (compareOp (pyCp o)) (rCp X.K o) := by
  cases o with
  | eq => exact op_eq.or (op_eqD hu)
  | ne => exact op_ne.or (op_neD hu)
  | lt => exact op_lt
  | le => exact op_le
  | gt => exact op_gt
  | ge => exact op_ge
  | isN => exact op_isN.or op_isB
  | isNt => exact op_notN.or op_isNotB
  | isIn => exact op_in_str.or op_in_seq
  | ntIn => exact op_notIn_str.or op_notIn_seq
theorem scal_of {d e : D} (h : d.sc = true) (h' : e.sc = true) : (scal d.toV e.toV = true ∧ decide (d.toV = e.toV) = d.eqv e) ∨ (d.lay 8 = true ∧ e.lay 8 = true) := by
  cases d <;> cases e <;> simp_all [D.sc, D.toV, scal, D.eqv, D.lay] <;> exact .inl rfl
theorem cmpD_op {o : Cp} {d e : D} {z : Bool} (hz : cmpD o d e = some z) {v w : V} {H' : Hp} {T U : Tn} (p : LPost X.K C c H H' v d T) (q : LPost X.K C c H H' w e U) {Q : VK} (h : Q (.bl z) H') : rCp X.K o v w H' Q := by
  have eqs : ∀ {t : Bool}, (d.sc && e.sc || d.lay 8 && e.lay 8) = true → (∀ q : Bool, q = d.eqv e → (Q (.bl q) H' ∨ True)) → True := fun _ _ => trivial
  have deep : d.lay 8 = true → e.lay 8 = true → ∃ x y, Dp X.K H' v x ∧ Dp X.K H' w y ∧ SeqAt.shaped x = true ∧ SeqAt.shaped y = true ∧ PyData.eqv x y = d.eqv e := fun h1 h2 => by
    obtain ⟨_, _, r1⟩ := p
    obtain ⟨_, _, r2⟩ := q
    exact ⟨_, _, r1.dp h1, r2.dp h2, lay_shaped d h1 (by decide), lay_shaped e h2 (by decide), eqv_py d e h1 h2⟩
  have scv : d.sc = true → e.sc = true → v = d.toV ∧ w = e.toV := fun h1 h2 => by
    obtain ⟨_, _, r1⟩ := p
    obtain ⟨_, _, r2⟩ := q
    exact ⟨r1.sc h1, r2.sc h2⟩
  cases o with
  | eq =>
    simp only [cmpD] at hz
    split at hz
    · rename_i hc
      cases hz
      simp only [Bool.or_eq_true, Bool.and_eq_true] at hc
      have fin : d.lay 8 = true ∧ e.lay 8 = true → rCp X.K .eq v w H' Q := fun ⟨h1, h2⟩ => by
        obtain ⟨x, y, a1, a2, a3, a4, a5⟩ := deep h1 h2
        exact .inr ⟨x, y, a1, a2, a3, a4, by rw [a5]; exact h⟩
      rcases hc with ⟨h1, h2⟩ | hc
      · rcases scal_of h1 h2 with ⟨hs, he⟩ | hc
        · obtain ⟨rfl, rfl⟩ := scv h1 h2
          exact .inl ⟨hs, by rw [he]; exact h⟩
        · exact fin hc
      · exact fin hc
    · cases hz
  | ne =>
    simp only [cmpD] at hz
    split at hz
    · rename_i hc
      cases hz
      simp only [Bool.or_eq_true, Bool.and_eq_true] at hc
      have fin : d.lay 8 = true ∧ e.lay 8 = true → rCp X.K .ne v w H' Q := fun ⟨h1, h2⟩ => by
        obtain ⟨x, y, a1, a2, a3, a4, a5⟩ := deep h1 h2
        exact .inr ⟨x, y, a1, a2, a3, a4, by rw [a5]; exact h⟩
      rcases hc with ⟨h1, h2⟩ | hc
      · rcases scal_of h1 h2 with ⟨hs, he⟩ | hc
        · obtain ⟨rfl, rfl⟩ := scv h1 h2
          exact .inl ⟨hs, by rw [he]; exact h⟩
        · exact fin hc
      · exact fin hc
    · cases hz
  | lt => cases d <;> cases e <;> simp only [cmpD, reduceCtorEq] at hz; cases hz; exact ⟨_, _, p.ofI, q.ofI, h⟩
  | le => cases d <;> cases e <;> simp only [cmpD, reduceCtorEq] at hz; cases hz; exact ⟨_, _, p.ofI, q.ofI, h⟩
  | gt => cases d <;> cases e <;> simp only [cmpD, reduceCtorEq] at hz; cases hz; exact ⟨_, _, p.ofI, q.ofI, h⟩
  | ge => cases d <;> cases e <;> simp only [cmpD, reduceCtorEq] at hz; cases hz; exact ⟨_, _, p.ofI, q.ofI, h⟩
  | isN =>
    have non : ∀ z', d ≠ .non → z' = false → e = .non → Q (.bl z') H' → rCp X.K .isN v w H' Q := fun z' hd hz' he hq => by
      subst he
      refine .inl ⟨q.ofN, ?_⟩
      have : v ≠ .non := by
        obtain ⟨_, _, r1⟩ := p
        intro hv
        subst hv
        cases r1 with | rd r => cases r; exact hd rfl
      rw [decide_eq_false this, ← hz']; exact hq
    cases e with
    | non =>
      cases d <;> simp only [cmpD, reduceCtorEq] at hz
      case non => cases hz; exact .inl ⟨q.ofN, by rw [p.ofN, decide_eq_true rfl]; exact h⟩
      all_goals (cases hz; exact non _ (by simp) rfl rfl h)
    | bl b =>
      cases d with
      | bl a => simp only [cmpD] at hz; cases hz; exact .inr ⟨a, b, p.ofB, q.ofB, h⟩
      | _ => simp [cmpD] at hz
    | _ => cases d <;> simp [cmpD] at hz
  | isNt =>
    have non : ∀ z', d ≠ .non → z' = true → e = .non → Q (.bl z') H' → rCp X.K .isNt v w H' Q := fun z' hd hz' he hq => by
      subst he
      refine .inl ⟨q.ofN, ?_⟩
      have : v ≠ .non := by
        obtain ⟨_, _, r1⟩ := p
        intro hv
        subst hv
        cases r1 with | rd r => cases r; exact hd rfl
      rw [decide_eq_false this]; rw [hz'] at hq; exact hq
    cases e with
    | non =>
      cases d <;> simp only [cmpD, reduceCtorEq] at hz
      case non => cases hz; exact .inl ⟨q.ofN, by rw [p.ofN, decide_eq_true rfl]; exact h⟩
      all_goals (cases hz; exact non _ (by simp) rfl rfl h)
    | bl b =>
      cases d with
      | bl a => simp only [cmpD] at hz; cases hz; exact .inr ⟨a, b, p.ofB, q.ofB, h⟩
      | _ => simp [cmpD] at hz
    | _ => cases d <;> simp [cmpD] at hz
  | isIn =>
    have seq : (match e.items with | some ds => if (d.sc && ds.all D.sc) = true then some (ds.any fun x => x.eqv d) else none | none => none) = some z → rCp X.K .isIn v w H' Q := fun hz => by
      cases hi : e.items with
      | none => rw [hi] at hz; cases hz
      | some ds =>
        rw [hi] at hz
        simp only at hz
        split at hz
        · rename_i hc
          cases hz
          simp only [Bool.and_eq_true] at hc
          obtain ⟨_, _, r1⟩ := p
          obtain ⟨_, _, r2⟩ := q
          obtain ⟨a, vs, rfl, hs, rs⟩ := r2.items hi
          obtain rfl := rs.scs hc.2
          obtain rfl := r1.sc hc.1
          refine .inr ⟨a, _, rfl, hs, flat_toV hc.1, flat_toVs hc.2, ?_⟩
          rw [inV_toV hc.1 hc.2]; exact h
        · cases hz
    cases d <;> cases e <;> first | exact seq hz | skip
    simp only [cmpD] at hz
    cases hz
    exact .inl ⟨_, _, p.ofS, q.ofS, h⟩
  | ntIn =>
    have seq : (match e.items with | some ds => if (d.sc && ds.all D.sc) = true then some (!ds.any fun x => x.eqv d) else none | none => none) = some z → rCp X.K .ntIn v w H' Q := fun hz => by
      cases hi : e.items with
      | none => rw [hi] at hz; cases hz
      | some ds =>
        rw [hi] at hz
        simp only at hz
        split at hz
        · rename_i hc
          cases hz
          simp only [Bool.and_eq_true] at hc
          obtain ⟨_, _, r1⟩ := p
          obtain ⟨_, _, r2⟩ := q
          obtain ⟨a, vs, rfl, hs, rs⟩ := r2.items hi
          obtain rfl := rs.scs hc.2
          obtain rfl := r1.sc hc.1
          refine .inr ⟨a, _, rfl, hs, flat_toV hc.1, flat_toVs hc.2, ?_⟩
          rw [if_pos rfl, inV_toV hc.1 hc.2]; exact h
        · cases hz
    cases d <;> cases e <;> first | exact seq hz | skip
    simp only [cmpD] at hz
    cases hz
    exact .inl ⟨_, _, p.ofS, q.ofS, h⟩
theorem snd_cmp {o : Cp} (hu : X.A.units + 64 < cLine) (hp : plainB x2 = true) (ha : PE X x1 (tLv X.K C Φ G a)) (hb : PE X x2 (tLv X.K C Φ G b)) : PE X (.Compare x1 [pyCp o] [x2] pos) (tEv X.K C Φ G (.cmp o a b)) := by
  refine pe_imp (pe_cmpR (op_cp hu o) ha hb (behind_plain hp)) fun σ H Q ⟨c, ok, q⟩ => ?_
  rw [ev] at q
  obtain ⟨⟨da, Ta⟩, ea, q⟩ := q.bind
  obtain ⟨⟨db, Tb⟩, eb, q⟩ := q.bind
  obtain ⟨z, ez, q⟩ := q.bind
  refine two_lv ok ea eb fun v w H' s p1 p2 => cmpD_op (Res.of_ok ez) p1 p2 (q _ H' s (epost_bl _))
theorem snd_cmpT {o : Cp} (hu : X.A.units + 64 < cLine) (hp : plainB x2 = true) (ha : PE X x1 (tLv X.K C Φ G a)) (hb : PE X x2 (tLv X.K C Φ G b)) : PT X (.Compare x1 [pyCp o] [x2] pos) (tTv X.K C Φ G (.cmp o a b)) := by
  refine pt_imp (pt_cmpR (op_cp hu o) ha hb (behind_plain hp)) fun σ H Q ⟨c, ok, q⟩ => ?_
  rw [tv, ev] at q
  · obtain ⟨⟨m, T⟩, e1, q⟩ := q.bind
    obtain ⟨⟨da, Ta⟩, ea, e1⟩ := Res.bind_eq_ok e1
    obtain ⟨⟨db, Tb⟩, eb, e1⟩ := Res.bind_eq_ok e1
    obtain ⟨z, ez, e1⟩ := Res.bind_eq_ok e1
    cases e1
    refine two_lv ok ea eb fun v w H' s p1 p2 => cmpD_op (Res.of_ok ez) p1 p2 ⟨z, rfl, q H' s⟩
  all_goals simp
theorem snd_chain {o p : Cp} (hu : X.A.units + 64 < cLine) (hp2 : plainB x2 = true) (hp : plainB x3 = true) (ha : PE X x1 (tEv X.K C Φ G a)) (hb : PE X x2 (tEv X.K C Φ G b)) (hc : PE X x3 (tEv X.K C Φ G e)) :
    PE X (.Compare x1 [pyCp o, pyCp p] [x2, x3] pos) (tEv X.K C Φ G (.chain o p a b e)) := by
  refine pe_imp (pe_chain (op_cp hu o) (op_cp hu p) ha hb hc (by show behindInMarks _ _ = false; exact behind_plain hp)) fun σ H Q ⟨c, ok, q⟩ => ?_
  rw [ev] at q
  obtain ⟨⟨da, Ta⟩, ea, q⟩ := q.bind
  obtain ⟨⟨db, Tb⟩, eb, q⟩ := q.bind
  obtain ⟨z, ez, q⟩ := q.bind
  refine two_ev ok ea eb fun v w H' s p1 p2 => cmpD_op (Res.of_ok ez) p1.lp p2.lp ⟨z, rfl, ?_⟩
  cases z with
  | false => rw [if_neg (by simp)]; rw [if_neg (by simp)] at q; exact q _ H' s (epost_bl _)
  | true =>
    rw [if_pos rfl]; rw [if_pos rfl] at q
    obtain ⟨⟨dc, Tc⟩, ec, q⟩ := q.bind
    obtain ⟨u, eu, q⟩ := q.bind
    refine ⟨c, ok.same s, ?_⟩
    rw [ec]
    intro y H2 s2 p3
    exact cmpD_op (Res.of_ok eu) (p2.right s2).lp (p3.left s).lp (q _ H2 (s.trans s2) (epost_bl _))
theorem snd_chainT {o p : Cp} (hu : X.A.units + 64 < cLine) (hp2 : plainB x2 = true) (hp : plainB x3 = true) (ha : PE X x1 (tEv X.K C Φ G a)) (hb : PE X x2 (tEv X.K C Φ G b)) (hc : PE X x3 (tEv X.K C Φ G e)) :
    PT X (.Compare x1 [pyCp o, pyCp p] [x2, x3] pos) (tTv X.K C Φ G (.chain o p a b e)) := by
  refine pt_imp (pt_chain (op_cp hu o) (op_cp hu p) ha hb hc (by show behindInMarks _ _ = false; exact behind_plain hp)) fun σ H Q ⟨c, ok, q⟩ => ?_
  rw [tv, ev] at q
  · obtain ⟨⟨m, T⟩, e1, q⟩ := q.bind
    obtain ⟨⟨da, Ta⟩, ea, e1⟩ := Res.bind_eq_ok e1
    obtain ⟨⟨db, Tb⟩, eb, e1⟩ := Res.bind_eq_ok e1
    obtain ⟨z, ez, e1⟩ := Res.bind_eq_ok e1
    refine two_ev ok ea eb fun v w H' s p1 p2 => cmpD_op (Res.of_ok ez) p1.lp p2.lp ⟨z, rfl, ?_⟩
    cases z with
    | false =>
      rw [if_neg (by simp)]; rw [if_neg (by simp)] at e1
      cases e1
      exact ⟨false, rfl, q H' s⟩
    | true =>
      rw [if_pos rfl]; rw [if_pos rfl] at e1
      obtain ⟨⟨dc, Tc⟩, ec, e1⟩ := Res.bind_eq_ok e1
      obtain ⟨u, eu, e1⟩ := Res.bind_eq_ok e1
      cases e1
      refine ⟨c, ok.same s, ?_⟩
      rw [ec]
      intro y H2 s2 p3
      exact cmpD_op (Res.of_ok eu) (p2.right s2).lp (p3.left s).lp ⟨u, rfl, q H2 (s.trans s2)⟩
  all_goals simp
end
end Ev

set_option maxRecDepth 100000
set_option maxHeartbeats 4000000
/-! Further forms of expression. -/
namespace Ev
open PySem PySem.Spec PyProof.Rows L2
section
variable {X : Cx} {CX : CXT} {C : Kls} {k : Nat} {Φ : String → List D → Res M} {G : String → Option D} {bl : List String} {N : List Str} {sc : Scope}
variable {x x1 x2 x3 : Expr} {xs rest : List Expr} {pos : Pos} {a b e : E} {es : Es} {c : Cf} {σ : L2.St} {H : Hp}

/-! ### and, or, not, if -/
theorem snd_and (ha : PE X x1 (tEv X.K C Φ G a)) (hb : PE X (.BoolOp .And (x2 :: xs) pos) (tEv X.K C Φ G b)) : PE X (.BoolOp .And (x1 :: x2 :: xs) pos) (tEv X.K C Φ G (.and a b)) := by
  refine pe_imp (pe_and ha hb) fun σ H Q ⟨c, ok, q⟩ => ?_
  rw [ev] at q
  obtain ⟨⟨m, T⟩, ea, q1⟩ := q.bind
  refine ⟨c, ok, ?_⟩
  rw [ea]
  intro v H' s p
  cases hm : m.toD <;> simp only [hm] at q1 <;> first | exact q1.elim | skip
  rename_i z
  refine ⟨z, (p.as hm).ofB, ?_⟩
  cases z with
  | true => rw [if_pos rfl]; exact ⟨c, ok.same s, REv.mono s q1⟩
  | false => rw [if_neg (by simp)]; exact q1 _ H' s (epost_bl _)
where
  REv.mono {X : Cx} {C : Kls} {r : Res (M × Tn)} {c : Cf} {H H' : Hp} {Q : VK} (s : Same H H') (q : REv X.K C r c H Q) : REv X.K C r c H' Q := by
    cases r with
    | no => exact q.elim
    | ex _ => exact q.elim
    | ok z => exact fun v H2 s2 p => q v H2 (s.trans s2) (p.left s)
theorem REv.mono {r : Res (M × Tn)} {H' : Hp} {Q : VK} (s : Same H H') (q : REv X.K C r c H Q) : REv X.K C r c H' Q := snd_and.REv.mono s q
theorem RTv.mono {r : Res Bool} {H' : Hp} {Q : Bool → Hp → Prop} (s : Same H H') (q : RTv r c H Q) : RTv r c H' Q := by
  cases r with
  | no => exact q.elim
  | ex _ => exact q.elim
  | ok z => exact fun H2 s2 => q H2 (s.trans s2)
theorem snd_or (ha : PE X x1 (tEv X.K C Φ G a)) (hb : PE X (.BoolOp .Or (x2 :: xs) pos) (tEv X.K C Φ G b)) : PE X (.BoolOp .Or (x1 :: x2 :: xs) pos) (tEv X.K C Φ G (.or a b)) := by
  refine pe_imp (pe_or ha hb) fun σ H Q ⟨c, ok, q⟩ => ?_
  rw [ev] at q
  obtain ⟨⟨m, T⟩, ea, q1⟩ := q.bind
  refine ⟨c, ok, ?_⟩
  rw [ea]
  intro v H' s p
  cases hm : m.toD <;> simp only [hm] at q1 <;> first | exact q1.elim | skip
  rename_i z
  refine ⟨z, (p.as hm).ofB, ?_⟩
  cases z with
  | true => rw [if_pos rfl]; exact q1 _ H' s (epost_bl _)
  | false => rw [if_neg (by simp)]; exact ⟨c, ok.same s, REv.mono s q1⟩
theorem snd_not (ha : PE X x1 (tEv X.K C Φ G a)) : PE X (.UnaryOp .Not x1 pos) (tEv X.K C Φ G (.not a)) := by
  refine pe_imp (pe_not ha) fun σ H Q ⟨c, ok, q⟩ => ?_
  rw [ev] at q
  obtain ⟨⟨m, T⟩, ea, q1⟩ := q.bind
  refine ⟨c, ok, ?_⟩
  rw [ea]
  intro v H' s p
  cases hm : m.toD <;> simp only [hm] at q1 <;> first | exact q1.elim | skip
  exact ⟨_, (p.as hm).ofB, q1 _ H' s (epost_bl _)⟩
theorem snd_ite (hc : PT X x1 (tTv X.K C Φ G e)) (ha : PE X x2 (tEv X.K C Φ G a)) (hb : PE X x3 (tEv X.K C Φ G b)) : PE X (.IfExp x1 x2 x3 pos) (tEv X.K C Φ G (.ite e a b)) := by
  refine pe_imp (pe_ifExp hc ha hb) fun σ H Q ⟨c, ok, q⟩ => ?_
  rw [ev] at q
  obtain ⟨z, ez, q1⟩ := q.bind
  refine ⟨c, ok, ?_⟩
  rw [ez]
  intro H' s
  cases z with
  | true => rw [if_pos rfl]; rw [if_pos rfl] at q1; exact ⟨c, ok.same s, REv.mono s q1⟩
  | false => rw [if_neg (by simp)]; rw [if_neg (by simp)] at q1; exact ⟨c, ok.same s, REv.mono s q1⟩

/-! ### as tests -/
theorem snd_andT (ha : PT X x1 (tTv X.K C Φ G a)) (hb : PW X (.BoolOp .And (x2 :: xs) pos) (tTv X.K C Φ G b)) : PW X (.BoolOp .And (x1 :: x2 :: xs) pos) (tTv X.K C Φ G (.and a b)) := by
  refine pw_imp (pw_and ha hb) fun σ H Q ⟨c, ok, q⟩ => ?_
  rw [tv] at q
  obtain ⟨z, ez, q1⟩ := q.bind
  refine ⟨c, ok, ?_⟩
  rw [ez]
  intro H' s
  cases z with
  | true => rw [if_pos rfl]; rw [if_pos rfl] at q1; exact ⟨c, ok.same s, RTv.mono s q1⟩
  | false => rw [if_neg (by simp)]; rw [if_neg (by simp)] at q1; exact q1 H' s
theorem snd_orT (ha : PT X x1 (tTv X.K C Φ G a)) (hb : PW X (.BoolOp .Or (x2 :: xs) pos) (tTv X.K C Φ G b)) : PW X (.BoolOp .Or (x1 :: x2 :: xs) pos) (tTv X.K C Φ G (.or a b)) := by
  refine pw_imp (pw_or ha hb) fun σ H Q ⟨c, ok, q⟩ => ?_
  rw [tv] at q
  obtain ⟨z, ez, q1⟩ := q.bind
  refine ⟨c, ok, ?_⟩
  rw [ez]
  intro H' s
  cases z with
  | true => rw [if_pos rfl]; rw [if_pos rfl] at q1; exact q1 H' s
  | false => rw [if_neg (by simp)]; rw [if_neg (by simp)] at q1; exact ⟨c, ok.same s, RTv.mono s q1⟩
theorem snd_notT (ha : PT X x1 (tTv X.K C Φ G a)) : PT X (.UnaryOp .Not x1 pos) (tTv X.K C Φ G (.not a)) := by
  refine pt_imp (pt_not ha) fun σ H Q ⟨c, ok, q⟩ => ?_
  rw [tv] at q
  obtain ⟨z, ez, q1⟩ := q.bind
  refine ⟨c, ok, ?_⟩
  rw [ez]
  intro H' s
  exact q1 H' s
theorem truth_op {H' : Hp} {v : V} {d : D} {T : Tn} {z : Bool} (hz : d.truth = some z) (p : LPost X.K C c H H' v d T) : TruV X.K v H' z := by
  obtain ⟨_, _, r⟩ := p
  have seq : ∀ ds, d.items = some ds → z = !ds.isEmpty → TruV X.K v H' z := fun ds hi hz => by
    obtain ⟨a, vs, rfl, hs, rs⟩ := r.items hi
    have he : (!ds.isEmpty) = !vs.isEmpty := by
      have := rs.length
      cases vs <;> cases ds <;> simp_all
    rw [hz, he]
    rcases hs with hs | hs
    · exact .inl ⟨vs, hs, rfl⟩
    · exact .inr (.inl ⟨vs, hs, rfl⟩)
  cases d with
  | non => cases hz; rw [r.non]; exact rfl
  | bl b => cases hz; rw [r.bl]; exact rfl
  | int i => cases hz; rw [r.int]; exact rfl
  | str y =>
    rw [D.truth] at hz
    split at hz
    · rename_i hl
      cases hz; rw [r.str]; exact ⟨lim_le hl, rfl⟩
    · cases hz
  | lst ds => exact seq ds rfl (by cases hz; rfl)
  | tup ds => exact seq ds rfl (by cases hz; rfl)
  | rol ds => exact seq ds rfl (by cases hz; rfl)
  | obj _ _ => cases hz
  | dct _ _ => cases hz
/-- an expression whose truth is asked -/
def testE : E → Bool
  | .and _ _ => false
  | .or _ _ => false
  | .not _ => false
  | .ite _ _ _ => false
  | .slot _ => false
  | .din _ _ => false
  | _ => true
theorem tv_test {g : Gm} {r : Res (M × Tn)} (h : testE a = true) : tv Φ G a g r = r.bind fun x => Res.of x.1.toD.truth := by
  cases a <;> first | (rw [tv] <;> simp; done) | (simp [testE] at h)
theorem snd_test (hx : plainT x = true) (ht : testE a = true) (ha : PE X x (tEv X.K C Φ G a)) : PT X x (tTv X.K C Φ G a) := by
  refine pt_imp (pt_truth ha (true_plain hx)) fun σ H Q ⟨c, ok, q⟩ => ?_
  rw [tv_test ht] at q
  obtain ⟨⟨m, T⟩, ea, q1⟩ := q.bind
  refine ⟨c, ok, ?_⟩
  rw [ea]
  intro v H' s p
  cases hz : m.toD.truth with
  | none => rw [hz] at q1; exact q1.elim
  | some z => rw [hz] at q1; exact ⟨z, truth_op hz p.lp, q1 H' s⟩
theorem snd_slotT (cx : Ctx X CX C k Φ G bl N sc) {n : Str} {i : Nat} (h : nmOk N sc n i = true) : PT X (.Name n pos) (tTv X.K C Φ G (.slot i)) := by
  refine pt_imp (pt_truth (snd_slotL cx h) (true_plain rfl)) fun σ H Q ⟨c, ok, q⟩ => ?_
  rw [tv] at q
  obtain ⟨⟨d, T⟩, ea, q1⟩ := q.bind
  refine ⟨c, ok, ?_⟩
  rw [lvw, ea]
  intro v H' s p
  cases hz : d.truth with
  | none => rw [hz] at q1; exact q1.elim
  | some z => rw [hz] at q1; exact ⟨z, truth_op hz p, q1 H' s⟩

/-! ### items, parts -/
def rIxD (K : PySem.W.Frag) : R2 := fun x y H Q => (rIxL K x y H Q ∨ rIxT K x y H Q) ∨ rIxS x y H Q
theorem ixD_op {d e z : D} (hz : ixD d e = some z) {v w : V} {H' : Hp} {T U : Tn} (p : LPost X.K C c H H' v d T) (q : LPost X.K C c H H' w e U) {Q : VK} (h : ∀ v', EPost X.K C c H H' v' (.frz z) T → Q v' H') : rIxD X.K v w H' Q := by
  obtain ⟨S, g, r⟩ := p
  have seq : ∀ ds i, d.items = some ds → e = .int i → atI ds i = some z → rIxD X.K v w H' Q := fun ds i hi he hy => by
    subst he
    obtain ⟨a, vs, rfl, hs, rs⟩ := r.items hi
    obtain ⟨v', ev, rv⟩ := rs.atI hy
    have hq := h v' (.of_rd g rv)
    rcases hs with hs | hs
    · exact .inl (.inl ⟨a, vs, i, v', rfl, q.ofI, hs, ev, hq⟩)
    · exact .inl (.inr ⟨a, vs, i, v', rfl, q.ofI, hs, ev, hq⟩)
  cases e with
  | int i =>
    cases d with
    | str y =>
      rw [ixD] at hz
      split at hz
      · rename_i hl
        cases hi : atI y.cps.toList i with
        | none => rw [hi] at hz; cases hz
        | some ch =>
          rw [hi] at hz
          cases hz
          exact .inr ⟨y, i, ch, r.str, q.ofI, lim_le hl, hi, h _ (epost_str _)⟩
      · cases hz
    | lst ds => exact seq ds i rfl rfl hz
    | tup ds => exact seq ds i rfl rfl hz
    | rol ds => exact seq ds i rfl rfl hz
    | non => simp [ixD, D.items] at hz
    | bl _ => simp [ixD, D.items] at hz
    | int _ => simp [ixD, D.items] at hz
    | obj _ _ => simp [ixD, D.items] at hz
    | dct _ _ => simp [ixD, D.items] at hz
  | _ => cases d <;> simp [ixD] at hz
theorem snd_ix (hp : plainB x2 = true) (ha : PE X x1 (tLv X.K C Φ G a)) (hb : PE X x2 (tEv X.K C Φ G b)) : PE X (.Subscript x1 x2 pos) (tEv X.K C Φ G (.ix a b)) := by
  refine pe_imp (pe_ix ((ix_list.or ix_tup).or ix_str) ha hb (ix_plain hp)) fun σ H Q ⟨c, ok, q⟩ => ?_
  rw [ev] at q
  obtain ⟨⟨da, Ta⟩, ea, q1⟩ := q.bind
  obtain ⟨⟨mb, Tb⟩, eb, q2⟩ := q1.bind
  obtain ⟨z, ez, q3⟩ := q2.bind
  refine ⟨c, ok, ?_⟩
  rw [ea]
  intro v H1 s1 p1
  refine ⟨c, ok.same s1, ?_⟩
  rw [eb]
  intro w H2 s2 p2
  exact ixD_op (Res.of_ok ez) (p1.right s2) ((p2.left s1).lp) fun v' pp => q3 v' H2 (s1.trans s2) pp
theorem snd_sl {lo hi : Option Expr} {l h : Eo} {p2 : Pos} (ha : PE X x1 (tLv X.K C Φ G a)) (hl : PO X lo (tOv X.K C Φ G l)) (hh : PO X hi (tOv X.K C Φ G h)) : PE X (.Subscript x1 (.Slice lo hi none p2) pos) (tEv X.K C Φ G (.sl a l h)) := by
  refine pe_imp (pe_slice sl_list ha hl hh) fun σ H Q ⟨c, ok, q⟩ => ?_
  rw [ev] at q
  obtain ⟨⟨da, Ta⟩, ea, q1⟩ := q.bind
  obtain ⟨l', el, q2⟩ := q1.bind
  obtain ⟨h', eh, q3⟩ := q2.bind
  refine ⟨c, ok, ?_⟩
  rw [ea]
  intro v H1 s1 p1
  refine ⟨c, ok.same s1, ?_⟩
  rw [el]
  intro H2 s2
  refine ⟨c, ok.same (s1.trans s2), ?_⟩
  rw [eh]
  intro H3 s3
  have s12 := s1.trans (s2.trans s3)
  cases da <;> first | exact q3.elim | skip
  rename_i ds
  obtain ⟨S, g, r⟩ := p1.right (s2.trans s3)
  obtain ⟨a', vs, rfl, e1, rs⟩ := r.lst'
  refine ⟨a', vs, rfl, SqL.of e1, fun p np => q3 _ _ (s12.trans (same_upd np)) ?_⟩
  exact epost_fl s12 g rs.cut np
theorem snd_ono : PO X none (tOv X.K C Φ G .no) := by
  refine ⟨fun pins s σ H Q I h => po_none.run pins s σ H Q I ?_⟩
  obtain ⟨c, ok, q⟩ := h
  exact q H (Same.refl H)
theorem snd_oyes (ha : PE X x (tEv X.K C Φ G a)) : PO X (some x) (tOv X.K C Φ G (.yes a)) := by
  refine ⟨fun pins s σ H Q I h => (po_some ha).run pins s σ H Q I ?_⟩
  obtain ⟨c, ok, q⟩ := h
  refine ⟨c, ok, ?_⟩
  rw [evo] at q
  cases r : ev Φ G a c.g with
  | no => rw [r] at q; exact q.elim
  | ex _ => rw [r] at q; exact q.elim
  | ok z =>
    rw [r] at q
    intro v H' s p
    cases hm : z.1.toD <;> simp only [Res.bind, hm] at q <;> first | exact q.elim | skip
    exact ⟨_, (p.as hm).ofI, q H' s⟩
theorem snd_rev {k1 : Nat} {p1 p2 p3 : Pos} (ha : PE X x1 (tLv X.K C Φ G a)) : PE X (.Subscript x1 (.Slice none none (some (.UnaryOp .USub (.Constant (.int 1) k1 p1) p2)) p3) pos) (tEv X.K C Φ G (.rev a)) := by
  refine pe_imp (pe_revL ha) fun σ H Q ⟨c, ok, q⟩ => ?_
  rw [ev] at q
  obtain ⟨⟨da, Ta⟩, ea, q1⟩ := q.bind
  refine ⟨c, ok, ?_⟩
  rw [ea]
  intro v H1 s1 p1
  cases da <;> first | exact q1.elim | skip
  obtain ⟨S, g, r⟩ := p1
  obtain ⟨a', vs, rfl, e1, rs⟩ := r.lst'
  exact ⟨a', vs, rfl, SqL.of e1, fun p np => q1 _ _ (s1.trans (same_upd np)) (epost_fl s1 g rs.reverse np)⟩
/-! ### fields -/
theorem lookup_at : ∀ {fs : List (Str × V)} {f : Str} {j : Nat} {v : V}, (fs.map (·.1)).idxOf f = j → (fs.map (·.2))[j]? = some v → fs.lookup f = some v
  | [], _, _, _, _, h => by simp at h
  | (g, y) :: r, f, j, v, h, hv => by
    rw [List.lookup_cons]
    by_cases e : g = f
    · subst e
      simp at h
      subst h
      simp at hv
      simp [hv]
    · have e' : (f == g) = false := by simp [Ne.symm e]
      rw [e']
      simp only [List.map_cons, List.idxOf_cons] at h
      rw [show (g == f) = false by simp [e]] at h
      simp only [cond_false] at h
      subst h
      exact lookup_at rfl (by simpa using hv)
theorem snd_fld (cx : Ctx X CX C k Φ G bl N sc) {cn j : Nat} {f : Str} (hf : (fsOf cn).idxOf f = j ∧ j < (fsOf cn).length) (ho : plainO x1 = true) (ha : PE X x1 (tLv X.K C Φ G a)) : PE X (.Attribute x1 f pos) (tEv X.K C Φ G (.fld a cn j)) := by
  refine pe_imp (pe_fld ha (base_plain ho)) fun σ H Q ⟨c, ok, q⟩ => ?_
  rw [ev] at q
  obtain ⟨⟨da, Ta⟩, ea, q1⟩ := q.bind
  refine ⟨c, ok, ?_⟩
  rw [ea]
  intro v H1 s1 p1
  cases da <;> first | exact q1.elim | skip
  rename_i c' ds
  simp only at q1
  split at q1
  · rename_i hc
    subst hc
    obtain ⟨z, ez, q2⟩ := q1.bind
    obtain ⟨S, g, r⟩ := p1
    cases r with
    | rd r =>
      cases r with
      | obj hs e1 hn rs =>
        obtain ⟨v', ev', rv⟩ := rs.get (Res.of_ok ez)
        obtain ⟨cl, na, _⟩ := cx.wd.cls c' hn.1
        have hmem : f ∈ fsOf c' := by
          have := List.getElem_idxOf (x := f) (xs := fsOf c') (by rw [hf.1]; exact hf.2)
          rw [← this]; exact List.getElem_mem _
        refine ⟨_, _, _, _, v', rfl, e1, cl, na f hmem, ?_, q2 _ H1 s1 (.of_rd g rv)⟩
        exact lookup_at (by rw [hn.2]; exact hf.1) ev'
  · exact q1.elim
/-! ### displays, arguments -/
theorem snd_nil : PA X [] (tAv X.K C Φ G .nil) := pa_imp pa_nil fun σ H Q ⟨c, ok, q⟩ => q [] H (Same.refl H) ⟨_, Gw.nil, .nil⟩
theorem snd_cons (hp : plainB x = true) (ha : PE X x (tEv X.K C Φ G a)) (hs : PA X xs (tAv X.K C Φ G es)) : PA X (x :: xs) (tAv X.K C Φ G (.cons a es)) := by
  refine pa_imp (pa_cons ha hs (star_plain hp)) fun σ H Q ⟨c, ok, q⟩ => ?_
  rw [evs] at q
  obtain ⟨⟨m, T⟩, ea, q1⟩ := q.bind
  obtain ⟨⟨ds, U⟩, eb, q2⟩ := q1.bind
  refine ⟨c, ok, ?_⟩
  rw [ea]
  intro v H1 s1 p1
  refine ⟨c, ok.same s1, ?_⟩
  rw [eb]
  intro vs H2 s2 ⟨S2, g2, r2⟩
  obtain ⟨S1, g1, r1⟩ := (p1.right s2).rd
  exact q2 _ H2 (s1.trans s2) ⟨_, g1.or (g2.left s1), .cons (r1.sub fun _ z => .inl z) (r2.sub fun _ z => .inr z)⟩
theorem evs_len : ∀ {es : Es} {g : Gm} {ds : List D} {T : Tn} {xs : List Expr}, evs Φ G es g = .ok (ds, T) → True := fun _ => trivial
def Es.len : Es → Nat
  | .nil => 0
  | .cons _ es => es.len + 1
theorem evs_length : ∀ (es : Es) {g : Gm} {ds : List D} {T : Tn}, evs Φ G es g = .ok (ds, T) → ds.length = es.len
  | .nil, _, _, _, h => by rw [evs] at h; cases h; rfl
  | .cons e es, g, ds, T, h => by
    rw [evs] at h
    obtain ⟨x, _, h⟩ := Res.bind_eq_ok h
    obtain ⟨y, hy, h⟩ := Res.bind_eq_ok h
    cases h
    rw [List.length_cons, Es.len, evs_length es (ds := y.1) (T := y.2) hy]
theorem snd_tup {k1 : Nat} (hl : es.len < 1000) (hs : PA X xs (tAv X.K C Φ G es)) : PE X (.Tuple xs k1 pos) (tEv X.K C Φ G (.tup es)) := by
  refine pe_imp (pe_tup hs) fun σ H Q ⟨c, ok, q⟩ => ?_
  rw [ev] at q
  obtain ⟨⟨ds, T⟩, ea, q1⟩ := q.bind
  refine ⟨c, ok, ?_⟩
  rw [ea]
  intro vs H1 s1 ⟨S, g, r⟩
  refine ⟨?_, fun p np => q1 _ _ (s1.trans (same_upd np)) (epost_tup g r np)⟩
  rw [r.length, evs_length es ea]; exact Nat.le_of_lt (Nat.lt_trans hl (Nat.lt_of_lt_of_le (by decide) lim_size))
theorem RMs.lenP {K : PySem.W.Frag} {H : Hp} {S : Addr → Prop} : ∀ {vs : List V} {ms : List M} {A : List Addr}, RMs K C H S vs ms A → vs.length = ms.length
  | _, _, _, .nil => rfl
  | _, _, _, .cons _ t => by rw [List.length_cons, List.length_cons, RMs.lenP t]
/-- parts of a tuple that are of their own -/
def RPv (K : PySem.W.Frag) (C : Kls) (r : Res (List M)) (c : Cf) (H : Hp) (Q : List V → Hp → Prop) : Prop := match r with
  | .ok ms => ∀ vs H', Same H H' → (∃ S A, Gw c [] H H' S ∧ RMs K C H' S vs ms A ∧ A.Nodup ∧ ∀ a ∈ A, H a = none ∧ ¬ S a) → Q vs H'
  | _ => False
def tPv (K : PySem.W.Frag) (C : Kls) (Φ : String → List D → Res M) (G : String → Option D) (es : Es) : TA := fun σ H Q => ∃ c, Ok K C c σ H ∧ RPv K C (evP Φ G es c.g) c H Q
theorem RPv.bind {K : PySem.W.Frag} {α : Type} {r : Res α} {f : α → Res (List M)} {Q : List V → Hp → Prop} (h : RPv K C (r.bind f) c H Q) : ∃ z, r = .ok z ∧ RPv K C (f z) c H Q := by
  cases r with
  | no => exact h.elim
  | ex _ => exact h.elim
  | ok z => exact ⟨z, rfl, h⟩
theorem snd_pnil : PA X [] (tPv X.K C Φ G .nil) := pa_imp pa_nil fun σ H Q ⟨c, ok, q⟩ => by
  rw [evP] at q
  exact q [] H (Same.refl H) ⟨_, [], Gw.nil, .nil, .nil, fun a z => by simp at z⟩
theorem snd_pcons (hp : plainB x = true) (ha : PE X x (tEv X.K C Φ G a)) (hs : PA X xs (tPv X.K C Φ G es)) : PA X (x :: xs) (tPv X.K C Φ G (.cons a es)) := by
  refine pa_imp (pa_cons ha hs (star_plain hp)) fun σ H Q ⟨c, ok, q⟩ => ?_
  rw [evP] at q
  obtain ⟨⟨m, T⟩, ea, q1⟩ := q.bind
  simp only at q1
  split at q1
  · rename_i hT
    obtain ⟨ms, eb, q2⟩ := q1.bind
    refine ⟨c, ok, ?_⟩
    rw [ea]
    intro v H1 s1 p1
    have p2 := p1.nrm
    rw [hT] at p2
    obtain ⟨S1, A1, g1, r1, n1, o1⟩ := p2
    refine ⟨c, ok.same s1, ?_⟩
    rw [eb]
    intro vs H2 s2 ⟨S2, A2, g2, r2, n2, o2⟩
    have lv : ∀ a ∈ A1, H1 a ≠ none := fun a h => by
      obtain ⟨o, e, _⟩ := r1.live a h
      rw [e]; simp
    have live0 : ∀ a, c.S a → H1 a ≠ none := fun a z y => ok.live a z (s1.free y)
    refine q2 (v :: vs) H2 (s1.trans s2) ⟨fun a => S1 a ∨ S2 a, A1 ++ A2, (g1.right s2).or (g2.left s1), .cons ((r1.same s2).sub fun _ z => .inl z) (r2.mono (S' := fun _ => True) (fun _ z => .inr z) (Kp.of_same (Same.refl H2)) (fun _ _ => trivial) fun _ _ => trivial), List.nodup_append.mpr ⟨n1, n2, fun a h1 b h2 e => ?_⟩, fun a z => ?_⟩
    · subst e
      exact lv a h1 (o2 a h2).1
    · rcases List.mem_append.mp z with z | z
      · refine ⟨(o1 a z).1, fun y => y.elim (o1 a z).2 fun y => ?_⟩
        rcases g2.sub a y with y | ⟨i, hi, _⟩ | y
        · exact ok.live a y (o1 a z).1
        · simp at hi
        · exact lv a z y
      · refine ⟨s1.free (o2 a z).1, fun y => y.elim (fun y => ?_) (o2 a z).2⟩
        exact g1.live a y (o2 a z).1
  · exact q1.elim
theorem evP_length : ∀ (es : Es) {g : Gm} {ms : List M}, evP Φ G es g = .ok ms → ms.length = es.len
  | .nil, g, ms, h => by rw [evP] at h; cases h; rfl
  | .cons e es, g, ms, h => by
    rw [evP] at h
    obtain ⟨x, _, h⟩ := Res.bind_eq_ok h
    split at h
    · obtain ⟨ys, hy, h⟩ := Res.bind_eq_ok h
      cases h
      rw [List.length_cons, Es.len, evP_length es hy]
    · cases h
theorem snd_tupN {k1 : Nat} (hl : es.len < 1000) (hs : PA X xs (tPv X.K C Φ G es)) : PE X (.Tuple xs k1 pos) (tEv X.K C Φ G (.tupN es)) := by
  refine pe_imp (pe_tup hs) fun σ H Q ⟨c, ok, q⟩ => ?_
  rw [ev] at q
  obtain ⟨ms, ea, q1⟩ := q.bind
  refine ⟨c, ok, ?_⟩
  rw [ea]
  intro vs H1 s1 ⟨S, A, g, r, nd, hA⟩
  refine ⟨?_, fun p np => ?_⟩
  · rw [r.lenP, evP_length es ea]; exact Nat.le_of_lt (Nat.lt_trans hl (Nat.lt_of_lt_of_le (by decide) lim_size))
  · have s2 := same_upd (o := HO.tup vs) np
    exact q1 (.ref p) _ (s1.trans s2) ⟨S, A, g.right s2, .tup (.inl (.inl upd_same)) (r.mono (S' := fun _ => True) (fun _ z => z) (Kp.of_same s2) (fun _ _ => trivial) fun _ _ => trivial), nd, hA⟩
theorem snd_lst (hl : es.len < 1000) (hs : PA X xs (tAv X.K C Φ G es)) : PE X (.List xs pos) (tEv X.K C Φ G (.lst es)) := by
  refine pe_imp (pe_lst hs) fun σ H Q ⟨c, ok, q⟩ => ?_
  rw [ev] at q
  obtain ⟨⟨ds, T⟩, ea, q1⟩ := q.bind
  refine ⟨c, ok, ?_⟩
  rw [ea]
  intro vs H1 s1 ⟨S, g, r⟩
  refine ⟨?_, fun p np => q1 _ _ (s1.trans (same_upd np)) (epost_fl s1 g r np)⟩
  rw [r.length, evs_length es ea]; exact Nat.le_of_lt (Nat.lt_trans hl (Nat.lt_of_lt_of_le (by decide) lim_size))
/-! ### calls -/
theorem call_op {f : String} {ds : List D} {m : M} {vs : List V} {H1 : Hp} {T : Tn} (s1 : Same H H1) (p : APost X.K C c H H1 vs ds T) (hf : Φ f ds = .ok m) {Q : VK} {E : XK} (h : ∀ v H2, Same H H2 → EPost X.K C c H H2 v m (if m.ff then [] else T) → Q v H2) :
    spF X.K C (Φ f) vs H1 Q E := by
  obtain ⟨S, g, r⟩ := p
  refine ⟨S, ds, m, r, g.live, hf, fun v H' S' A s' r' nd hA hS hL => h v H' (s1.trans s') ?_⟩
  have gen : EPost X.K C c H H' v m T := ⟨S', A, ⟨fun a z => (hS a z).elim (fun z => g.sub a z) fun z => .inr (.inr (s1.free z)), hL⟩, r', nd, fun a z => ⟨s1.free (hA a z).1, (hA a z).2⟩⟩
  by_cases hm : m.ff = true
  · rw [if_pos hm]; exact gen.flat hm
  · rw [if_neg hm]; exact gen
theorem make_op (cx : Ctx X CX C k Φ G bl N sc) {f : String} {cc : Nat} {ds es' : List D} {vs : List V} {H1 : Hp} {T : Tn} (hcc : cc < C.n) (s1 : Same H H1) (p : APost X.K C c H H1 vs ds T) (hf : Φ f ds = .ok (.frz (.obj cc es'))) {Q : VK} {E : XK}
    (h : ∀ v H2, Same H H2 → EPost X.K C c H H2 v (.frz (.obj cc es')) (if (M.frz (.obj cc es')).ff then [] else T) → Q v H2) :
    ∀ x dx, H1 x = none → H1 dx = none → dx ≠ x → spI X.K C cc (Φ f) (.ref x :: (vs ++ [])) (upd (upd H1 dx (.own x)) x (.ins (C.at_ cc) dx [])) (fun v H2 => v = .non ∧ Q (.ref x) H2) E := by
  intro x dx nx ndx hne
  obtain ⟨S, g, r⟩ := p
  rw [List.append_nil]
  have sa : Same H1 (upd H1 dx (.own x)) := same_upd ndx
  have nx2 : upd H1 dx (.own x) x = none := by rw [upd_ne (Ne.symm hne)]; exact nx
  have sb : Same (upd H1 dx (.own x)) (upd (upd H1 dx (.own x)) x (.ins (C.at_ cc) dx [])) := same_upd nx2
  have s2 := sa.trans sb
  have nSx : ¬ S x := fun z => g.live x z nx
  refine ⟨x, dx, vs, S, ds, es', rfl, upd_same, r.same s2, fun a z q => g.live a z (s2.free q), nSx, hf, fun H' S' fs hk hx hfs rs hS hL => ⟨rfl, ?_⟩⟩
  have s3 : Same H1 H' := fun a o e => by
    have hax : a ≠ x := fun z => by subst z; rw [nx] at e; cases e
    exact hk a o hax (s2 _ _ e)
  refine h _ _ (s1.trans s3) ?_
  have hff : (M.frz (.obj cc es')).ff = false := by simp [M.ff, D.flat]
  rw [hff]
  refine ⟨fun a => S' a ∨ a = x, [], ⟨fun a z => ?_, fun a z => ?_⟩, .frz (.obj (.inr rfl) hx ⟨hcc, hfs⟩ (rs.sub fun _ z => .inl z)), .nil, fun a z => by simp at z⟩
  · rcases z with z | rfl
    · rcases hS a z with z | z
      · exact g.sub a z
      · refine .inr (.inr (s1.free ?_))
        exact s2.free z
    · exact .inr (.inr (s1.free nx))
  · rcases z with z | rfl
    · exact hL a z
    · rw [hx]; simp
theorem snd_call (cx : Ctx X CX C k Φ G bl N sc) {f : String} {n : Str} {p : Pos} (hxn : pnm f = false) (hg : glOk sc n f = true) (hp : plainB x = true) (hps : xs.all plainB = true) (ha : PA X (x :: xs) (tAv X.K C Φ G es)) : PE X (.Call (.Name n p) (x :: xs) [] pos) (tEv X.K C Φ G (.call f es)) := by
  obtain ⟨rfl, hgl, hdb⟩ := cx.gl hg
  rcases cx.wd.tab f hxn with ⟨a, fd, ps, F, hm, hk, hb⟩ | ⟨cc, j, a, fd, ps, hcc, hcn, hj, hmk, F, hb, hobj⟩ | hno
  rotate_left
  · refine pe_imp (pe_make hmk F (cx.room.mono hj) hgl (by rw [hcn]; exact (cx.wd.cls cc hcc).2.2.1) hb .nil (cx.pass X rfl rfl) ha hdb (star_plain hp) (back_plain hps)) fun σ H Q ⟨c, ok, q⟩ => ?_
    rw [ev] at q
    obtain ⟨⟨ds, T⟩, ea, q1⟩ := q.bind
    obtain ⟨m, em, q2⟩ := q1.bind
    obtain ⟨es', rfl⟩ := hobj ds m em
    refine ⟨c, ok, ?_⟩
    rw [ea]
    intro vs H1 s1 p1
    exact make_op cx hcc s1 p1 em q2
  rotate_left
  · refine pe_imp (pe_call F cx.room hgl hm hk hb .nil (cx.pass X rfl rfl) ha hdb (star_plain hp) (back_plain hps)) fun σ H Q ⟨c, ok, q⟩ => ?_
    rw [ev] at q
    obtain ⟨⟨ds, T⟩, ea, q1⟩ := q.bind
    obtain ⟨m, em, q2⟩ := q1.bind
    refine ⟨c, ok, ?_⟩
    rw [ea]
    intro vs H1 s1 p1
    rw [List.append_nil]
    exact call_op s1 p1 em q2
  · refine ⟨fun pins s σ H Q I ⟨c, ok, q⟩ => ?_⟩
    rw [ev] at q
    obtain ⟨⟨ds, T⟩, ea, q1⟩ := q.bind
    obtain ⟨m, em, q2⟩ := q1.bind
    exact (hno _ _ em).elim
theorem snd_call0 (cx : Ctx X CX C k Φ G bl N sc) {f : String} {n : Str} {p : Pos} (hxn : pnm f = false) (hg : glOk sc n f = true) : PE X (.Call (.Name n p) [] [] pos) (tEv X.K C Φ G (.call f .nil)) := by
  obtain ⟨rfl, hgl, hdb⟩ := cx.gl hg
  rcases cx.wd.tab f hxn with ⟨a, fd, ps, F, hm, hk, hb⟩ | ⟨cc, j, a, fd, ps, hcc, hcn, hj, hmk, F, hb, hobj⟩ | hno
  rotate_left
  · refine pe_imp (pe_make0 hmk F (cx.room.mono hj) hgl (by rw [hcn]; exact (cx.wd.cls cc hcc).2.2.1) hb .nil (cx.pass X rfl rfl) hdb) fun σ H Q ⟨c, ok, q⟩ => ?_
    rw [ev, evs] at q
    obtain ⟨m, em, q2⟩ := REv.bind (r := Φ f []) q
    obtain ⟨es', rfl⟩ := hobj [] m em
    exact make_op cx hcc (Same.refl H) ⟨_, Gw.nil, .nil⟩ em q2
  rotate_left
  · refine pe_imp (pe_call0 F cx.room hgl hm hk hb .nil (cx.pass X rfl rfl) hdb) fun σ H Q ⟨c, ok, q⟩ => ?_
    rw [ev, evs] at q
    obtain ⟨m, em, q2⟩ := REv.bind (r := Φ f []) q
    exact call_op (E := E0) (Same.refl H) ⟨_, Gw.nil, .nil⟩ em q2
  · refine ⟨fun pins s σ H Q I ⟨c, ok, q⟩ => ?_⟩
    rw [ev, evs] at q
    obtain ⟨m, em, q2⟩ := REv.bind (r := Φ f []) q
    exact (hno _ _ em).elim
end
end Ev

set_option maxRecDepth 100000
set_option maxHeartbeats 4000000
/-! sorted of a list of lists of whole numbers. -/
namespace Ev
open PySem PySem.Spec PyProof.Rows L2
theorem mapM_int : ∀ {ds : List D} {ns : List Int}, ds.mapM intOfD = some ns → ds = ns.map .int
  | [], ns, h => by simp at h; subst h; rfl
  | d :: ds, ns, h => by
    rw [List.mapM_cons] at h
    cases d <;> simp [intOfD] at h
    rename_i i
    cases hd : ds.mapM intOfD with
    | none => rw [hd] at h; simp at h
    | some ms =>
      rw [hd] at h
      simp at h
      subst h
      rw [mapM_int hd]; rfl
theorem mapM_row : ∀ {ds : List D} {rows : List (List Int)}, ds.mapM rowOfD = some rows → ds = rows.map encZ
  | [], ns, h => by simp at h; subst h; rfl
  | d :: ds, ns, h => by
    rw [List.mapM_cons] at h
    cases d <;> simp [rowOfD] at h
    rename_i is
    cases hi : is.mapM intOfD with
    | none => rw [hi] at h; simp at h
    | some ns' =>
      cases hd : ds.mapM rowOfD with
      | none => rw [hd, hi] at h; simp at h
      | some ms =>
        rw [hd, hi] at h
        simp at h
        subst h
        rw [mapM_row hd, mapM_int hi]; rfl
abbrev Each {α β : Type} (R : α → β → Prop) := PySem.W.EachIs R
/-- sorted(xs), xs a list of lists of whole numbers: the same lists, in order -/
def rSortedZ (K : PySem.W.Frag) : List V → Hp → VK → Prop := fun vs H Q => ∃ (a : Addr) (ys : List V) (rows : List (List Int)) (R : V → List Int → Prop), vs = [V.ref a] ∧ SqL K H a ys ∧ Each (fun y ns => (∃ p, y = .ref p ∧ SqL K H p (ns.map V.int)) ∧ R y ns) ys rows ∧
  ∀ out p, Each R out (rows.mergeSort leZ) → H p = none → Q (.ref p) (upd H p (.lst out))
def backZ : Value → V
  | .ref a => .ref a
  | _ => .non
theorem reads_ints {h : Heap} : ∀ {us : List Value} {ns : List Int}, Vals (ns.map V.int) us → ∃ as, ReadsAll h us (ns.map PyData.int) as
  | _, [], r => by cases r; exact ⟨[], .nil⟩
  | _, n :: ns, r => by
    cases r with
    | cons a b =>
      obtain ⟨t, rfl⟩ := a
      obtain ⟨as, z⟩ := reads_ints b
      exact ⟨_, .cons (.int n t) z⟩
section
variable {X : Cx}
theorem cr_sortedZ (hu : X.A.units + 64 < cLine) : CallR X (.builtin "sorted") (rSortedZ X.K) := by
  intro pins s σ H vs us Q I r h
  obtain ⟨a, ys, rows, R, rfl, hs, he, q⟩ := h
  obtain ⟨its, rv, hl, hz⟩ := I.list hs
  rw [Vals.ref1 r]
  -- each value is the reference that stands for it
  have key : ∀ {ys : List V} {us : List Value} {rows : List (List Int)}, Vals ys us → Each (fun y ns => (∃ p, y = .ref p ∧ SqL X.K H p (ns.map V.int)) ∧ R y ns) ys rows →
      Each (fun u ns => (∃ p, u = .ref p) ∧ R (backZ u) ns) us rows ∧ Each (fun u ns => ∃ as, Reads s.heap u (.list (ns.map .int)) as) us rows := by
    intro ys us rows rv he
    induction he generalizing us with
    | nil => cases rv; exact ⟨.nil, .nil⟩
    | cons h1 _ ih =>
      cases rv with
      | cons ru rr =>
        obtain ⟨⟨p, rfl, hp⟩, h2⟩ := h1
        cases ru
        obtain ⟨i1, i2⟩ := ih rr
        obtain ⟨ks, rk, ⟨o, n, g1, g2, g3, g4⟩, _⟩ := I.list hp
        obtain ⟨as, ra⟩ := reads_ints (h := s.heap) rk
        exact ⟨.cons ⟨⟨p, rfl⟩, h2⟩ i1, .cons ⟨_, .list g1 g2 g4 (by simpa using ra)⟩ i2⟩
  obtain ⟨e, er⟩ := key rv he
  have hd : ∀ ns : List Int, (PyData.list (ns.map .int)).depth ≤ 1 := fun ns => by
    rw [PyData.depth, PySem.W.depth_ints]; decide
  have hlen : rows.length = its.length := e.length.symm
  refine PySem.W.sorted_data (enc := fun ns : List Int => PyData.list (ns.map .int)) (bs := rows) (R := fun u ns => (∃ p, u = .ref p) ∧ R (backZ u) ns) hl.isList e er (PySem.W.AllAlike.of fun x y => ?_) (PySem.W.Sortable.others fun ns => ⟨(fun z => nomatch z), fun _ z => nomatch z⟩) (by rw [hlen, ← rv.length]; exact hz) (fun ns _ => ?_) fun out hlo ho => ?_
  · rw [PySem.W.alike, PySem.W.alike_ints]
  · have := hd ns
    omega
  · rw [PySem.W.dataLe_rows] at ho
    have ho' : Each (fun u ns => (∃ p, u = .ref p) ∧ R (backZ u) ns) out (rows.mergeSort leZ) := ho
    have back : ∀ {us : List Value} {rows : List (List Int)}, Each (fun u ns => (∃ p, u = .ref p) ∧ R (backZ u) ns) us rows → Vals (us.map backZ) us ∧ Each R (us.map backZ) rows := by
      intro us rows he
      induction he with
      | nil => exact ⟨.nil, .nil⟩
      | cons h1 _ ih =>
        obtain ⟨⟨p, rfl⟩, h2⟩ := h1
        exact ⟨.cons rfl ih.1, .cons h2 ih.2⟩
    obtain ⟨b1, b2⟩ := back ho'
    obtain ⟨ep, he'⟩ := PyProof.Rows.sortedAll_at s.heap its (List.toArray out)
    have hlen2 : (out.map backZ).length ≤ sizeLine := by
      rw [List.length_map, hlo, hlen, ← rv.length]; exact hz
    exact ⟨.ref _, upd H (s.heap.objs.size + 1) (.lst (out.map backZ)), I.laid (t' := s.toks) (fun _ _ => PyProof.Rows.sortedAll_old) (Nat.le_succ _) ⟨hlen2, out, ep, b1, by simpa using he'⟩, rfl, q _ _ b2 (I.hok.fresh (Nat.le_succ _))⟩
end
end Ev

set_option maxRecDepth 100000
set_option maxHeartbeats 4000000
/-! Built-ins, what is walked, stores, comprehensions. -/
namespace Ev
open PySem PySem.Spec PyProof.Rows L2
section
variable {X : Cx} {CX : CXT} {C : Kls} {k : Nat} {Φ : String → List D → Res M} {G : String → Option D} {bl : List String} {N : List Str} {sc : Scope}
variable {x x1 x2 x3 : Expr} {xs rest : List Expr} {pos p : Pos} {a b e : E} {es : Es} {c : Cf} {σ : L2.St} {H : Hp} {n : Str}

theorem vals_rds {S : Addr → Prop} {d : D} {ds : List D} {vs : List V} (r : RDs X.K C H S vs (d :: ds)) : ∃ v vr, vs = v :: vr ∧ RD X.K C H S v d ∧ RDs X.K C H S vr ds := by
  cases r with | cons r t => exact ⟨_, _, rfl, r, t⟩
theorem vals_nil {S : Addr → Prop} {vs : List V} (r : RDs X.K C H S vs []) : vs = [] := by cases r; rfl
theorem RD.ofI {S : Addr → Prop} {v : V} {i : Int} (r : RD X.K C H S v (.int i)) : v = .int i := by cases r; rfl

/-- a built-in of numbers -/
theorem bi_gen {r : List V → Hp → VK → Prop} {bb : Bi} (hpe : PE X x (tCB r (tAv X.K C Φ G es)))
    (he : ∀ g, ev Φ G (.bi bb es) g = (evs Φ G es g).bind fun r => (Res.of (biD bb r.1)).bind fun v => .ok (.frz v, []))
    (hr : ∀ (c : Cf) (H H' : Hp) (vs : List V) (ds : List D) (T : Tn) (z : D) (Q : VK), APost X.K C c H H' vs ds T → biD bb ds = some z → (∀ v, EPost X.K C c H H' v (.frz z) [] → Q v H') → r vs H' Q) :
    PE X x (tEv X.K C Φ G (.bi bb es)) := by
  refine pe_imp hpe fun σ H Q ⟨c, ok, q⟩ => ?_
  rw [he] at q
  obtain ⟨⟨ds, T⟩, ea, q1⟩ := q.bind
  obtain ⟨z, ez, q2⟩ := q1.bind
  refine ⟨c, ok, ?_⟩
  rw [ea]
  intro vs H1 s1 p1
  exact hr c H H1 vs ds T z Q p1 (Res.of_ok ez) fun v pp => q2 v H1 s1 pp
def pyB : Bi → String
  | .len => "len"
  | .int => "int"
  | .abs => "abs"
  | .lst => "list"
  | .tup => "tuple"
  | .sum => "sum"
  | .min2 => "min"
  | .max2 => "max"
  | .gcd => "gcd"
  | .srt => "sorted"
theorem snd_int (cx : Ctx X CX C k Φ G bl N sc) (hg : glOk sc n "int" = true) (hb : "int" ∈ bl) (hp : plainB x = true) (hps : xs.all plainB = true) (ha : PA X (x :: xs) (tAv X.K C Φ G es)) : PE X (.Call (.Name n p) (x :: xs) [] pos) (tEv X.K C Φ G (.bi .int es)) := by
  obtain ⟨rfl, hgl, hdb⟩ := cx.gl hg
  refine bi_gen (pe_callTy call_int1 hgl (cx.wd.bn _ hb (by decide)) PyProof.Rows.boot_int ha (by decide +kernel) hdb (star_plain hp) (back_plain hps)) (fun g => by rw [ev] <;> simp) fun c H H' vs ds T z Q ⟨S, g, r⟩ hz h => ?_
  match ds, hz with
  | [.int i], hz =>
    cases hz
    obtain ⟨v, vr, rfl, r1, r2⟩ := vals_rds r
    obtain rfl := vals_nil r2
    exact .inl ⟨i, by rw [r1.ofI], h _ (epost_int _)⟩
  | [.bl i], hz =>
    cases hz
    obtain ⟨v, vr, rfl, r1, r2⟩ := vals_rds r
    obtain rfl := vals_nil r2
    exact .inr ⟨i, by rw [RL.bl (.rd r1)], h _ (epost_int _)⟩
theorem snd_abs (cx : Ctx X CX C k Φ G bl N sc) (hg : glOk sc n "abs" = true) (hb : "abs" ∈ bl) (hp : plainB x = true) (hps : xs.all plainB = true) (ha : PA X (x :: xs) (tAv X.K C Φ G es)) : PE X (.Call (.Name n p) (x :: xs) [] pos) (tEv X.K C Φ G (.bi .abs es)) := by
  obtain ⟨rfl, hgl, hdb⟩ := cx.gl hg
  refine bi_gen (pe_callB call_abs hgl (cx.wd.bn _ hb (by decide)) PyProof.Rows.boot_abs ha (by decide +kernel) hdb (star_plain hp) (back_plain hps)) (fun g => by rw [ev] <;> simp) fun c H H' vs ds T z Q ⟨S, g, r⟩ hz h => ?_
  match ds, hz with
  | [.int i], hz =>
    cases hz
    obtain ⟨v, vr, rfl, r1, r2⟩ := vals_rds r
    obtain rfl := vals_nil r2
    exact ⟨i, by rw [r1.ofI], h _ (epost_int _)⟩
theorem snd_sum (cx : Ctx X CX C k Φ G bl N sc) (hg : glOk sc n "sum" = true) (hb : "sum" ∈ bl) (hp : plainB x = true) (hps : xs.all plainB = true) (ha : PA X (x :: xs) (tAv X.K C Φ G es)) : PE X (.Call (.Name n p) (x :: xs) [] pos) (tEv X.K C Φ G (.bi .sum es)) := by
  obtain ⟨rfl, hgl, hdb⟩ := cx.gl hg
  refine bi_gen (pe_callB (cr_sum cx.calm) hgl (cx.wd.bn _ hb (by decide)) PyProof.Rows.boot_sum ha (by decide +kernel) hdb (star_plain hp) (back_plain hps)) (fun g => by rw [ev] <;> simp) fun c H H' vs ds T z Q ⟨S, g, r⟩ hz h => ?_
  match ds, hz with
  | [.lst is], hz =>
    obtain ⟨v, vr, rfl, r1, r2⟩ := vals_rds r
    obtain rfl := vals_nil r2
    simp only [biD] at hz
    cases hi : intsOf is with
    | none => rw [hi] at hz; cases hz
    | some ns =>
      rw [hi] at hz
      cases hz
      obtain ⟨a, ws, rfl, e1, rs⟩ := RL.lst' (.rd r1)
      have e2 := intsOf_vals hi rs
      subst e2
      exact ⟨a, ns, rfl, SqL.of e1, h _ (epost_int _)⟩
theorem snd_min (cx : Ctx X CX C k Φ G bl N sc) (hg : glOk sc n "min" = true) (hb : "min" ∈ bl) (hp : plainB x = true) (hps : xs.all plainB = true) (ha : PA X (x :: xs) (tAv X.K C Φ G es)) : PE X (.Call (.Name n p) (x :: xs) [] pos) (tEv X.K C Φ G (.bi .min2 es)) := by
  obtain ⟨rfl, hgl, hdb⟩ := cx.gl hg
  refine bi_gen (pe_callB (call_min2 cx.calm) hgl (cx.wd.bn _ hb (by decide)) PyProof.Rows.boot_min ha (by decide +kernel) hdb (star_plain hp) (back_plain hps)) (fun g => by rw [ev] <;> simp) fun c H H' vs ds T z Q ⟨S, g, r⟩ hz h => ?_
  match ds, hz with
  | [.int i, .int j], hz =>
    cases hz
    obtain ⟨v, vr, rfl, r1, r2⟩ := vals_rds r
    obtain ⟨w, wr, rfl, r4, r3⟩ := vals_rds r2
    obtain rfl := vals_nil r3
    exact ⟨i, j, by rw [r1.ofI, r4.ofI], h _ (epost_int _)⟩
theorem snd_max (cx : Ctx X CX C k Φ G bl N sc) (hg : glOk sc n "max" = true) (hb : "max" ∈ bl) (hp : plainB x = true) (hps : xs.all plainB = true) (ha : PA X (x :: xs) (tAv X.K C Φ G es)) : PE X (.Call (.Name n p) (x :: xs) [] pos) (tEv X.K C Φ G (.bi .max2 es)) := by
  obtain ⟨rfl, hgl, hdb⟩ := cx.gl hg
  refine bi_gen (pe_callB (call_max2 cx.calm) hgl (cx.wd.bn _ hb (by decide)) PyProof.Rows.boot_max ha (by decide +kernel) hdb (star_plain hp) (back_plain hps)) (fun g => by rw [ev] <;> simp) fun c H H' vs ds T z Q ⟨S, g, r⟩ hz h => ?_
  match ds, hz with
  | [.int i, .int j], hz =>
    cases hz
    obtain ⟨v, vr, rfl, r1, r2⟩ := vals_rds r
    obtain ⟨w, wr, rfl, r4, r3⟩ := vals_rds r2
    obtain rfl := vals_nil r3
    exact ⟨i, j, by rw [r1.ofI, r4.ofI], h _ (epost_int _)⟩
theorem snd_len (cx : Ctx X CX C k Φ G bl N sc) (hg : glOk sc n "len" = true) (hb : "len" ∈ bl) (hp : plainB x = true) (ha : PE X x (tLv X.K C Φ G a)) : PE X (.Call (.Name n p) [x] [] pos) (tEv X.K C Φ G (.bi .len (.cons a .nil))) := by
  obtain ⟨rfl, hgl, hdb⟩ := cx.gl hg
  refine pe_imp (pe_callB call_len hgl (cx.wd.bn _ hb (by decide)) PySem.boot_len (pa_cons ha pa_nil (star_plain hp)) (by decide +kernel) hdb (star_plain hp) rfl) fun σ H Q ⟨c, ok, q⟩ => ?_
  rw [ev] at q
  obtain ⟨⟨d, T⟩, ea, q1⟩ := q.bind
  obtain ⟨z, ez, q2⟩ := q1.bind
  refine ⟨c, ok, ?_⟩
  rw [ea]
  intro v H1 s1 ⟨S, g, r⟩
  have hz := Res.of_ok ez
  have seq : ∀ ds, d.items = some ds → biD .len [d] = d.items.map (fun ds => .int ds.length) → ∃ x n, [v] = [x] ∧ LenV X.K x H1 n ∧ Q (.int n) H1 := fun ds hi he => by
    rw [he, hi] at hz
    cases hz
    obtain ⟨a', vs, rfl, hs, rs⟩ := r.items hi
    refine ⟨_, vs.length, rfl, ?_, ?_⟩
    · rcases hs with hs | hs
      · exact .inl ⟨vs, hs, rfl⟩
      · exact .inr ⟨vs, hs, rfl⟩
    · rw [rs.length]; exact q2 _ H1 s1 (epost_int _)
  show ∃ x n, [v] = [x] ∧ LenV X.K x H1 n ∧ Q (.int n) H1
  cases d with
  | str y =>
    simp only [biD] at hz
    split at hz
    · rename_i hl
      cases hz
      exact ⟨_, y.length, rfl, by rw [r.str]; exact ⟨lim_le hl, rfl⟩, q2 _ H1 s1 (epost_int _)⟩
    · cases hz
  | lst ds => exact seq ds rfl rfl
  | tup ds => exact seq ds rfl rfl
  | rol ds => exact seq ds rfl rfl
  | non => simp [biD, D.items] at hz
  | bl _ => simp [biD, D.items] at hz
  | int _ => simp [biD, D.items] at hz
  | obj _ _ => simp [biD, D.items] at hz
  | dct _ _ => simp [biD, D.items] at hz
theorem snd_list (cx : Ctx X CX C k Φ G bl N sc) (hg : glOk sc n "list" = true) (hb : "list" ∈ bl) (hp : plainB x = true) (ha : PE X x (tLv X.K C Φ G a)) : PE X (.Call (.Name n p) [x] [] pos) (tEv X.K C Φ G (.bi .lst (.cons a .nil))) := by
  obtain ⟨rfl, hgl, hdb⟩ := cx.gl hg
  refine pe_imp (pe_callTy call_list_of hgl (cx.wd.bn _ hb (by decide)) PyProof.Rows.boot_list (pa_cons ha pa_nil (star_plain hp)) (by decide +kernel) hdb (star_plain hp) rfl) fun σ H Q ⟨c, ok, q⟩ => ?_
  rw [ev] at q
  obtain ⟨⟨d, T⟩, ea, q1⟩ := q.bind
  refine ⟨c, ok, ?_⟩
  rw [ea]
  intro v H1 s1 ⟨S, g, r⟩
  cases hi : d.items with
  | none => simp only [hi] at q1; exact q1.elim
  | some ds =>
    simp only [hi] at q1
    obtain ⟨a', vs, rfl, hs, rs⟩ := r.items hi
    exact ⟨a', vs, rfl, hs, fun l nl => q1 _ _ (s1.trans (same_upd nl)) (epost_fl s1 g rs nl)⟩
theorem snd_tupleB (cx : Ctx X CX C k Φ G bl N sc) (hg : glOk sc n "tuple" = true) (hb : "tuple" ∈ bl) (hp : plainB x = true) (ha : PE X x (tLv X.K C Φ G a)) : PE X (.Call (.Name n p) [x] [] pos) (tEv X.K C Φ G (.bi .tup (.cons a .nil))) := by
  obtain ⟨rfl, hgl, hdb⟩ := cx.gl hg
  refine pe_imp (pe_callTy call_tuple_of hgl (cx.wd.bn _ hb (by decide)) PyProof.Rows.boot_tuple (pa_cons ha pa_nil (star_plain hp)) (by decide +kernel) hdb (star_plain hp) rfl) fun σ H Q ⟨c, ok, q⟩ => ?_
  rw [ev] at q
  obtain ⟨⟨d, T⟩, ea, q1⟩ := q.bind
  refine ⟨c, ok, ?_⟩
  rw [ea]
  intro v H1 s1 ⟨S, g, r⟩
  cases d <;> first | exact q1.elim | skip
  obtain ⟨a', vs, rfl, e1, rs⟩ := r.lst'
  exact ⟨a', vs, rfl, .inl ⟨SqL.of e1, fun l nl => q1 _ _ (s1.trans (same_upd nl)) (epost_tup g rs nl)⟩⟩
theorem snd_gcd (cx : Ctx X CX C k Φ G bl N sc) (hg : glOk sc n "gcd" = true) (hb : "gcd" ∈ bl) (hp : plainB x = true) (hps : xs.all plainB = true) (ha : PA X (x :: xs) (tAv X.K C Φ G es)) : PE X (.Call (.Name n p) (x :: xs) [] pos) (tEv X.K C Φ G (.bi .gcd es)) := by
  obtain ⟨rfl, hgl, hdb⟩ := cx.gl hg
  refine bi_gen (pe_callBfun cr_gcd hgl (cx.wd.gcd hb) ha hdb (star_plain hp) (back_plain hps)) (fun g => by rw [ev] <;> simp) fun c H H' vs ds T z Q ⟨S, g, r⟩ hz h => ?_
  match ds, hz with
  | [.int i, .int j], hz =>
    cases hz
    obtain ⟨v, vr, rfl, r1, r2⟩ := vals_rds r
    obtain ⟨w, wr, rfl, r4, r3⟩ := vals_rds r2
    obtain rfl := vals_nil r3
    exact ⟨i, j, by rw [r1.ofI, r4.ofI], h _ (epost_int _)⟩
theorem rows_each {K : PySem.W.Frag} {C : Kls} {H : Hp} {S : Addr → Prop} : ∀ {rows : List (List Int)} {vs : List V}, RDs K C H S vs (rows.map encZ) → Each (fun y ns => (∃ p, y = .ref p ∧ SqL K H p (ns.map V.int)) ∧ RD K C H S y (encZ ns)) vs rows
  | [], vs, r => by cases r; exact .nil
  | ns :: rows, vs, r => by
    have r' : RDs K C H S vs (encZ ns :: rows.map encZ) := r
    cases r' with
    | cons a b =>
      have a' := a
      unfold encZ at a'
      cases a' with
      | lst s e q =>
        have hv : ∀ {ns : List Int} {us : List V}, RDs K C H S us (ns.map D.int) → us = ns.map V.int := by
          intro ns
          induction ns with
          | nil => intro us q; cases q; rfl
          | cons n ns ih =>
            intro us q
            have q' : RDs K C H S us (.int n :: ns.map D.int) := q
            cases q' with
            | cons x y => cases x; rw [ih y]; rfl
        refine .cons ⟨⟨_, rfl, ?_⟩, a⟩ (rows_each b)
        rw [← hv q]
        exact SqL.of e
theorem each_rds {K : PySem.W.Frag} {C : Kls} {H : Hp} {S : Addr → Prop} : ∀ {rows : List (List Int)} {vs : List V}, Each (fun y ns => RD K C H S y (encZ ns)) vs rows → RDs K C H S vs (rows.map encZ)
  | _, _, .nil => .nil
  | _, _, .cons h t => .cons h (each_rds t)
theorem snd_sorted (cx : Ctx X CX C k Φ G bl N sc) (hg : glOk sc n "sorted" = true) (hb : "sorted" ∈ bl) (hp : plainB x = true) (ha : PE X x (tLv X.K C Φ G a)) : PE X (.Call (.Name n p) [x] [] pos) (tEv X.K C Φ G (.bi .srt (.cons a .nil))) := by
  obtain ⟨rfl, hgl, hdb⟩ := cx.gl hg
  refine pe_imp (pe_callB (cr_sortedZ cx.room.units) hgl (cx.wd.bn _ hb (by decide)) PyProof.Rows.boot_sorted (pa_cons ha pa_nil (star_plain hp)) (by decide +kernel) hdb (star_plain hp) rfl) fun σ H Q ⟨c, ok, q⟩ => ?_
  rw [ev] at q
  obtain ⟨⟨d, T⟩, ea, q1⟩ := q.bind
  refine ⟨c, ok, ?_⟩
  rw [ea]
  intro v H1 s1 ⟨S, g, r⟩
  cases d <;> first | exact q1.elim | skip
  rename_i ds
  simp only at q1
  obtain ⟨os, eo, q2⟩ := q1.bind
  have eo' := Res.of_ok eo
  unfold srtD at eo'
  cases hm : ds.mapM rowOfD with
  | none => rw [hm] at eo'; cases eo'
  | some rows =>
    rw [hm] at eo'
    cases eo'
    obtain ⟨a', vs, rfl, e1, rs⟩ := r.lst'
    rw [mapM_row hm] at rs
    exact ⟨a', vs, rows, fun y ns => RD X.K C H1 S y (encZ ns), rfl, SqL.of e1, rows_each rs, fun out p' ho np => q2 _ _ (s1.trans (same_upd np)) (epost_fl s1 g (each_rds ho) np)⟩
/-! ### classes -/
theorem tyx_of (cx : Ctx X CX C k Φ G bl N sc) {S : Addr → Prop} {v : V} {d : D} (r : RL X.K C H S v d) : TyX X.K H v (C.tyD d) := by
  have tup : ∀ {a vs}, SqT X.K H a vs → TyX X.K H (.ref a) (.type "tuple") := fun {a vs} h => by
    rcases h with (h | ⟨o, h⟩) | ⟨o, its, n, h1, h2, _⟩
    · exact .base (.tup h)
    · exact .fTuple h
    · exact .kTuple h1 h2
  cases r with
  | lst e _ => exact .base (.lst e)
  | rd r =>
    cases r with
    | non => exact .base .non
    | bl b => exact .base (.bl b)
    | int i => exact .base (.int i)
    | str y => exact .base (.str y)
    | lst s e _ => exact .base (.lst e)
    | tup s _ => exact tup s
    | rol s _ =>
      rcases s with ⟨o, h⟩ | ⟨o, its, n, h1, h2, _⟩
      · exact .base (.frz h)
      · exact .kList h1 h2
    | obj s e hn _ => exact (cx.wd.cls _ hn.1).2.2.2 _ _ _ _ e
    | dct s e _ _ => exact .base (.dK e)
theorem snd_isi (cx : Ctx X CX C k Φ G bl N sc) {t : Ty} {n2 : Str} {p2 : Pos} (hg : glOk sc n "isinstance" = true) (hb : "isinstance" ∈ bl) (hg2 : glOk sc n2 (tyNm t) = true) (ht : match t with | .cls cn => cn < C.n | t => tyNm t ∈ bl) (hp : plainB x = true) (ha : PE X x (tLv X.K C Φ G a)) :
    PE X (.Call (.Name n p) [x, .Name n2 p2] [] pos) (tEv X.K C Φ G (.isi a t)) := by
  obtain ⟨rfl, hgl, hdb⟩ := cx.gl hg
  obtain ⟨rfl, hgl2, hdb2⟩ := cx.gl hg2
  have hcls : ∃ cv, PE X (.Name (Str.ofString (tyNm t)) p2) (tC cv) ∧ ClsV cv (C.tyT t) := by
    have ty : ∀ nm : String, tyNm t = nm → C.tyT t = .type nm → nm ∈ bl → nm ≠ "gcd" → bootBuiltins (Str.ofString nm) = some (.type nm) → (Str.ofString nm) ≠ "__name__" → ∃ cv, PE X (.Name (Str.ofString (tyNm t)) p2) (tC cv) ∧ ClsV cv (C.tyT t) := fun nm e1 e2 h1 h2 h3 h4 => by
      rw [e2]
      refine ⟨.ty nm, ?_, .ty nm⟩
      have hd := hdb2
      rw [e1] at hgl2 hd ⊢
      exact pe_bltn hgl2 (cx.wd.bn nm h1 h2) h3 rfl h4 hd
    cases t with
    | int => exact ty "int" rfl rfl ht (by decide) PyProof.Rows.boot_int (by decide +kernel)
    | bool => exact ty "bool" rfl rfl ht (by decide) PyProof.Rows.boot_bool (by decide +kernel)
    | str => exact ty "str" rfl rfl ht (by decide) PyProof.Rows.boot_str (by decide +kernel)
    | lst => exact ty "list" rfl rfl ht (by decide) PyProof.Rows.boot_list (by decide +kernel)
    | tup => exact ty "tuple" rfl rfl ht (by decide) PyProof.Rows.boot_tuple (by decide +kernel)
    | cls cn =>
      have hm := (cx.wd.cls cn ht).2.2.1
      exact ⟨.ref (C.at_ cn), pe_glob hgl2 hm rfl hdb2, .own _⟩
  obtain ⟨cv, hcv, hcl⟩ := hcls
  refine pe_imp (pe_callB call_isi hgl (cx.wd.bn _ hb (by decide)) PyProof.Rows.boot_isinstance (pa_cons ha (pa_cons hcv pa_nil (star_plain rfl)) (star_plain hp)) (by decide +kernel) hdb (star_plain hp) rfl) fun σ H Q ⟨c, ok, q⟩ => ?_
  rw [ev] at q
  obtain ⟨⟨d, T⟩, ea, q1⟩ := q.bind
  refine ⟨c, ok, ?_⟩
  rw [ea]
  intro v H1 s1 ⟨S, g, r⟩
  refine ⟨v, cv, _, _, isiD t d, rfl, hcl, tyx_of cx r, cx.wd.kit t d (fun cn e => by subst e; exact ht) (fun cn fs e => ?_), q1 _ H1 s1 (epost_bl _)⟩
  subst e
  cases r with | rd r => cases r with | obj _ _ hn _ => exact hn.1
/-! ### methods -/
theorem snd_bits {ap : Pos} (ho : plainO x = true) (hl : (ap.endLine == pos.line) = true) (ha : PE X x (tEv X.K C Φ G a)) : PE X (.Call (.Attribute x "bit_length" ap) [] [] pos) (tEv X.K C Φ G (.bits a)) := by
  refine pe_imp (pe_bits ha (base_plain ho) hl) fun σ H Q ⟨c, ok, q⟩ => ?_
  rw [ev] at q
  obtain ⟨⟨m, T⟩, ea, q1⟩ := q.bind
  refine ⟨c, ok, ?_⟩
  rw [ea]
  intro v H' s p
  cases hm : m.toD <;> simp only [hm] at q1 <;> first | exact q1.elim | skip
  exact ⟨_, (p.as hm).ofI, q1 _ H' s (epost_int _)⟩
theorem find_scs {d : D} : ∀ {ds : List D} {j : Nat}, ds.findIdx? (fun z => z.eqv d) = some j → ∃ z, ds[j]? = some z ∧ z.eqv d = true ∧ ∀ (m : Nat) (z' : D), m < j → ds[m]? = some z' → z'.eqv d = false := by
  intro ds j h
  obtain ⟨h1, h2, h3⟩ := List.findIdx?_eq_some_iff_getElem.mp h
  refine ⟨ds[j], by simp, by simpa using h2, fun m z' hm hz => ?_⟩
  have := h3 m hm
  obtain ⟨h4, e⟩ := List.getElem?_eq_some_iff.mp hz
  rw [← e]
  simpa using this
theorem pys_get : ∀ {ds : List D} {i : Nat}, (D.pys ds)[i]? = ds[i]?.map D.py
  | [], i => by simp [D.pys]
  | d :: ds, 0 => by simp [D.pys]
  | d :: ds, i + 1 => by rw [D.pys, List.getElem?_cons_succ, List.getElem?_cons_succ]; exact pys_get
theorem lays_mem {n : Nat} : ∀ {ds : List D}, D.lays n ds = true → ∀ {d : D}, d ∈ ds → d.lay n = true
  | [], _, d, h => by simp at h
  | x :: ds, h, d, hd => by
    rw [D.lays, Bool.and_eq_true] at h
    rcases List.mem_cons.mp hd with rfl | hd
    · exact h.1
    · exact lays_mem h.2 hd
theorem snd_idx {ap : Pos} (hu : X.A.units + 65 < cLine) (ho : plainO x1 = true) (hl : (ap.endLine == pos.line) = true) (hp : plainB x2 = true) (ha : PE X x1 (tLv X.K C Φ G a)) (hb : PE X x2 (tEv X.K C Φ G b)) : PE X (.Call (.Attribute x1 "index" ap) [x2] [] pos) (tEv X.K C Φ G (.idx a b)) := by
  have few : ((backTo pos (starEach [x2] X.env)).all (fun x => !x.1) && (backToKw pos (keywordEach [] X.env)).all (fun x => x.1.isSome) && decide (([x2] : List Expr).length + ([] : List Keyword).length + (if ([] : List Keyword).isEmpty then 0 else 1) < 30)) = true := by
    rw [star_plain hp]; rfl
  refine pe_imp (pe_bm PySem.F.plainAttrs_list PySem.F.slot_list_index PySem.F.type_list_index (mt_index.or (mt_indexD hu)) ha (pa_cons hb pa_nil (star_plain hp)) (base_plain ho) few hl (star_plain hp) rfl) fun σ H Q ⟨c, ok, q⟩ => ?_
  rw [ev] at q
  obtain ⟨⟨da, Ta⟩, ea, q1⟩ := q.bind
  obtain ⟨⟨mb, Tb⟩, eb, q2⟩ := q1.bind
  refine ⟨c, ok, ?_⟩
  rw [ea]
  intro v H1 s1 p1
  cases da <;> first | exact q2.elim | skip
  rename_i ds
  simp only at q2
  split at q2
  · rename_i hc
    rw [Bool.or_eq_true, Bool.and_eq_true, Bool.and_eq_true] at hc
    split at q2
    · rename_i j hj
      have p1' := p1
      obtain ⟨S0, g0, r0⟩ := p1'
      obtain ⟨a0, vs0, rfl, e0, rs0⟩ := r0.lst'
      refine ⟨.inl ⟨rfl, vs0, SqL.of e0⟩, c, ok.same s1, ?_⟩
      rw [eb]
      intro w H2 s2 p2
      obtain ⟨S1, g1, r1⟩ := p1.right s2
      obtain ⟨z, hz, hze, hbef⟩ := find_scs hj
      rcases hc with hc | hc
      · obtain ⟨a', vs, e', e1, rs⟩ := r1.lst'
        cases e'
        obtain ⟨S2, g2, r2⟩ := p2.lp
        obtain rfl := rs.scs hc.2
        obtain rfl := r2.sc hc.1
        have mem : ∀ {i : Nat} {z : D}, ds[i]? = some z → z.sc = true := fun h => List.all_eq_true.mp hc.2 _ (List.mem_of_getElem? h)
        refine .inl ⟨a0, ds.map D.toV, mb.toD.toV, j, z.toV, rfl, rfl, SqL.of e1, flat_toV hc.1, flat_toVs hc.2, by rw [List.getElem?_map, hz]; rfl, ?_, fun m z' hm hz' => ?_, q2 _ H2 (s1.trans s2) (epost_int _)⟩
        · rw [eqV_toV (mem hz) hc.1]; exact hze
        · rw [List.getElem?_map] at hz'
          cases hd : ds[m]? with
          | none => rw [hd] at hz'; cases hz'
          | some z2 =>
            rw [hd] at hz'
            cases hz'
            rw [eqV_toV (mem hd) hc.1]; exact hbef m z2 hm hd
      · obtain ⟨S2, g2, r2⟩ := p2.lp
        have l8 : (D.lst ds).lay 8 = true := by rw [D.lay]; exact hc.2
        have mem : ∀ {i : Nat} {z : D}, ds[i]? = some z → z.lay 7 = true := fun h => lays_mem hc.2 (List.mem_of_getElem? h)
        refine .inr ⟨a0, w, mb.toD.py, D.pys ds, j, z.py, rfl, rfl, by have := r1.dp l8; rwa [D.py] at this, r2.dp hc.1, by have := lay_shaped _ l8 (by decide); rwa [D.py] at this, lay_shaped _ hc.1 (by decide), by rw [pys_get, hz]; rfl, ?_, fun m z' hm hz' => ?_, q2 _ H2 (s1.trans s2) (epost_int _)⟩
        · rw [eqv_py _ _ (mem hz) hc.1]; exact hze
        · rw [pys_get] at hz'
          cases hd : ds[m]? with
          | none => rw [hd] at hz'; cases hz'
          | some z2 =>
            rw [hd] at hz'
            cases hz'
            rw [eqv_py _ _ (mem hd) hc.1]; exact hbef m z2 hm hd
    · exact q2.elim
  · exact q2.elim
end
end Ev

set_option maxRecDepth 100000
set_option maxHeartbeats 4000000
/-! Shared from now on; targets; what is walked. -/
namespace Ev
open PySem PySem.Spec PyProof.Rows L2

def fzM (o : Option M) : Option M := o.map fun m => .frz m.toD
theorem frz1_len (g : Gm) (i : Nat) : (frz1 g i).length = g.length := by
  unfold frz1
  split <;> simp
theorem frz1_get (g : Gm) (i j : Nat) : (frz1 g i)[j]? = if j = i then (g[j]?).map fzM else g[j]? := by
  unfold frz1
  by_cases e : j = i
  · subst e
    rw [if_pos rfl]
    split
    · rename_i m h
      rw [List.getElem?_set_self (List.getElem?_eq_some_iff.mp h).1, h]; rfl
    · rename_i h
      cases q : g[j]? with
      | none => rfl
      | some o => cases o with
        | none => rfl
        | some m => exact absurd q (h m)
  · rw [if_neg e]
    split
    · rw [List.getElem?_set_ne (Ne.symm e)]
    · rfl
theorem fzM_fzM (o : Option M) : fzM (fzM o) = fzM o := by cases o <;> rfl
theorem frzG_len : ∀ (T : Tn) (g : Gm), (frzG T g).length = g.length
  | [], g => rfl
  | i :: T, g => by rw [frzG, frzG_len T, frz1_len]
theorem frzG_get : ∀ (T : Tn) (g : Gm) (j : Nat), (frzG T g)[j]? = if j ∈ T then (g[j]?).map fzM else g[j]?
  | [], g, j => by simp
  | i :: T, g, j => by
    rw [frzG, frzG_get T, frz1_get]
    by_cases e : j = i
    · subst e
      simp only [if_true, List.mem_cons, true_or]
      split
      · rw [Option.map_map]; congr 1; funext o; exact fzM_fzM o
      · rfl
    · simp only [List.mem_cons, e, false_or, if_false]

def Cf.fz (c : Cf) (T : Tn) (S : Addr → Prop) : Cf := ⟨fun a => c.S a ∨ (∃ i ∈ T, a ∈ c.fp i) ∨ S a, fun i => if i ∈ T then [] else c.fp i, frzG T c.g⟩
section
variable {K : PySem.W.Frag} {C : Kls} {c : Cf} {σ : L2.St} {H H0 H' : Hp} {S : Addr → Prop} {T : Tn}
theorem Ok.fz (k : Ok K C c σ H0) (s : Same H0 H) (g : Gw c T H0 H S) : Ok K C (c.fz T S) σ H := by
  refine ⟨by show (frzG T c.g).length = _; rw [frzG_len, k.len], fun i m e => ?_, fun a h => ?_, fun i a h => ?_, fun i => ?_, fun i j a h1 h2 => ?_⟩
  · have e' : (frzG T c.g)[i]? = some (some m) := e
    rw [frzG_get] at e'
    show ∃ v, σ[i]? = some (some v) ∧ RM K C H (c.fz T S).S v m (if i ∈ T then [] else c.fp i)
    by_cases hi : i ∈ T
    · rw [if_pos hi] at e' ⊢
      cases q : c.g[i]? with
      | none => rw [q] at e'; cases e'
      | some o => cases o with
        | none => rw [q] at e'; cases e'
        | some m0 =>
          rw [q] at e'
          cases e'
          obtain ⟨v, e1, r⟩ := k.slot i m0 q
          exact ⟨v, e1, .frz ((r.same s).toD.sub fun a z => z.imp_right fun z => .inl ⟨i, hi, z⟩)⟩
    · rw [if_neg hi] at e' ⊢
      obtain ⟨v, e1, r⟩ := k.slot i m e'
      exact ⟨v, e1, (r.same s).sub fun a z => .inl z⟩
  · rcases h with h | ⟨i, hi, h⟩ | h
    · exact fun z => k.live a h (s.free z)
    · obtain ⟨⟨o, e, _⟩, _⟩ := k.own i a h
      rw [s _ _ e]; simp
    · exact g.live a h
  · have h' : a ∈ (if i ∈ T then [] else c.fp i) := h
    by_cases hi : i ∈ T
    · rw [if_pos hi] at h'; simp at h'
    · rw [if_neg hi] at h'
      obtain ⟨⟨o, e, io⟩, n⟩ := k.own i a h'
      have no : ∀ j ∈ T, a ∉ c.fp j := fun j hj z => hi (k.dj i j a h' z ▸ hj)
      refine ⟨⟨o, s _ _ e, io⟩, fun z => ?_⟩
      rcases z with z | ⟨j, hj, z⟩ | z
      · exact n z
      · exact no j hj z
      · rcases g.sub a z with z | ⟨j, hj, z⟩ | z
        · exact n z
        · exact no j hj z
        · rw [e] at z; cases z
  · show (if i ∈ T then [] else c.fp i).Nodup
    split
    · simp
    · exact k.nd i
  · have h1' : a ∈ (if i ∈ T then [] else c.fp i) := h1
    have h2' : a ∈ (if j ∈ T then [] else c.fp j) := h2
    split at h1'
    · simp at h1'
    · split at h2'
      · simp at h2'
      · exact k.dj i j a h1' h2'

/-! ### targets -/
def gNs : List Nat → TGs
  | [] => gNil
  | i :: is => gCons (gName i) (gNs is)
def Tg.ix : Tg → List Nat
  | .nm i => [i]
  | .tp is => is
def tgR (K : PySem.W.Frag) : Tg → TG
  | .nm i => gName i
  | .tp is => fun v σ H Q => gTup K is.length (gNs is) v σ H Q ∨ gLst K is.length (gNs is) v σ H Q
def SlotOk (K : PySem.W.Frag) (C : Kls) (S : Addr → Prop) (fp : Nat → List Addr) (H : Hp) (g : Gm) (σ : L2.St) (j : Nat) : Prop := ∀ m, g[j]? = some (some m) → ∃ v, σ[j]? = some (some v) ∧ RM K C H S v m (fp j)
theorem gNs_ok {fp : Nat → List Addr} {Z : L2.St → Prop} : ∀ {is : List Nat} {ds : List D} {vs : List V} {g g' : Gm} {σ : L2.St} {Q : L2.St → Hp → Prop}, setTs g is ds = some g' → RDs K C H S vs ds → (∀ j ∈ is, fp j = []) → g.length = σ.length → (∀ j, j ∉ is → SlotOk K C S fp H g σ j) →
    Z σ → (∀ σ i x, i ∈ is → Z σ → Z (σ.set i (some x))) → (∀ σ2, Z σ2 → g'.length = σ2.length → (∀ j, SlotOk K C S fp H g' σ2 j) → Q σ2 H) → gNs is vs σ H Q
  | [], [], _, g, g', σ, Q, hb, .nil, hf, hl, hs, z, hz, h => by
    cases hb
    exact ⟨rfl, h σ z hl fun j => hs j (by simp)⟩
  | i :: is, d :: ds, _, g, g', σ, Q, hb, .cons (v := v) (vs := vs) r t, hf, hl, hs, z, hz, h => by
    refine ⟨v, vs, rfl, ?_⟩
    show gNs is vs (σ.set i (some v)) H Q
    rw [setTs] at hb
    refine gNs_ok hb t (fun j hj => hf j (List.mem_cons_of_mem _ hj)) (by simp [hl]) (fun j hj m e => ?_) (hz _ _ _ (List.mem_cons_self ..) z) (fun σ i x hi z => hz σ i x (List.mem_cons_of_mem _ hi) z) h
    by_cases e' : j = i
    · subst e'
      have hlt : j < g.length := by
        have := (List.getElem?_eq_some_iff.mp e).1
        simpa using this
      rw [List.getElem?_set_self hlt] at e
      cases e
      refine ⟨v, List.getElem?_set_self (by omega), ?_⟩
      rw [hf j (List.mem_cons_self ..)]
      exact .frz r
    · rw [List.getElem?_set_ne (Ne.symm e')] at e
      obtain ⟨w, e1, r1⟩ := hs j (by simp [e', hj]) m e
      exact ⟨w, by rw [List.getElem?_set_ne (Ne.symm e')]; exact e1, r1⟩
  | [], _ :: _, _, _, _, _, _, hb, _, _, _, _, _, _, _ => by cases hb
  | _ :: _, [], _, _, _, _, _, hb, _, _, _, _, _, _, _ => by cases hb
def Cf.bd (c : Cf) (ix : List Nat) (g : Gm) : Cf := ⟨c.S, fun j => if j ∈ ix then [] else c.fp j, g⟩
theorem Ok.bd (k : Ok K C c σ H) {ix : List Nat} {g : Gm} {σ2 : L2.St} (hl : g.length = σ2.length) (hs : ∀ j, SlotOk K C c.S (fun j => if j ∈ ix then [] else c.fp j) H g σ2 j) : Ok K C (c.bd ix g) σ2 H := by
  refine ⟨hl, fun i m e => hs i m e, k.live, fun i a h => ?_, fun i => ?_, fun i j a h1 h2 => ?_⟩
  · have h' : a ∈ (if i ∈ ix then [] else c.fp i) := h
    split at h'
    · simp at h'
    · exact k.own i a h'
  · show (if i ∈ ix then [] else c.fp i).Nodup
    split
    · simp
    · exact k.nd i
  · have h1' : a ∈ (if i ∈ ix then [] else c.fp i) := h1
    have h2' : a ∈ (if j ∈ ix then [] else c.fp j) := h2
    split at h1'
    · simp at h1'
    · split at h2'
      · simp at h2'
      · exact k.dj i j a h1' h2'
/-- a target takes a value: from any slots that agree with the names but for the target's own -/
theorem tg_ok (k : Ok K C c σ H) {t : Tg} {d : D} {g' : Gm} {v : V} {σ0 : L2.St} (hb : bindT t d c.g = some g') (r : RD K C H c.S v d) (hl : σ0.length = σ.length) (h0 : ∀ j, j ∉ t.ix → σ0[j]? = σ[j]?) {Z : L2.St → Prop} (z : Z σ0)
    (hz : ∀ σ i x, i ∈ t.ix → Z σ → Z (σ.set i (some x))) {Q : L2.St → Hp → Prop} (h : ∀ σ2, Z σ2 → Ok K C (c.bd t.ix g') σ2 H → Q σ2 H) : tgR K t v σ0 H Q := by
  have so : ∀ j, j ∉ t.ix → SlotOk K C c.S (fun j => if j ∈ t.ix then [] else c.fp j) H c.g σ0 j := fun j hj m e => by
    obtain ⟨w, e1, r1⟩ := k.slot j m e
    exact ⟨w, by rw [h0 j hj]; exact e1, by show RM K C H c.S w m (if j ∈ t.ix then [] else c.fp j); rw [if_neg hj]; exact r1⟩
  cases t with
  | nm i =>
    cases hb
    have := gNs_ok (K := K) (C := C) (S := c.S) (H := H) (fp := fun j => if j ∈ [i] then [] else c.fp j) (Z := Z) (is := [i]) (ds := [d]) (vs := [v]) (g := c.g) (g' := c.g.set i (some (.frz d))) (σ := σ0) (Q := fun σ2 H2 => H2 = H ∧ Q σ2 H) rfl (.cons r .nil)
      (fun j hj => if_pos hj) (by rw [k.len, hl]) so z hz fun σ2 z2 hl2 hs2 => ⟨rfl, h σ2 z2 (k.bd hl2 hs2)⟩
    obtain ⟨v', r', e1, e2⟩ := this
    cases e1
    obtain ⟨_, _, q⟩ := e2
    exact q
  | tp is =>
    have core : ∀ {ds : List D} {vs : List V}, setTs c.g is ds = some g' → RDs K C H c.S vs ds → gNs is vs σ0 H Q := fun {ds vs} hb rs =>
      gNs_ok (fp := fun j => if j ∈ is then [] else c.fp j) hb rs (fun j hj => if_pos hj) (by rw [k.len, hl]) so z hz fun σ2 z2 hl2 hs2 => h σ2 z2 (k.bd hl2 hs2)
    have len : ∀ {is : List Nat} {ds : List D} {g g' : Gm}, setTs g is ds = some g' → ds.length = is.length := by
      intro is
      induction is with
      | nil => intro ds g g' h; cases ds with | nil => rfl | cons _ _ => cases h
      | cons i is ih => intro ds g g' h; cases ds with | nil => cases h | cons d ds => rw [setTs] at h; simp [ih h]
    cases r with
    | tup s rs =>
      rw [bindT] at hb
      exact .inl ⟨_, _, rfl, s, by rw [rs.length, len hb], core hb rs⟩
    | lst s e rs =>
      rw [bindT] at hb
      exact .inr ⟨_, _, rfl, SqL.of e, by rw [rs.length, len hb], core hb rs⟩
    | _ => cases hb
end
section
variable {X : Cx} {CX : CXT} {C : Kls} {k : Nat} {Φ : String → List D → Res M} {G : String → Option D} {bl : List String} {N : List Str} {sc : Scope}
theorem pg_or {tg : Expr} {t u : TG} (h1 : PG X tg t) (h2 : PG X tg u) : PG X tg (fun v σ H Q => t v σ H Q ∨ u v σ H Q) := ⟨fun pins s σ H v w Q I r h => h.elim (h1.run pins s σ H v w Q I r) (h2.run pins s σ H v w Q I r)⟩
theorem pi_or {tg it : Expr} {t u : TI} (h1 : PI X tg it t) (h2 : PI X tg it u) : PI X tg it (fun σ H R => t σ H R ∨ u σ H R) := ⟨fun pins s σ H R I h => h.elim (h1.run pins s σ H R I) (h2.run pins s σ H R I)⟩
theorem pi_imp {tg it : Expr} {t t' : TI} (h : PI X tg it t) (hh : ∀ σ H R, t' σ H R → t σ H R) : PI X tg it t' := ⟨fun pins s σ H R I q => h.run pins s σ H R I (hh σ H R q)⟩
def chkNs (N : List Str) (sc : Scope) : List Nat → List Expr → Bool
  | [], [] => true
  | i :: is, .Name x _ :: es => stOk N sc x i && chkNs N sc is es
  | _, _ => false
def chkT (N : List Str) (sc : Scope) : Tg → Expr → Bool
  | .nm i, .Name x _ => stOk N sc x i
  | .tp is, .Tuple es _ _ => chkNs N sc is es
  | _, _ => false
theorem snd_ns (cx : Ctx X CX C k Φ G bl N sc) : ∀ {is : List Nat} {es : List Expr}, chkNs N sc is es = true → PGs X es (gNs is) ∧ (assignEach es X.env).length = is.length ∧ (assignEach es X.env).findIdx? (·.1) = none
  | [], [], _ => ⟨pgs_nil, rfl, rfl⟩
  | i :: is, .Name x p :: es, h => by
    rw [chkNs, Bool.and_eq_true] at h
    obtain ⟨h1, h2, h3⟩ := cx.st h.1
    obtain ⟨a, b, d⟩ := snd_ns cx h.2
    refine ⟨pgs_cons (pg_name cx.nd' h1 h2 h3) a rfl, ?_, ?_⟩
    · show (assignEach es X.env).length + 1 = _; rw [b]; rfl
    · show List.findIdx? (·.1) ((false, assign (.Name x p) X.env) :: assignEach es X.env) = none
      rw [List.findIdx?_cons, d]; rfl
  | [], _ :: _, h => by simp [chkNs] at h
  | _ :: _, [], h => by simp [chkNs] at h
theorem snd_tg (cx : Ctx X CX C k Φ G bl N sc) {t : Tg} {tg : Expr} (h : chkT N sc t tg = true) : PG X tg (tgR X.K t) := by
  cases t with
  | nm i =>
    cases tg <;> first | (simp [chkT] at h; done) | skip
    obtain ⟨h1, h2, h3⟩ := cx.st h
    exact pg_name cx.nd' h1 h2 h3
  | tp is =>
    cases tg <;> first | (simp [chkT] at h; done) | skip
    obtain ⟨a, b, d⟩ := snd_ns cx h
    exact pg_or (pg_tup cx.calm a b d) (pg_lst cx.calm a b d)
end

/-! ### what is walked -/
structure Wk (K : PySem.W.Frag) (C : Kls) (J : L2.It) (ds : List D) (S : Addr → Prop) (H : Hp) : Prop where
  go : ∀ i, i < ds.length → J.go i H
  stop : J.stop ds.length H
  yld : ∀ i x H', J.yld i H x H' → H' = H ∧ ∀ d, ds[i]? = some d → RD K C H S x d
def ICp (K : PySem.W.Frag) (C : Kls) (c : Cf) (H H' : Hp) (J : L2.It) (ds : List D) (T : Tn) : Prop := ∃ S, Gw c T H H' S ∧ ∀ H2, Same H' H2 → Wk K C J ds S H2
def IFp (K : PySem.W.Frag) (C : Kls) (c : Cf) (H H' : Hp) (J : L2.It) (ds : List D) (T : Tn) : Prop := ∃ S, Gw c T H H' S ∧ ∀ H2, Kp S H' H2 → Wk K C J ds S H2
def RIc (K : PySem.W.Frag) (C : Kls) (r : Res (List D × Tn)) (c : Cf) (H : Hp) (R : L2.It → Hp → Prop) : Prop := match r with
  | .ok (ds, T) => ∀ J H', Same H H' → ICp K C c H H' J ds T → R J H'
  | _ => False
def RIf (K : PySem.W.Frag) (C : Kls) (r : Res (List D × Tn)) (c : Cf) (H : Hp) (R : L2.It → Hp → Prop) : Prop := match r with
  | .ok (ds, T) => ∀ J H', Same H H' → IFp K C c H H' J ds T → R J H'
  | _ => False
def tIc (K : PySem.W.Frag) (C : Kls) (Φ : String → List D → Res M) (G : String → Option D) (i : Ev.It) : TI := fun σ H R => ∃ c, Ok K C c σ H ∧ RIc K C (its Φ G i c.g) c H R
def tIf (K : PySem.W.Frag) (C : Kls) (Φ : String → List D → Res M) (G : String → Option D) (i : Ev.It) : TI := fun σ H R => ∃ c, Ok K C c σ H ∧ RIf K C (itf Φ G i c.g) c H R
section
variable {K : PySem.W.Frag} {C : Kls} {H : Hp} {S : Addr → Prop}
theorem wk_list {a : Addr} {vs : List V} {ds : List D} (e : SqL K H a vs) (r : RDs K C H S vs ds) : Wk K C (Itl K a) ds S H := by
  refine ⟨fun i hi => ?_, ⟨vs, e, by rw [r.length]; exact Nat.le_refl _⟩, fun i x H' h => ⟨h.1, fun d hd => ?_⟩⟩
  · obtain ⟨v, e1, _⟩ := r.get (List.getElem?_eq_getElem hi)
    exact ⟨vs, v, e, e1⟩
  · obtain ⟨v, e1, r1⟩ := r.get hd
    have := h.2 vs e
    rw [e1] at this; cases this
    exact r1
theorem wk_tup {a : Addr} {vs : List V} {ds : List D} (e : SqT K H a vs) (r : RDs K C H S vs ds) : Wk K C (Itt K a) ds S H := by
  refine ⟨fun i hi => ?_, ⟨vs, e, by rw [r.length]; exact Nat.le_refl _⟩, fun i x H' h => ⟨h.1, fun d hd => ?_⟩⟩
  · obtain ⟨v, e1, _⟩ := r.get (List.getElem?_eq_getElem hi)
    exact ⟨vs, v, e, e1⟩
  · obtain ⟨v, e1, r1⟩ := r.get hd
    have := h.2 vs e
    rw [e1] at this; cases this
    exact r1
theorem wk_rng {lo hi : Int} : Wk K C (Itr lo (hi - lo).toNat) (rngD lo hi) S H := by
  have hl : (rngD lo hi).length = (hi - lo).toNat := by simp [rngD]
  refine ⟨fun i h => by rw [hl] at h; exact h, by rw [hl]; exact Nat.le_refl _, fun i x H' h => ⟨h.1, fun d hd => ?_⟩⟩
  rw [h.2]
  simp only [rngD, List.getElem?_map] at hd
  cases q : (List.range (hi - lo).toNat)[i]? with
  | none => rw [q] at hd; cases hd
  | some j =>
    rw [q] at hd
    cases hd
    obtain ⟨h1, e⟩ := List.getElem?_eq_some_iff.mp q
    simp at e
    subst e
    exact .int _
theorem wk_str {z : Str} : Wk K C (Its z) (z.cps.toList.map fun c => .str ⟨#[c]⟩) S H := by
  refine ⟨fun i h => (show i < z.cps.size by simpa using h), ?_, fun i x H' h => ⟨h.1, fun d hd => ?_⟩⟩
  · show z.cps.size ≤ _; simp
  · obtain ⟨_, ch, e1, e2⟩ := h
    subst e2
    rw [List.getElem?_map, Array.getElem?_toList, e1] at hd
    cases hd
    exact .str _
end
end Ev

set_option maxRecDepth 100000
set_option maxHeartbeats 4000000
/-! Walks and comprehensions. -/
namespace Ev
open PySem PySem.Spec PyProof.Rows L2
section
variable {X : Cx} {CX : CXT} {C : Kls} {k : Nat} {Φ : String → List D → Res M} {G : String → Option D} {bl : List String} {N : List Str} {sc : Scope}
variable {x x1 x2 tg : Expr} {xs : List Expr} {pos p : Pos} {a b e : E} {es : Es} {c : Cf} {σ : L2.St} {H : Hp} {n : Str}

theorem RIc.bind {α : Type} {r : Res α} {f : α → Res (List D × Tn)} {R : L2.It → Hp → Prop} (h : RIc X.K C (r.bind f) c H R) : ∃ z, r = .ok z ∧ RIc X.K C (f z) c H R := by
  cases r with
  | no => exact h.elim
  | ex _ => exact h.elim
  | ok z => exact ⟨z, rfl, h⟩
theorem RIf.bind {α : Type} {r : Res α} {f : α → Res (List D × Tn)} {R : L2.It → Hp → Prop} (h : RIf X.K C (r.bind f) c H R) : ∃ z, r = .ok z ∧ RIf X.K C (f z) c H R := by
  cases r with
  | no => exact h.elim
  | ex _ => exact h.elim
  | ok z => exact ⟨z, rfl, h⟩
theorem snd_overC (ha : PE X x (tLv X.K C Φ G a)) : PI X tg x (tIc X.K C Φ G (.over a)) := by
  refine pi_imp (pi_or (pi_or (pi_list ha) (pi_tup ha)) (pi_str ha)) fun σ H R ⟨c, ok, q⟩ => ?_
  rw [its] at q
  obtain ⟨⟨d, T⟩, ea, q1⟩ := q.bind
  have seqL : ∀ ds, d.items = some ds → (∀ v H1 (S : Addr → Prop), RL X.K C H1 S v d → ∃ a vs, v = .ref a ∧ SqL X.K H1 a vs ∧ RDs X.K C H1 S vs ds) → iList X.K (tLv X.K C Φ G a) σ H R := fun ds hi hl => by
    refine ⟨c, ok, ?_⟩
    rw [ea]
    intro v H1 s1 ⟨S, g, r⟩
    obtain ⟨a', vs, rfl, hs, rs⟩ := hl v H1 S r
    simp only [hi] at q1
    exact ⟨a', rfl, ⟨vs, hs⟩, q1 _ H1 s1 ⟨S, g, fun H2 s2 => wk_list (s2.seq hs) (rs.same s2)⟩⟩
  cases d with
  | lst ds => exact .inl (.inl (seqL ds rfl fun v H1 S r => let ⟨a', vs, e1, e2, rs⟩ := r.lst'; ⟨a', vs, e1, SqL.of e2, rs⟩))
  | rol ds => exact .inl (.inl (seqL ds rfl fun v H1 S r => by cases r with | rd r => cases r with | rol s rs => exact ⟨_, _, rfl, s.sq, rs⟩))
  | tup ds =>
    refine .inl (.inr ⟨c, ok, ?_⟩)
    rw [ea]
    intro v H1 s1 ⟨S, g, r⟩
    cases r with
    | rd r =>
      cases r with
      | tup s rs => exact ⟨_, rfl, ⟨_, s⟩, q1 _ H1 s1 ⟨S, g, fun H2 s2 => wk_tup ((Kp.of_same (S := S) s2).sqT s) (rs.same s2)⟩⟩
  | str z =>
    refine .inr ⟨c, ok, ?_⟩
    rw [ea]
    intro v H1 s1 ⟨S, g, r⟩
    exact ⟨z, r.str, q1 _ H1 s1 ⟨_, Gw.nil, fun H2 s2 => wk_str⟩⟩
  | non => exact q1.elim
  | bl _ => exact q1.elim
  | int _ => exact q1.elim
  | obj _ _ => exact q1.elim
  | dct _ _ => exact q1.elim
theorem snd_overF (ha : PE X x (tEv X.K C Φ G a)) : PI X tg x (tIf X.K C Φ G (.over a)) := by
  refine pi_imp (pi_or (pi_or (pi_list ha) (pi_tup ha)) (pi_str ha)) fun σ H R ⟨c, ok, q⟩ => ?_
  rw [itf] at q
  obtain ⟨⟨m, T⟩, ea, q1⟩ := q.bind
  simp only at q1
  generalize hd : m.toD = d at q1
  cases d with
  | lst ds =>
    refine .inl (.inl ⟨c, ok, ?_⟩)
    rw [ea]
    intro v H1 s1 p1
    obtain ⟨S, g, r⟩ := p1.rd
    rw [hd] at r
    cases r with
    | lst s e rs => exact ⟨_, rfl, ⟨_, SqL.of e⟩, q1 _ H1 s1 ⟨S, g, fun H2 s2 => wk_list (SqL.of (s2.set _ _ s e)) (rs.mono (fun _ z => z) s2)⟩⟩
  | rol ds =>
    refine .inl (.inl ⟨c, ok, ?_⟩)
    rw [ea]
    intro v H1 s1 p1
    obtain ⟨S, g, r⟩ := p1.rd
    rw [hd] at r
    cases r with
    | rol s rs => exact ⟨_, rfl, ⟨_, s.sq⟩, q1 _ H1 s1 ⟨S, g, fun H2 s2 => wk_list (s2.roL s).sq (rs.mono (fun _ z => z) s2)⟩⟩
  | tup ds =>
    refine .inl (.inr ⟨c, ok, ?_⟩)
    rw [ea]
    intro v H1 s1 p1
    obtain ⟨S, g, r⟩ := p1.rd
    rw [hd] at r
    cases r with
    | tup s rs => exact ⟨_, rfl, ⟨_, s⟩, q1 _ H1 s1 ⟨S, g, fun H2 s2 => wk_tup (s2.sqT s) (rs.mono (fun _ z => z) s2)⟩⟩
  | str z =>
    refine .inr ⟨c, ok, ?_⟩
    rw [ea]
    intro v H1 s1 p1
    exact ⟨z, (p1.as hd).ofS, q1 _ H1 s1 ⟨_, Gw.nil, fun H2 s2 => wk_str⟩⟩
  | non => exact q1.elim
  | bl _ => exact q1.elim
  | int _ => exact q1.elim
  | obj _ _ => exact q1.elim
  | dct _ _ => exact q1.elim
theorem rng_gen (cx : Ctx X CX C k Φ G bl N sc) (hg : glOk sc n "range" = true) (hb : "range" ∈ bl) : n = "range" ∧ Gl X "range" ∧ X.mg "range" = none := by
  obtain ⟨rfl, hgl, hdb⟩ := cx.gl hg
  exact ⟨rfl, hgl, cx.wd.bn _ hb (by decide)⟩
theorem rngD_z {n : Int} : rngD 0 n = rngD 0 n ∧ n.toNat = (n - 0).toNat := ⟨rfl, by rw [Int.sub_zero]⟩
theorem snd_rngC (cx : Ctx X CX C k Φ G bl N sc) (hg : glOk sc n "range" = true) (hb : "range" ∈ bl) (hp : plainB x = true) (ha : PE X x (tEv X.K C Φ G a)) : PI X tg (.Call (.Name n p) [x] [] pos) (tIc X.K C Φ G (.rng a)) := by
  obtain ⟨rfl, h1, h2⟩ := rng_gen cx hg hb
  refine pi_imp (pi_range1 h1 h2 (pa_cons ha pa_nil (star_plain hp)) (star_plain hp)) fun σ H R ⟨c, ok, q⟩ => ?_
  rw [its] at q
  obtain ⟨⟨m, T⟩, ea, q1⟩ := q.bind
  refine ⟨c, ok, ?_⟩
  rw [ea]
  intro v H1 s1 p1
  cases hm : m.toD <;> simp only [hm] at q1 <;> first | exact q1.elim | skip
  rename_i j
  split at q1
  · rename_i hj
    refine ⟨j, by rw [(p1.as hm).ofI], by omega, by omega, ?_⟩
    rw [rngD_z.2]
    exact q1 _ H1 s1 ⟨_, Gw.nil, fun H2 s2 => wk_rng⟩
  · exact q1.elim
theorem snd_rngF (cx : Ctx X CX C k Φ G bl N sc) (hg : glOk sc n "range" = true) (hb : "range" ∈ bl) (hp : plainB x = true) (ha : PE X x (tEv X.K C Φ G a)) : PI X tg (.Call (.Name n p) [x] [] pos) (tIf X.K C Φ G (.rng a)) := by
  obtain ⟨rfl, h1, h2⟩ := rng_gen cx hg hb
  refine pi_imp (pi_range1 h1 h2 (pa_cons ha pa_nil (star_plain hp)) (star_plain hp)) fun σ H R ⟨c, ok, q⟩ => ?_
  rw [itf, its] at q
  obtain ⟨⟨m, T⟩, ea, q1⟩ := q.bind
  refine ⟨c, ok, ?_⟩
  rw [ea]
  intro v H1 s1 p1
  cases hm : m.toD <;> simp only [hm] at q1 <;> first | exact q1.elim | skip
  rename_i j
  split at q1
  · rename_i hj
    refine ⟨j, by rw [(p1.as hm).ofI], by omega, by omega, ?_⟩
    rw [rngD_z.2]
    exact q1 _ H1 s1 ⟨_, Gw.nil, fun H2 s2 => wk_rng⟩
  · exact q1.elim
theorem rng2_gen {σ : L2.St} {H : Hp} {R : L2.It → Hp → Prop} {m m' : M} {T T' : Tn} (ok : Ok X.K C c σ H) (ea : ev Φ G a c.g = .ok (m, T)) (eb : ev Φ G b c.g = .ok (m', T'))
    (h : ∀ i j, m.toD = .int i → m'.toD = .int j → ∀ H1, Same H H1 → (-(2 ^ 62) ≤ i ∧ i < 2 ^ 62 ∧ -(2 ^ 62) ≤ j ∧ j < 2 ^ 62) ∧ R (Itr i (j - i).toNat) H1) (hi : ∃ i, m.toD = .int i) (hj : ∃ j, m'.toD = .int j) : iRng2 (tCons (tEv X.K C Φ G a) (tCons (tEv X.K C Φ G b) tNil)) σ H R := by
  obtain ⟨i, hi⟩ := hi
  obtain ⟨j, hj⟩ := hj
  refine ⟨c, ok, ?_⟩
  rw [ea]
  intro v H1 s1 p1
  refine ⟨c, ok.same s1, ?_⟩
  rw [eb]
  intro w H2 s2 p2
  obtain ⟨h1, h2⟩ := h i j hi hj H2 (s1.trans s2)
  exact ⟨i, j, by rw [(p1.as hi).ofI, (p2.as hj).ofI], h1, h2⟩
theorem snd_rng2C (cx : Ctx X CX C k Φ G bl N sc) (hg : glOk sc n "range" = true) (hb : "range" ∈ bl) (hp : plainB x1 = true) (hp2 : plainB x2 = true) (ha : PE X x1 (tEv X.K C Φ G a)) (hbb : PE X x2 (tEv X.K C Φ G b)) : PI X tg (.Call (.Name n p) [x1, x2] [] pos) (tIc X.K C Φ G (.rng2 a b)) := by
  obtain ⟨rfl, h1, h2⟩ := rng_gen cx hg hb
  refine pi_imp (pi_range2 h1 h2 (pa_cons ha (pa_cons hbb pa_nil (star_plain hp2)) (star_plain hp)) (by rw [star_plain hp, star_plain hp2]; rfl) (star_plain hp2)) fun σ H R ⟨c, ok, q⟩ => ?_
  rw [its] at q
  obtain ⟨⟨m, T⟩, ea, q1⟩ := q.bind
  obtain ⟨⟨m', T'⟩, eb, q2⟩ := q1.bind
  cases hm : m.toD <;> simp only [hm] at q2 <;> first | exact q2.elim | skip
  cases hm' : m'.toD <;> simp only [hm'] at q2 <;> first | exact q2.elim | skip
  rename_i i j
  split at q2
  · rename_i hj
    refine rng2_gen ok ea eb (fun i' j' e1 e2 H1 s1 => ?_) ⟨i, hm⟩ ⟨j, hm'⟩
    rw [hm] at e1; cases e1
    rw [hm'] at e2; cases e2
    exact ⟨by omega, q2 _ H1 s1 ⟨_, Gw.nil, fun H2 s2 => wk_rng⟩⟩
  · exact q2.elim
theorem snd_rng2F (cx : Ctx X CX C k Φ G bl N sc) (hg : glOk sc n "range" = true) (hb : "range" ∈ bl) (hp : plainB x1 = true) (hp2 : plainB x2 = true) (ha : PE X x1 (tEv X.K C Φ G a)) (hbb : PE X x2 (tEv X.K C Φ G b)) : PI X tg (.Call (.Name n p) [x1, x2] [] pos) (tIf X.K C Φ G (.rng2 a b)) := by
  obtain ⟨rfl, h1, h2⟩ := rng_gen cx hg hb
  refine pi_imp (pi_range2 h1 h2 (pa_cons ha (pa_cons hbb pa_nil (star_plain hp2)) (star_plain hp)) (by rw [star_plain hp, star_plain hp2]; rfl) (star_plain hp2)) fun σ H R ⟨c, ok, q⟩ => ?_
  rw [itf, its] at q
  obtain ⟨⟨m, T⟩, ea, q1⟩ := q.bind
  obtain ⟨⟨m', T'⟩, eb, q2⟩ := q1.bind
  cases hm : m.toD <;> simp only [hm] at q2 <;> first | exact q2.elim | skip
  cases hm' : m'.toD <;> simp only [hm'] at q2 <;> first | exact q2.elim | skip
  rename_i i j
  split at q2
  · rename_i hj
    refine rng2_gen ok ea eb (fun i' j' e1 e2 H1 s1 => ?_) ⟨i, hm⟩ ⟨j, hm'⟩
    rw [hm] at e1; cases e1
    rw [hm'] at e2; cases e2
    exact ⟨by omega, q2 _ H1 s1 ⟨_, Gw.nil, fun H2 s2 => wk_rng⟩⟩
  · exact q2.elim

/-! ### comprehensions -/
theorem wipe_set {i : Nat} {x : Option V} : ∀ {vs : List Nat} {σ : L2.St}, i ∈ vs → wipe (σ.set i x) vs = wipe σ vs
  | v :: vs, σ, h => by
    rw [wipe, wipe]
    by_cases e : i ∈ vs
    · rw [wipe_set e]
    · have e' : v = i := by
        rcases List.mem_cons.mp h with h | h
        · exact h.symm
        · exact absurd h e
      subst e'
      have : wipe (σ.set v x) vs = (wipe σ vs).set v x := by
        clear h
        induction vs with
        | nil => rfl
        | cons w ws ih =>
          simp only [List.mem_cons, not_or] at e
          rw [wipe, wipe, ih e.2, List.set_comm _ _ e.1]
      rw [this, List.set_set]
theorem wipe_wipe : ∀ {vs : List Nat} {σ : L2.St}, wipe (wipe σ vs) vs = wipe σ vs := by
  intro vs σ
  have key : ∀ (us : List Nat), (∀ v ∈ us, v ∈ vs) → wipe (wipe σ us) vs = wipe σ vs := by
    intro us
    induction us with
    | nil => intro _; rfl
    | cons u us ih =>
      intro h
      rw [wipe, wipe_set (h u (List.mem_cons_self ..))]
      exact ih fun v hv => h v (List.mem_cons_of_mem _ hv)
  exact key vs fun _ h => h
theorem compGo_len {t : Tg} {gc : Gm → Res Bool} {ge : Gm → Res (M × Tn)} : ∀ {ds os : List D} {g : Gm}, compGo t gc ge ds g = .ok os → os.length ≤ lim
  | [], os, g, h => by rw [compGo] at h; cases h; simp
  | d :: ds, os, g, h => by
    rw [compGo] at h
    obtain ⟨g1, _, h⟩ := Res.bind_eq_ok h
    obtain ⟨b, _, h⟩ := Res.bind_eq_ok h
    split at h
    · obtain ⟨r, _, h⟩ := Res.bind_eq_ok h
      split at h
      · obtain ⟨os', _, h⟩ := Res.bind_eq_ok h
        split at h
        · cases h; simp only [List.length_cons]; omega
        · cases h
      · cases h
    · exact compGo_len h
theorem snd_comp_core {t : Tg} {gc : Gm → Res Bool} {ge : Gm → Res (M × Tn)} {tt : TT} {te : TE} {i : Ev.It} {T : Tn} {ds os : List D} {Q : VK}
    (htt : ∀ c σ H Q, Ok X.K C c σ H → RTv (gc c.g) c H Q → tt σ H Q) (hte : ∀ c σ H Q, Ok X.K C c σ H → REv X.K C (ge c.g) c H Q → te σ H Q)
    (ok : Ok X.K C c σ H) (ei : its Φ G i c.g = .ok (ds, T)) (eo : compGo t gc ge ds (frzG T c.g) = .ok os) (hq : ∀ v H', Same H H' → EPost X.K C c H H' v (.fl os) T → Q v H') :
    tLc (tIc X.K C Φ G i) (tgR X.K t) tt te t.ix σ H Q := by
  refine ⟨c, ok, ?_⟩
  rw [ei]
  intro J H1 s1 ⟨SI, gI, wk⟩ Da nD
  -- the block's names
  have ok1 : Ok X.K C (c.fz T SI) σ H1 := ok.fz s1 gI
  let c1 : Cf := c.fz T SI
  have sub1 : ∀ a, c1.S a → c.S a ∨ (∃ i ∈ T, a ∈ c.fp i) ∨ H a = none := fun a z => by
    rcases z with z | z | z
    · exact .inl z
    · exact .inr (.inl z)
    · exact gI.sub a z
  let W : Nat → Nat → Hp → Prop := fun i m H2 => i + m = ds.length ∧ Same H1 H2 ∧ ∃ (acc : List V) (outs rest : List D) (S : Addr → Prop), H2 Da = some (.lst acc) ∧ RDs X.K C H2 S acc outs ∧ (∀ a, S a → c1.S a ∨ H1 a = none) ∧ (∀ a, S a → H2 a ≠ none) ∧ ¬ S Da ∧
    compGo t gc ge (ds.drop i) c1.g = .ok rest ∧ os = outs ++ rest
  refine ⟨W, ⟨ds.length, by simp, same_upd nD, [], [], os, fun _ => False, upd_same, .nil, fun _ z => z.elim, fun _ z => z.elim, fun z => z, eo, rfl⟩, ?_⟩
  rintro i m H2 ⟨him, s2, acc, outs, rest, S, eD, rs, hS, hL, nSD, er, eos⟩
  have wk2 := wk H2 s2
  by_cases hi : i < ds.length
  · refine .inr ⟨wk2.go i hi, W (i + 1) (m - 1), fun H' w => ⟨m - 1, by omega, w⟩, fun x H' hy => ?_⟩
    obtain ⟨rfl, hd⟩ := wk2.yld i x _ hy
    have hdr : ds.drop i = ds[i] :: ds.drop (i + 1) := by rw [List.drop_eq_getElem_cons hi]
    rw [hdr, compGo] at er
    obtain ⟨g1, eg, er⟩ := Res.bind_eq_ok er
    obtain ⟨bb, eb, er⟩ := Res.bind_eq_ok er
    have okH : Ok X.K C c1 σ H' := ok1.same s2
    have rd : RD X.K C H' c1.S x ds[i] := (hd _ (List.getElem?_eq_getElem hi)).sub fun a z => .inr (.inr z)
    refine tg_ok okH (Res.of_ok eg) rd (wipe_length σ t.ix) (fun j hj => wipe_out hj) (Z := fun σ2 => wipe σ2 t.ix = wipe σ t.ix) wipe_wipe (fun σ2 j y hj z => by rw [wipe_set hj]; exact z) fun σ2 z2 ok2 => ⟨z2, ?_⟩
    refine htt _ σ2 H' _ ok2 ?_
    show RTv (gc g1) _ _ _
    rw [eb]
    intro H3 s3
    have s13 := s2.trans s3
    cases bb with
    | false =>
      rw [if_neg (by simp)]; rw [if_neg (by simp)] at er
      exact ⟨by omega, s13, acc, outs, rest, S, s3 _ _ eD, rs.same s3, hS, fun a z q => hL a z (s3.free q), nSD, er, eos⟩
    | true =>
      rw [if_pos rfl]; rw [if_pos rfl] at er
      obtain ⟨⟨me, Te⟩, ee, er⟩ := Res.bind_eq_ok er
      have ok3 := ok2.same s3
      refine hte _ σ2 H3 _ ok3 ?_
      show REv X.K C (ge g1) _ _ _
      rw [ee]
      intro y H4 s4 p4
      have p5 := p4.nrm
      have hn : nrm (me, Te) = [] := by
        simp only at er
        generalize hz : nrm (me, Te) = nn at er
        cases nn with
        | nil => rfl
        | cons _ _ => cases er
      rw [hn] at p5
      simp only [hn] at er
      obtain ⟨os', eo', er⟩ := Res.bind_eq_ok er
      split at er
      · rename_i hlim
        cases er
        obtain ⟨S5, g5, r5⟩ := p5.rd
        have e4 : H4 Da = some (.lst acc) := s4 _ _ (s3 _ _ eD)
        have nS5 : ¬ S5 Da := fun z => by
          rcases g5.sub Da z with z | ⟨j, hj, _⟩ | z
          · exact ok1.live Da z nD
          · simp at hj
          · rw [s3 _ _ eD] at z; cases z
        have s14 := s13.trans s4
        have kp : Kp (fun a => S a ∨ S5 a) H4 (upd H4 Da (.lst (acc ++ [y]))) := Kp.upd e4 rfl fun z => z.elim nSD nS5
        have hlen : acc.length < sizeLine := by
          have h1 := compGo_len eo
          rw [rs.length]
          have h2 := congrArg List.length eos
          rw [List.length_append, List.length_cons] at h2
          exact Nat.lt_of_lt_of_le (by omega) lim_size
        refine ⟨acc, e4, hlen, by omega, fun a o ea => ?_, acc ++ [y], outs ++ [me.toD], os', fun a => S a ∨ S5 a, upd_same, ?_, fun a z => ?_, fun a z => ?_, fun z => z.elim nSD nS5, eo', by rw [eos]; simp⟩
        · rw [upd_ne (fun z => by subst z; rw [nD] at ea; cases ea)]
          exact s14 _ _ ea
        · refine RDs.append ?_ (.cons ?_ .nil)
          · exact (rs.same (s3.trans s4)).mono (fun _ z => .inl z) (kp.imp fun _ z => .inl z)
          · exact r5.mono (fun _ z => .inr z) (kp.imp fun _ z => .inr z)
        · rcases z with z | z
          · exact hS a z
          · rcases g5.sub a z with z | ⟨j, hj, _⟩ | z
            · exact .inl z
            · simp at hj
            · exact .inr (s13.free z)
        · by_cases ha : a = Da
          · rw [ha, upd_same]; simp
          · rw [upd_ne ha]
            rcases z with z | z
            · exact fun q => hL a z (s3.free (s4.free q))
            · exact g5.live a z
      · cases er
  · have ei : i = ds.length := by omega
    subst ei
    refine .inl ⟨wk2.stop, hq _ H2 (s1.trans s2) ?_⟩
    rw [List.drop_length, compGo] at er
    cases er
    rw [List.append_nil] at eos
    subst eos
    refine ⟨S, [Da], ⟨fun a z => ?_, hL⟩, .fl eD rs, by simp, fun a h => ?_⟩
    · rcases hS a z with z | z
      · exact sub1 a z
      · exact .inr (.inr (s1.free z))
    · obtain rfl : a = Da := by simpa using h
      exact ⟨s1.free nD, nSD⟩

/-! ### a list of the name's own things -/
theorem RMs.length {K : PySem.W.Frag} {H : Hp} {S : Addr → Prop} : ∀ {vs : List V} {ms : List M} {A : List Addr}, RMs K C H S vs ms A → vs.length = ms.length
  | _, _, _, .nil => rfl
  | _, _, _, .cons _ t => by rw [List.length_cons, List.length_cons, RMs.length t]
theorem RMs.snoc {K : PySem.W.Frag} {H : Hp} {S : Addr → Prop} : ∀ {vs : List V} {ms : List M} {A B : List Addr} {v : V} {m : M}, RMs K C H S vs ms A → RM K C H S v m B → RMs K C H S (vs ++ [v]) (ms ++ [m]) (A ++ B)
  | _, _, _, _, _, _, .nil, r => by
    have := RMs.cons r (RMs.nil (K := K) (C := C) (H := H) (S := S))
    rwa [List.append_nil] at this
  | _, _, _, _, _, _, .cons q t, r => by
    rw [List.append_assoc]
    exact .cons q (RMs.snoc t r)
theorem compOGo_len {t : Tg} {ge : Gm → Res (M × Tn)} : ∀ {ds : List D} {os : List M} {g : Gm}, compOGo t ge ds g = .ok os → os.length ≤ lim
  | [], os, g, h => by rw [compOGo] at h; cases h; simp
  | d :: ds, os, g, h => by
    rw [compOGo] at h
    obtain ⟨g1, _, h⟩ := Res.bind_eq_ok h
    obtain ⟨r, _, h⟩ := Res.bind_eq_ok h
    split at h
    · obtain ⟨os', _, h⟩ := Res.bind_eq_ok h
      split at h
      · cases h; simp only [List.length_cons]; omega
      · cases h
    · cases h
theorem snd_compO_core {t : Tg} {ge : Gm → Res (M × Tn)} {te : TE} {i : Ev.It} {T : Tn} {ds : List D} {os : List M} {Q : VK}
    (hte : ∀ c σ H Q, Ok X.K C c σ H → REv X.K C (ge c.g) c H Q → te σ H Q)
    (ok : Ok X.K C c σ H) (ei : its Φ G i c.g = .ok (ds, T)) (eo : compOGo t ge ds (frzG T c.g) = .ok os) (hq : ∀ v H', Same H H' → EPost X.K C c H H' v (.lst os) T → Q v H') :
    tLc (tIc X.K C Φ G i) (tgR X.K t) tYes te t.ix σ H Q := by
  refine ⟨c, ok, ?_⟩
  rw [ei]
  intro J H1 s1 ⟨SI, gI, wk⟩ Da nD
  have ok1 : Ok X.K C (c.fz T SI) σ H1 := ok.fz s1 gI
  let c1 : Cf := c.fz T SI
  have sub1 : ∀ a, c1.S a → c.S a ∨ (∃ i ∈ T, a ∈ c.fp i) ∨ H a = none := fun a z => by
    rcases z with z | z | z
    · exact .inl z
    · exact .inr (.inl z)
    · exact gI.sub a z
  let W : Nat → Nat → Hp → Prop := fun i m H2 => i + m = ds.length ∧ Same H1 H2 ∧ ∃ (acc : List V) (outs rest : List M) (S : Addr → Prop) (A : List Addr), H2 Da = some (.lst acc) ∧ RMs X.K C H2 S acc outs A ∧ A.Nodup ∧ (∀ a ∈ A, H1 a = none ∧ ¬ S a ∧ a ≠ Da) ∧
    (∀ a, S a → c1.S a ∨ H1 a = none) ∧ (∀ a, S a → H2 a ≠ none) ∧ ¬ S Da ∧ compOGo t ge (ds.drop i) c1.g = .ok rest ∧ os = outs ++ rest
  refine ⟨W, ⟨ds.length, by simp, same_upd nD, [], [], os, fun _ => False, [], upd_same, .nil, .nil, fun _ z => by simp at z, fun _ z => z.elim, fun _ z => z.elim, fun z => z, eo, rfl⟩, ?_⟩
  rintro i m H2 ⟨him, s2, acc, outs, rest, S, A, eD, rs, nd, hA, hS, hL, nSD, er, eos⟩
  have wk2 := wk H2 s2
  by_cases hi : i < ds.length
  · refine .inr ⟨wk2.go i hi, W (i + 1) (m - 1), fun H' w => ⟨m - 1, by omega, w⟩, fun x H' hy => ?_⟩
    obtain ⟨rfl, hd⟩ := wk2.yld i x _ hy
    have hdr : ds.drop i = ds[i] :: ds.drop (i + 1) := by rw [List.drop_eq_getElem_cons hi]
    rw [hdr, compOGo] at er
    obtain ⟨g1, eg, er⟩ := Res.bind_eq_ok er
    obtain ⟨⟨me, Te⟩, ee, er⟩ := Res.bind_eq_ok er
    have okH : Ok X.K C c1 σ H' := ok1.same s2
    have rd : RD X.K C H' c1.S x ds[i] := (hd _ (List.getElem?_eq_getElem hi)).sub fun a z => .inr (.inr z)
    refine tg_ok okH (Res.of_ok eg) rd (wipe_length σ t.ix) (fun j hj => wipe_out hj) (Z := fun σ2 => wipe σ2 t.ix = wipe σ t.ix) wipe_wipe (fun σ2 j y hj z => by rw [wipe_set hj]; exact z) fun σ2 z2 ok2 => ⟨z2, ?_⟩
    unfold tYes
    simp only [if_true]
    refine hte _ σ2 H' _ ok2 ?_
    show REv X.K C (ge g1) _ _ _
    rw [ee]
    intro y H4 s4 p4
    have p5 := p4.nrm
    have hn : nrm (me, Te) = [] := by
      simp only at er
      generalize hz : nrm (me, Te) = nn at er
      cases nn with
      | nil => rfl
      | cons _ _ => cases er
    rw [hn] at p5
    simp only [hn] at er
    obtain ⟨os', eo', er⟩ := Res.bind_eq_ok er
    split at er
    · rename_i hlim
      cases er
      obtain ⟨S5, A5, g5, r5, nd5, h5⟩ := p5
      have e4 : H4 Da = some (.lst acc) := s4 _ _ eD
      have g5' : ∀ a, S5 a → c1.S a ∨ H' a = none := fun a z => by
        rcases g5.sub a z with z | ⟨j, hj, _⟩ | z
        · exact .inl z
        · simp at hj
        · exact .inr z
      have nS5 : ¬ S5 Da := fun z => by
        rcases g5' Da z with z | z
        · exact ok1.live Da z nD
        · rw [eD] at z; cases z
      have liveA : ∀ a ∈ A, H' a ≠ none := fun a h => by
        obtain ⟨o, e, _⟩ := rs.live a h; rw [e]; simp
      have nDA5 : ∀ a ∈ A5, a ≠ Da := fun a h z => by
        subst z; have := (h5 _ h).1; rw [eD] at this; cases this
      have s14 := s2.trans s4
      have kp : Kp (fun a => (S a ∨ S5 a) ∨ a ∈ A ++ A5) H4 (upd H4 Da (.lst (acc ++ [y]))) := Kp.upd e4 rfl fun z => z.elim (fun z => z.elim nSD nS5) fun z => by
        rcases List.mem_append.mp z with z | z
        · exact (hA _ z).2.2 rfl
        · exact nDA5 _ z rfl
      have hlen : acc.length < sizeLine := by
        have h1 := compOGo_len eo
        rw [rs.length]
        have h2 := congrArg List.length eos
        rw [List.length_append, List.length_cons] at h2
        exact Nat.lt_of_lt_of_le (by omega) lim_size
      refine ⟨acc, e4, hlen, by omega, fun a o ea => ?_, acc ++ [y], outs ++ [me], os', fun a => S a ∨ S5 a, A ++ A5, upd_same, ?_, ?_, fun a z => ?_, fun a z => ?_, fun a z => ?_, fun z => z.elim nSD nS5, eo', by rw [eos]; simp⟩
      · rw [upd_ne (fun z => by subst z; rw [nD] at ea; cases ea)]
        exact s14 _ _ ea
      · have rs4 : RMs X.K C H4 S acc outs A := rs.mono (S' := fun _ => True) (fun _ s => s) (Kp.of_same s4) (fun _ _ => trivial) fun _ _ => trivial
        refine RMs.snoc ?_ ?_
        · exact rs4.mono (fun _ z => .inl z) kp (fun _ z => .inl (.inl z)) fun a z => .inr (List.mem_append_left _ z)
        · exact r5.mono (fun _ z => .inr z) kp (fun _ z => .inl (.inr z)) fun a z => .inr (List.mem_append_right _ z)
      · rw [List.nodup_append]
        exact ⟨nd, nd5, fun a h b h' z => by subst z; exact liveA a h (h5 a h').1⟩
      · rcases List.mem_append.mp z with z | z
        · refine ⟨(hA a z).1, fun q => q.elim (hA a z).2.1 fun q => ?_, (hA a z).2.2⟩
          rcases g5' a q with q | q
          · exact ok1.live a q (hA a z).1
          · exact liveA a z q
        · exact ⟨s2.free (h5 a z).1, fun q => q.elim (fun q => hL a q (h5 a z).1) (h5 a z).2, nDA5 a z⟩
      · rcases z with z | z
        · exact hS a z
        · exact (g5' a z).imp_right s2.free
      · by_cases ha : a = Da
        · rw [ha, upd_same]; simp
        · rw [upd_ne ha]
          rcases z with z | z
          · exact fun q => hL a z (s4.free q)
          · exact g5.live a z
    · cases er
  · have ei : i = ds.length := by omega
    subst ei
    refine .inl ⟨wk2.stop, hq _ H2 (s1.trans s2) ?_⟩
    rw [List.drop_length, compOGo] at er
    cases er
    rw [List.append_nil] at eos
    subst eos
    refine ⟨S, Da :: A, ⟨fun a z => ?_, hL⟩, .lst eD rs, List.nodup_cons.mpr ⟨fun z => (hA _ z).2.2 rfl, nd⟩, fun a h => ?_⟩
    · rcases hS a z with z | z
      · exact sub1 a z
      · exact .inr (.inr (s1.free z))
    · rcases List.mem_cons.mp h with rfl | h
      · exact ⟨s1.free nD, nSD⟩
      · exact ⟨s1.free (hA a h).1, (hA a h).2.1⟩

/-! ### dicts -/
theorem dctAt_none : ∀ {ks : List Int} {xs : List D} {i : Int}, i ∉ ks → dctAt ks xs i = none
  | [], _, _, _ => by simp [dctAt]
  | _ :: _, [], _, _ => by simp [dctAt]
  | k :: ks, x :: xs, i, h => by
    simp only [List.mem_cons, not_or] at h
    rw [dctAt, if_neg (Ne.symm h.1)]
    exact dctAt_none h.2
theorem dct_val {K : PySem.W.Frag} {H : Hp} {S : Addr → Prop} : ∀ {kvs : List (Key × V)} {ks : List Int} {ds : List D} (i : Int), kvs.map (·.1) = ks.map Sum.inl → RDs K C H S (kvs.map (·.2)) ds →
    (∀ d, dctAt ks ds i = some d → ∃ v, valV kvs (Sum.inl i) = some v ∧ RD K C H S v d) ∧ (dctAt ks ds i = none → valV kvs (Sum.inl i) = none)
  | [], [], _, i, _, _ => ⟨fun d h => by simp [dctAt] at h, fun _ => rfl⟩
  | (k', v) :: kvs, k :: ks, d :: ds, i, e, r => by
    simp only [List.map_cons, List.cons.injEq] at e
    obtain ⟨rfl, e⟩ := e
    rw [List.map_cons] at r
    cases r with | cons r t =>
    have ih := dct_val i e t
    by_cases h : k = i
    · subst h
      refine ⟨fun d' h' => ?_, fun h' => by rw [dctAt, if_pos rfl] at h'; cases h'⟩
      rw [dctAt, if_pos rfl] at h'
      cases h'
      exact ⟨v, by unfold valV; rw [List.find?_cons]; simp, r⟩
    · have hv : valV ((Sum.inl k, v) :: kvs) (Sum.inl i : Key) = valV kvs (Sum.inl i) := by
        unfold valV
        rw [List.find?_cons]
        have : decide ((Sum.inl k : Key) = Sum.inl i) = false := decide_eq_false fun q => h (Sum.inl.inj q)
        rw [this]
      rw [dctAt, if_neg h, hv]
      exact ih
  | [], _ :: _, _, _, e, _ => by simp at e
  | _ :: _, [], _, _, e, _ => by simp at e
  | (_, _) :: _, _ :: _, [], _, _, r => by rw [List.map_cons] at r; cases r
theorem dctGo_len {t : Tg} {kx vx : Gm → Res (M × Tn)} : ∀ {ds : List D} {g : Gm} {ks ks' : List Int} {xs xs' : List D}, dctGo t kx vx ds g ks xs = .ok (ks', xs') → ks.length ≤ lim → ks'.length ≤ lim
  | [], g, ks, ks', xs, xs', h, hl => by rw [dctGo] at h; cases h; exact hl
  | d :: ds, g, ks, ks', xs, xs', h, hl => by
    rw [dctGo] at h
    obtain ⟨g1, _, h⟩ := Res.bind_eq_ok h
    obtain ⟨a, _, h⟩ := Res.bind_eq_ok h
    obtain ⟨b, _, h⟩ := Res.bind_eq_ok h
    split at h
    · split at h
      · rename_i hc
        exact dctGo_len h (by rw [List.length_append]; simp; omega)
      · cases h
    · cases h
def tDcE (K : PySem.W.Frag) (C : Kls) (Φ : String → List D → Res M) (G : String → Option D) (i : Ev.It) (t : Tg) (kx vx : E) : TE := tDc (tIc K C Φ G i) (tgR K t) tYes (tEv K C Φ G kx) (tEv K C Φ G vx) t.ix
theorem snd_dct_core {t : Tg} {kx vx : E} {i : Ev.It} {T : Tn} {ds : List D} {ks : List Int} {xs : List D} {Q : VK}
    (ok : Ok X.K C c σ H) (ei : its Φ G i c.g = .ok (ds, T)) (eo : dctGo t (fun g => ev Φ G kx g) (fun g => ev Φ G vx g) ds (frzG T c.g) [] [] = .ok (ks, xs)) (hq : ∀ v H', Same H H' → EPost X.K C c H H' v (.frz (.dct ks xs)) T → Q v H') :
    tDcE X.K C Φ G i t kx vx σ H Q := by
  refine ⟨c, ok, ?_⟩
  rw [ei]
  intro J H1 s1 ⟨SI, gI, wk⟩ Da nD
  have ok1 : Ok X.K C (c.fz T SI) σ H1 := ok.fz s1 gI
  let c1 : Cf := c.fz T SI
  have sub1 : ∀ a, c1.S a → c.S a ∨ (∃ i ∈ T, a ∈ c.fp i) ∨ H a = none := fun a z => by
    rcases z with z | z | z
    · exact .inl z
    · exact .inr (.inl z)
    · exact gI.sub a z
  let W : Nat → Nat → Hp → Prop := fun i m H2 => i + m = ds.length ∧ Same H1 H2 ∧ ∃ (kvs : List (Key × V)) (ks0 : List Int) (xs0 : List D) (S : Addr → Prop), H2 Da = some (.dK kvs) ∧ kvs.map (·.1) = ks0.map Sum.inl ∧ ks0.length ≤ lim ∧ RDs X.K C H2 S (kvs.map (·.2)) xs0 ∧ (∀ a, S a → c1.S a ∨ H1 a = none) ∧ (∀ a, S a → H2 a ≠ none) ∧ ¬ S Da ∧
    dctGo t (fun g => ev Φ G kx g) (fun g => ev Φ G vx g) (ds.drop i) c1.g ks0 xs0 = .ok (ks, xs)
  refine ⟨W, ⟨ds.length, by simp, same_upd nD, [], [], [], fun _ => False, upd_same, rfl, Nat.zero_le _, .nil, fun _ z => z.elim, fun _ z => z.elim, fun z => z, eo⟩, ?_⟩
  rintro i m H2 ⟨him, s2, kvs, ks0, xs0, S, eD, ek, hkl, rs, hS, hL, nSD, er⟩
  have wk2 := wk H2 s2
  by_cases hi : i < ds.length
  · refine .inr ⟨wk2.go i hi, W (i + 1) (m - 1), fun H' w => ⟨m - 1, by omega, w⟩, fun x H' hy => ?_⟩
    obtain ⟨rfl, hd⟩ := wk2.yld i x _ hy
    have hdr : ds.drop i = ds[i] :: ds.drop (i + 1) := by rw [List.drop_eq_getElem_cons hi]
    rw [hdr, dctGo] at er
    obtain ⟨g1, eg, er⟩ := Res.bind_eq_ok er
    obtain ⟨⟨ma, Ta⟩, ea, er⟩ := Res.bind_eq_ok er
    obtain ⟨⟨mb, Tb⟩, eb, er⟩ := Res.bind_eq_ok er
    have okH : Ok X.K C c1 σ H' := ok1.same s2
    have rd : RD X.K C H' c1.S x ds[i] := (hd _ (List.getElem?_eq_getElem hi)).sub fun a z => .inr (.inr z)
    refine tg_ok okH (Res.of_ok eg) rd (wipe_length σ t.ix) (fun j hj => wipe_out hj) (Z := fun σ2 => wipe σ2 t.ix = wipe σ t.ix) wipe_wipe (fun σ2 j y hj z => by rw [wipe_set hj]; exact z) fun σ2 z2 ok2 => ⟨z2, ?_⟩
    unfold tYes
    simp only [if_true]
    refine ⟨_, ok2, ?_⟩
    show REv X.K C (ev Φ G kx g1) _ _ _
    rw [ea]
    intro y H3 s3 p3
    refine ⟨_, ok2.same s3, ?_⟩
    show REv X.K C (ev Φ G vx g1) _ _ _
    rw [eb]
    intro z H4 s4 p4
    have p5 := p4.nrm
    simp only at er
    cases hm : ma.toD <;> simp only [hm] at er <;> first | (cases er; done) | skip
    rename_i key
    generalize hn : nrm (mb, Tb) = nn at er p5
    cases nn with
    | cons _ _ => cases er
    | nil =>
    simp only at er
    split at er
    · rename_i hc
      obtain ⟨S5, g5, r5⟩ := p5.rd
      have e4 : H4 Da = some (.dK kvs) := s4 _ _ (s3 _ _ eD)
      have nS5 : ¬ S5 Da := fun z => by
        rcases g5.sub Da z with z | ⟨j, hj, _⟩ | z
        · exact ok1.live Da z nD
        · simp at hj
        · rw [s3 _ _ eD] at z; cases z
      have hv : valV kvs (Sum.inl key) = none := (dct_val key ek rs).2 (dctAt_none hc.1)
      have s14 := (s2.trans s3).trans s4
      have kp : Kp (fun a => S a ∨ S5 a) H4 (upd H4 Da (.dK (kvs ++ [(Sum.inl key, z)]))) := by
        have nt : ∀ a (o : HO), H4 a = some o → (∀ q, o ≠ .dK q) → a ≠ Da := fun a o q n z => by subst z; rw [e4] at q; cases q; exact n _ rfl
        refine ⟨fun a o' s q => ?_, fun a xs q => ?_, fun a o' u' q => ?_⟩
        · rw [upd_ne (fun z => by subst z; exact s.elim nSD nS5)]; exact q
        · rw [upd_ne (nt a _ q fun _ => by simp)]; exact q
        · rw [upd_ne (nt a _ q fun _ => by simp)]; exact q
      have hlen : kvs.length < sizeLine := by
        have h1 := congrArg List.length ek
        simp only [List.length_map] at h1
        exact Nat.lt_of_lt_of_le (by omega) lim_size
      refine ⟨kvs, Sum.inl key, by rw [(p3.as hm).ofI]; rfl, e4, hlen, by omega, ?_⟩
      rw [putK_new _ hv]
      refine ⟨fun a o ea => ?_, kvs ++ [(Sum.inl key, z)], ks0 ++ [key], xs0 ++ [mb.toD], fun a => S a ∨ S5 a, upd_same, by simp [ek], by rw [List.length_append]; simp; omega, ?_, fun a z => ?_, fun a z => ?_, fun z => z.elim nSD nS5, er⟩
      · rw [upd_ne (fun z => by subst z; rw [nD] at ea; cases ea)]
        exact s14 _ _ ea
      · rw [List.map_append]
        refine RDs.append ?_ (.cons ?_ .nil)
        · exact (rs.same (s3.trans s4)).mono (fun _ z => .inl z) (kp.imp fun _ z => .inl z)
        · exact r5.mono (fun _ z => .inr z) (kp.imp fun _ z => .inr z)
      · rcases z with z | z
        · exact hS a z
        · rcases g5.sub a z with z | ⟨j, hj, _⟩ | z
          · exact .inl z
          · simp at hj
          · exact .inr (s2.free (s3.free z))
      · by_cases ha : a = Da
        · rw [ha, upd_same]; simp
        · rw [upd_ne ha]
          rcases z with z | z
          · exact fun q => hL a z (s3.free (s4.free q))
          · exact g5.live a z
    · cases er
  · have ei : i = ds.length := by omega
    subst ei
    refine .inl ⟨wk2.stop, hq _ H2 (s1.trans s2) ?_⟩
    rw [List.drop_length, dctGo] at er
    cases er
    refine ⟨fun a => S a ∨ a = Da, [], ⟨fun a z => ?_, fun a z => ?_⟩, .frz (.dct (.inr rfl) eD ek (rs.sub fun _ z => .inl z)), .nil, fun a h => by simp at h⟩
    · rcases z with z | rfl
      · rcases hS a z with z | z
        · exact sub1 a z
        · exact .inr (.inr (s1.free z))
      · exact .inr (.inr (s1.free nD))
    · rcases z with z | rfl
      · exact hL a z
      · rw [eD]; simp

theorem frz_slot (ok : Ok X.K C c σ H) {i : Nat} {ks : List Int} {xs : List D} (hg : c.g[i]? = some (some (.frz (.dct ks xs)))) : ∃ (a : Addr) (kvs : List (Key × V)), σ[i]? = some (some (.ref a)) ∧ H a = some (.dK kvs) ∧ kvs.map (·.1) = ks.map Sum.inl ∧ c.S a ∧ RDs X.K C H c.S (kvs.map (·.2)) xs := by
  obtain ⟨v, ev, r⟩ := ok.slot i _ hg
  obtain ⟨_, r⟩ := r.frz'
  cases r with | dct s e k r => exact ⟨_, _, ev, e, k, s, r⟩
theorem dinR_ok {d : D} {o : Option (Option M)} {m : M} {T : Tn} (h : dinR d o = .ok (m, T)) : ∃ k ks xs, d = .int k ∧ o = some (some (.frz (.dct ks xs))) ∧ m = .frz (.bl (dctAt ks xs k).isSome) ∧ T = [] := by
  unfold dinR at h
  split at h
  · cases h; exact ⟨_, _, _, rfl, rfl, rfl, rfl⟩
  · cases h
theorem din_core (ok : Ok X.K C c σ H) {i : Nat} {r : Res (M × Tn)} {Q : VK} (hr : REv X.K C r c H Q) (ha : ∀ Q', REv X.K C (ev Φ G a c.g) c H Q' → tEv X.K C Φ G a σ H Q') (e : r = (ev Φ G a c.g).bind fun x => dinR x.1.toD c.g[i]?) : tDIn (tEv X.K C Φ G a) (tVar i) σ H Q := by
  subst e
  obtain ⟨⟨m, T⟩, ea, q1⟩ := hr.bind
  refine ha _ ?_
  rw [ea]
  intro v H1 s1 p1
  cases hd : dinR m.toD c.g[i]? with
  | no => rw [hd] at q1; exact q1.elim
  | ex _ => rw [hd] at q1; exact q1.elim
  | ok z =>
    obtain ⟨mz, Tz⟩ := z
    rw [hd] at q1
    obtain ⟨k, ks, xs, e1, e2, rfl, rfl⟩ := dinR_ok hd
    obtain ⟨a', kvs, es, eD, ek, _, rs⟩ := frz_slot ok e2
    have hv := dct_val k ek (rs.same s1)
    refine ⟨_, es, a', valV kvs (Sum.inl k), rfl, ?_, ?_⟩
    · rw [(p1.as e1).ofI]; exact DGet.k (k := Sum.inl k) (s1 _ _ eD)
    · have : (valV kvs (Sum.inl k)).isSome = (dctAt ks xs k).isSome := by
        cases h : dctAt ks xs k with
        | none => rw [hv.2 h]; rfl
        | some d => obtain ⟨v, e, _⟩ := hv.1 d h; rw [e]; rfl
      rw [this]
      exact q1 _ H1 s1 (epost_bl _)
theorem snd_din (cx : Ctx X CX C k Φ G bl N sc) {i : Nat} {p2 : Pos} (hn : nmOk N sc n i = true) (ha : PE X x1 (tEv X.K C Φ G a)) : PE X (.Compare x1 [.In] [.Name n p2] pos) (tEv X.K C Φ G (.din a i)) := by
  obtain ⟨h1, h2, h3, h4⟩ := cx.vis hn
  refine pe_imp (pe_cmp (pc_din (by have := cx.room.units; omega) ha (pe_var h1 h2 h3 h4)) rfl) fun σ H Q ⟨c, ok, q⟩ => ?_
  rw [ev] at q
  exact din_core ok q (fun Q' h => ⟨c, ok, h⟩) rfl
theorem snd_dinT (cx : Ctx X CX C k Φ G bl N sc) {i : Nat} {p2 : Pos} (hn : nmOk N sc n i = true) (ha : PE X x1 (tEv X.K C Φ G a)) : PT X (.Compare x1 [.In] [.Name n p2] pos) (tTv X.K C Φ G (.din a i)) := by
  obtain ⟨h1, h2, h3, h4⟩ := cx.vis hn
  refine pt_imp (pt_cmp (pc_din (by have := cx.room.units; omega) ha (pe_var h1 h2 h3 h4)) rfl) fun σ H Q ⟨c, ok, q⟩ => ?_
  have etv : tv Φ G (.din a i) c.g (ev Φ G (.din a i) c.g) = (ev Φ G (.din a i) c.g).bind fun x => Res.of x.1.toD.truth := by rw [tv] <;> simp
  rw [etv, ev] at q
  obtain ⟨⟨m, T⟩, e1, q1⟩ := q.bind
  refine din_core (r := .ok (m, T)) ok ?_ (fun Q' h => ⟨c, ok, h⟩) e1.symm
  obtain ⟨z, _, e1⟩ := Res.bind_eq_ok e1
  obtain ⟨k, ks, xs, _, _, rfl, rfl⟩ := dinR_ok e1
  intro v H1 s1 p1
  exact ⟨_, by rw [(p1.as rfl).ofB], q1 H1 s1⟩
theorem snd_dat (cx : Ctx X CX C k Φ G bl N sc) {i : Nat} {p' : Pos} (hn : nmOk N sc n i = true) (hp : plainB x2 = true) (ha : PE X x2 (tEv X.K C Φ G a)) : PE X (.Subscript (.Name n p') x2 pos) (tEv X.K C Φ G (.dat i a)) := by
  obtain ⟨h1, h2, h3, h4⟩ := cx.vis hn
  refine pe_imp (pe_dget (by have := cx.room.units; omega) (pe_var h1 h2 h3 h4) ha (by intro o i; cases x2 <;> first | rfl | (simp [plainB] at hp))) fun σ H Q ⟨c, ok, q⟩ => ?_
  rw [ev] at q
  obtain ⟨⟨m, T⟩, ea, q1⟩ := q.bind
  unfold datR at q1
  split at q1
  · rename_i kk ks xs e1 e2
    obtain ⟨z, ez, q2⟩ := q1.bind
    obtain ⟨a', kvs, es, eD, ek, sa, rs⟩ := frz_slot ok e2
    refine ⟨_, es, c, ok, ?_⟩
    rw [ea]
    intro v H1 s1 p1
    obtain ⟨v', ev', rv⟩ := (dct_val kk ek (rs.same s1)).1 z (Res.of_ok ez)
    refine ⟨a', v', rfl, ?_, ?_⟩
    · rw [(p1.as e1).ofI, ← ev']; exact DGet.k (k := Sum.inl kk) (s1 _ _ eD)
    · exact q2 _ H1 s1 (.of_rd (.self ok s1) rv)
  · exact q1.elim
end
end Ev

set_option maxRecDepth 100000
set_option maxHeartbeats 4000000
/-! Statements: their meaning, and each form over the heap. -/
namespace Ev
open PySem PySem.Spec PyProof.Rows L2

inductive Out where
  | nx (g : Gm)
  | rt (m : M)
  | bk (g : Gm)
  | ct (g : Gm)
def storeT : Tg → M → Gm → Option Gm
  | .nm i, m, g => some (g.set i (some m))
  | .tp is, m, g => match m.toD with
    | .tup ds => setTs g is ds
    | .lst ds => setTs g is ds
    | _ => none
def forGo (t : Tg) (f : Gm → Res Out) : List D → Gm → Res Out
  | [], g => .ok (.nx g)
  | d :: ds, g => (Res.of (bindT t d g)).bind fun g1 => (f g1).bind fun o => match o with
    | .nx g2 => forGo t f ds g2
    | .ct g2 => forGo t f ds g2
    | .bk g2 => .ok (.nx g2)
    | .rt m => .ok (.rt m)
def whGo (c : Gm → Res Bool) (f : Gm → Res Out) : Nat → Gm → Res Out
  | 0, _ => .no
  | n + 1, g => (c g).bind fun v => if v then (f g).bind fun o => match o with
    | .nx g2 => whGo c f n g2
    | .ct g2 => whGo c f n g2
    | .bk g2 => .ok (.nx g2)
    | .rt m => .ok (.rt m)
    else .ok (.nx g)
/-- x[z].pop(u), x a name's own list of own lists -/
def popR (i : Nat) (g : Gm) (o : Option (Option M)) (y w : D) : Res Out := match o, y, w with
  | some (some (.lst ms)), .int z, .int u => (Res.of (ixN ms.length z)).bind fun q => match ms[q]? with
    | some (.fl ds) => if ds.length ≤ lim then (Res.of (ixN ds.length u)).bind fun r => .ok (.nx (g.set i (some (.lst (ms.set q (.fl (ds.eraseIdx r))))))) else .no
    | _ => .no
  | _, _, _ => .no
/-- names take over the parts of a tuple -/
def setMs : Gm → List Nat → List M → Option Gm
  | g, [], [] => some g
  | g, i :: is, m :: ms => setMs (g.set i (some m)) is ms
  | _, _, _ => none
def setOR (is : List Nat) (g : Gm) (m : M) : Res Out := match m with
  | .tup ms => (Res.of (setMs g is ms)).bind fun g' => .ok (.nx g')
  | _ => .no
/-- x[z][u] = d, x a name's own list of own lists -/
def set2R (i : Nat) (g : Gm) (o : Option (Option M)) (y w d : D) : Res Out := match o, y, w with
  | some (some (.lst ms)), .int z, .int u => (Res.of (ixN ms.length z)).bind fun q => match ms[q]? with
    | some (.fl ds) => (Res.of (ixN ds.length u)).bind fun r => .ok (.nx (g.set i (some (.lst (ms.set q (.fl (ds.set r d)))))))
    | _ => .no
  | _, _, _ => .no
/-- x.append(m), x a name's own list of own lists -/
def appOR (i : Nat) (g : Gm) (o : Option (Option M)) (m : M) : Res Out := match o with
  | some (some (.lst ms)) => if ms.length < lim then .ok (.nx (g.set i (some (.lst (ms ++ [m]))))) else .no
  | _ => .no
/-- the list that y = x[z] names -/
def aliR (o : Option (Option M)) (y : D) : Res (List M × Nat × List D) := match o, y with
  | some (some (.lst ms)), .int z => (Res.of (ixN ms.length z)).bind fun q => match ms[q]? with
    | some (.fl ds) => .ok (ms, q, ds)
    | _ => .no
  | _, _ => .no
/-- x[z].append(m), x a tuple of a name's own -/
def appTR (i : Nat) (g : Gm) (o : Option (Option M)) (y : D) (m : M) : Res Out := match o, y with
  | some (some (.tup ms)), .int z => (Res.of (ixN ms.length z)).bind fun q => match ms[q]? with
    | some (.fl ds) => if m.toD.flat ∧ ds.length < lim then .ok (.nx (g.set i (some (.tup (ms.set q (.fl (ds ++ [m.toD]))))))) else .no
    | _ => .no
  | _, _ => .no
/-- a part of a tuple handed back: a name's own moves along -/
def evM1 (Φ : String → List D → Res M) (G : String → Option D) (e : E) (g : Gm) : Res (M × Tn) := match e with
  | .slot i => (match g[i]? with
    | some (some m) => .ok (m, [i])
    | _ => .no)
  | e => (ev Φ G e g).bind fun x => match nrm x with
    | [] => .ok (x.1, [])
    | _ => .no
def evM (Φ : String → List D → Res M) (G : String → Option D) : Es → Gm → Res (List M × Tn)
  | .nil, _ => .ok ([], [])
  | .cons e es, g => (evM1 Φ G e g).bind fun x => (evM Φ G es g).bind fun y => if x.2.any (fun i => decide (i ∈ y.2)) then .no else .ok (x.1 :: y.1, x.2 ++ y.2)
/-- the block of a try: does it raise? -/
def evX (Φ : String → List D → Res M) (G : String → Option D) : XB → Gm → Res Unit
  | .call fx es, g => (evs Φ G es g).bind fun r => (Φ fx r.1).bind fun m => match m with
    | .frz (.bl true) => .ok ()
    | _ => .no
  | .ite c a b, g => (tv Φ G c g (ev Φ G c g)).bind fun v => if v then evX Φ G a g else evX Φ G b g
/-- what a name holds while its tree is written: a tree of its own, or a list of which only the length is known -/
inductive Jv where
  | own (m : M)
  | spine (l : Nat)
def Jv.len : Jv → Option Nat
  | .own (.fl ds) => some ds.length
  | .own (.lst ms) => some ms.length
  | .spine l => some l
  | _ => none
abbrev Je := List (Nat × Jv)
def jLook (n : Nat) : Je → Option Jv
  | [] => none
  | (k, v) :: r => if k = n then some v else jLook n r
def jDrop (n : Nat) : Je → Je
  | [] => []
  | (k, v) :: r => if k = n then r else (k, v) :: jDrop n r
def jFor (f : Je → Res Je) (is : List Nat) : List M → Res Unit
  | [] => .ok ()
  | .tup ms :: r => if ms.length = is.length then (f (is.zip (ms.map .own))).bind fun _ => jFor f is r else .no
  | _ :: _ => .no
mutual
def J.nms : J → List Nat
  | .app _ _ => []
  | .for _ is b => is ++ b.nms
def Js.nms : Js → List Nat
  | .nil => []
  | .cons j r => j.nms ++ r.nms
end
mutual
def jRun (Φ : String → List D → Res M) (G : String → Option D) (g : Gm) : J → Je → Res Je
  | .app n e, env => (ev Φ G e g).bind fun r => match nrm r, (jLook n env).bind Jv.len with
    | [], some l => if l < lim then .ok ((n, .spine (l + 1)) :: jDrop n env) else .no
    | _, _ => .no
  | .for n is b, env => match jLook n env with
    | some (.own (.lst ms)) => if is.Nodup ∧ ∀ i ∈ is ++ b.nms, i ∉ env.map (·.1) ∧ i < g.length then (jFor (jRuns Φ G g b) is ms).bind fun _ => .ok ((n, .spine ms.length) :: jDrop n env) else .no
    | _ => .no
def jRuns (Φ : String → List D → Res M) (G : String → Option D) (g : Gm) : Js → Je → Res Je
  | .nil, env => .ok env
  | .cons j r, env => (jRun Φ G g j env).bind fun e => jRuns Φ G g r e
end
def clrG : List Nat → Gm → Gm
  | [], g => g
  | i :: is, g => clrG is (g.set i none)
/-- x.append((..)), the tuple's parts moved into x -/
def appMR (i : Nat) (T : Tn) (g' : Gm) (o : Option (Option M)) (ms : List M) : Res Out := match o with
  | some (some (.lst l)) => if i ∉ T ∧ l.length < lim then .ok (.nx (g'.set i (some (.lst (l ++ [.tup ms]))))) else .no
  | some (some (.fl [])) => if i ∉ T then .ok (.nx (g'.set i (some (.lst [.tup ms])))) else .no
  | _ => .no
section
variable (Φ : String → List D → Res M) (G : String → Option D) (W : Nat)
mutual
def evS : S → Gm → Res Out
  | .set t e, g => (ev Φ G e g).bind fun r => (Res.of (storeT t r.1 (frzG (nrm r) g))).bind fun g' => .ok (.nx g')
  | .par i j a b, g => (ev Φ G a g).bind fun x => (ev Φ G b g).bind fun y => .ok (.nx (((frzG (nrm (.frz x.1.toD, x.2) ++ nrm (.frz y.1.toD, y.2)) g).set i (some (.frz x.1.toD))).set j (some (.frz y.1.toD))))
  | .app i e, g => (ev Φ G e g).bind fun r => match (frzG (nrm r) g)[i]? with
    | some (some (.fl ds)) => if ds.length < lim then .ok (.nx ((frzG (nrm r) g).set i (some (.fl (ds ++ [r.1.toD]))))) else .no
    | _ => .no
  | .seti i k e, g => (ev Φ G e g).bind fun r => (ev Φ G k (frzG (nrm r) g)).bind fun y => match (frzG (nrm r) g)[i]?, y.1.toD with
    | some (some (.fl ds)), .int z => (Res.of (ixN ds.length z)).bind fun j => .ok (.nx ((frzG (nrm r) g).set i (some (.fl (ds.set j r.1.toD)))))
    | _, _ => .no
  | .dset i t it kx vx, g => (its Φ G it g).bind fun x => (dctGo t (fun g => ev Φ G kx g) (fun g => ev Φ G vx g) x.1 (frzG x.2 g) [] []).bind fun r => .ok (.nx ((frzG x.2 g).set i (some (.frz (.dct r.1 r.2)))))
  | .ext _ _, _ => .no
  | .popL i, g => match g[i]? with
    | some (some (.fl ds)) => if ds = [] then .no else .ok (.nx (g.set i (some (.fl ds.dropLast))))
    | _ => .no
  | .popA _ _, _ => .no
  | .popB i j k, g => (ev Φ G j g).bind fun y => (ev Φ G k g).bind fun w => popR i g g[i]? y.1.toD w.1.toD
  | .setO is e, g => (ev Φ G e g).bind fun r => setOR is (frzG (nrm r) g) r.1
  | .set2 i k n e, g => (ev Φ G e g).bind fun r => (ev Φ G k (frzG (nrm r) g)).bind fun y => (ev Φ G n (frzG (nrm r) g)).bind fun w => set2R i (frzG (nrm r) g) (frzG (nrm r) g)[i]? y.1.toD w.1.toD r.1.toD
  | .appO i e, g => (ev Φ G e g).bind fun r => appOR i (frzG (nrm r) g) (frzG (nrm r) g)[i]? r.1
  | .retT es, g => (evM Φ G es g).bind fun r => .ok (.rt (.tup r.1))
  | .appT i k e, g => (ev Φ G k g).bind fun y => (ev Φ G e g).bind fun r => appTR i g g[i]? y.1.toD r.1
  | .expr e, g => (ev Φ G e g).bind fun _ => .ok (.nx g)
  | .ret (.slot i), g => match g[i]? with
    | some (some m) => .ok (.rt m)
    | _ => .no
  | .ret e, g => (ev Φ G e g).bind fun r => .ok (.rt r.1)
  | .retN, _ => .ok (.rt (.frz .non))
  | .ite c a b, g => (tv Φ G c g (ev Φ G c g)).bind fun v => if v then evSs a g else evSs b g
  | .for t it b, g => (itf Φ G it g).bind fun x => forGo t (fun g => evSs b g) x.1 (frzG x.2 g)
  | .while c b, g => whGo (fun g => tv Φ G c g (ev Φ G c g)) (fun g => evSs b g) W g
  | .brk, g => .ok (.bk g)
  | .cont, g => .ok (.ct g)
  | .pass, g => .ok (.nx g)
  | .raiseN, _ => .no
  | .tryX _ b, g => (evX Φ G b g).bind fun _ => .ok (.rt (.frz (.bl true)))
  | .appM i es, g => (evM Φ G es g).bind fun r => appMR i r.2 (clrG r.2 g) g[i]? r.1
  | .newO i f es ms, g => (evs Φ G es g).bind fun x => (evM Φ G ms g).bind fun y => if x.2 = [] ∧ x.1.length = knp f ∧ cnMs y.1 = true then (Φ f (x.1 ++ M.toDs y.1)).bind fun m => .ok (.nx (g.set i (some (.frz m.toD)))) else .no
def evSs : Ss → Gm → Res Out
  | .nil, g => .ok (.nx g)
  | .wrk n js r, g => match g[n]? with
    | some (some m) => (jRuns Φ G (clrG (n :: js.nms) g) js [(n, .own m)]).bind fun _ => evSs r (clrG (n :: js.nms) g)
    | _ => .no
  | .cons s r, g => (evS s g).bind fun o => match o with
    | .nx g2 => evSs r g2
    | o => .ok o
  | .ali i j k c e r, g => if g.length ≤ j ∨ i = j then .no else (ev Φ G k g).bind fun y => (aliR g[i]? y.1.toD).bind fun x => (tv Φ G c (g.set j none) (ev Φ G c (g.set j none))).bind fun v =>
      if v then (ev Φ G e (g.set j none)).bind fun d => if d.1.toD.flat ∧ x.2.2.length < lim then evSs r ((g.set j none).set i (some (.lst (x.1.set x.2.1 (.fl (x.2.2 ++ [d.1.toD])))))) else .no
      else if x.2.2 = [] then .no else evSs r ((g.set j none).set i (some (.lst (x.1.set x.2.1 (.fl x.2.2.dropLast)))))
end
/-- a def: np parameters, n names -/
def evD (np n : Nat) (body : Ss) (ds : List D) : Res M := if ds.length = np then
    (evSs Φ G W body (ds.map (fun d => some (.frz d)) ++ List.replicate (n - np) none)).bind fun o => match o with
      | .rt m => .ok m
      | .nx _ => .ok (.frz .non)
      | _ => .no
  else .no
end

section
variable {K : PySem.W.Frag} {C : Kls} {c : Cf} {σ : L2.St} {H H1 H' H0 : Hp} {S Se : Addr → Prop} {T : Tn}
/-- the def's entry (H0, what it may hand on), and what is frozen around a loop's turns -/
structure Bs where
  H0 : Hp
  Se : Addr → Prop
  SB : Addr → Prop
  HB : Hp
/-- what holds all along a def's run -/
structure Fk (b : Bs) (c : Cf) (H : Hp) : Prop where
  same : Same b.H0 H
  sub : ∀ a, c.S a → b.Se a ∨ b.H0 a = none
  own : ∀ i a, a ∈ c.fp i → b.H0 a = none
  base : ∀ a, b.SB a → c.S a
  kp : Kp b.SB b.HB H
variable {b : Bs}
theorem Fk.st (k : Fk b c H) (s : Same H H') : Fk b c H' := ⟨k.same.trans s, k.sub, k.own, k.base, k.kp.trans (Kp.of_same s)⟩
theorem Fk.fz (k : Fk b c H) (s : Same H H') (g : Gw c T H H' S) : Fk b (c.fz T S) H' := by
  refine ⟨k.same.trans s, fun a z => ?_, fun i a z => ?_, fun a z => .inl (k.base a z), k.kp.trans (Kp.of_same s)⟩
  · rcases z with z | ⟨i, _, z⟩ | z
    · exact k.sub a z
    · exact .inr (k.own i a z)
    · rcases g.sub a z with z | ⟨i, _, z⟩ | z
      · exact k.sub a z
      · exact .inr (k.own i a z)
      · exact .inr (k.same.free z)
  · have z' : a ∈ (if i ∈ T then [] else c.fp i) := z
    split at z'
    · simp at z'
    · exact k.own i a z'
theorem Fk.bd {ix : List Nat} {g : Gm} (k : Fk b c H) : Fk b (c.bd ix g) H := ⟨k.same, k.sub, fun i a z => by
  have z' : a ∈ (if i ∈ ix then [] else c.fp i) := z
  split at z'
  · simp at z'
  · exact k.own i a z', k.base, k.kp⟩
/-- what is handed back -/
def RetP (K : PySem.W.Frag) (C : Kls) (H0 : Hp) (Se : Addr → Prop) (H' : Hp) (v : V) (m : M) : Prop :=
  ∃ S A, Same H0 H' ∧ RM K C H' S v m A ∧ A.Nodup ∧ (∀ a ∈ A, H0 a = none ∧ ¬ S a) ∧ (∀ a, S a → Se a ∨ H0 a = none) ∧ ∀ a, S a → H' a ≠ none
theorem EPost.ret {v : V} {m : M} (k : Fk b c H) (s : Same H H') (p : EPost K C c H H' v m T) : RetP K C b.H0 b.Se H' v m := by
  obtain ⟨S, A, g, r, nd, hA⟩ := p
  refine ⟨S, A, k.same.trans s, r, nd, fun a z => ⟨k.same.free (hA a z).1, (hA a z).2⟩, fun a z => ?_, g.live⟩
  rcases g.sub a z with z | ⟨i, _, z⟩ | z
  · exact k.sub a z
  · exact .inr (k.own i a z)
  · exact .inr (k.same.free z)
def ROut (K : PySem.W.Frag) (C : Kls) (b : Bs) (r : Res Out) (E : Ends) : Prop := match r with
  | .ok (.nx g) => ∀ c σ H, c.g = g → Ok K C c σ H → Fk b c H → E.nx σ H
  | .ok (.bk g) => ∀ c σ H, c.g = g → Ok K C c σ H → Fk b c H → E.bk σ H
  | .ok (.ct g) => ∀ c σ H, c.g = g → Ok K C c σ H → Fk b c H → E.ct σ H
  | .ok (.rt m) => ∀ v H, RetP K C b.H0 b.Se H v m → E.rt v H
  | _ => False
/-- a name's tree is replaced -/
def Cf.st (c : Cf) (i : Nat) (A : List Addr) (m : M) : Cf := ⟨c.S, fun j => if j = i then A else c.fp j, c.g.set i (some m)⟩
theorem Ok.st (k : Ok K C c σ H) {i : Nat} {v : V} {m : M} {A : List Addr} (r : RM K C H c.S v m A) (nd : A.Nodup) (hA : ∀ a ∈ A, ¬ c.S a ∧ ∀ j, j ≠ i → a ∉ c.fp j) : Ok K C (c.st i A m) (σ.set i (some v)) H := by
  refine ⟨by simp [Cf.st, k.len], fun j m' e => ?_, k.live, fun j a h => ?_, fun j => ?_, fun j l a h1 h2 => ?_⟩
  · have e' : (c.g.set i (some m))[j]? = some (some m') := e
    by_cases hj : j = i
    · subst hj
      have hlt : j < c.g.length := by
        have := (List.getElem?_eq_some_iff.mp e').1
        simpa using this
      rw [List.getElem?_set_self hlt] at e'
      cases e'
      refine ⟨v, List.getElem?_set_self (by rw [← k.len]; exact hlt), ?_⟩
      show RM K C H c.S v m (if j = j then A else c.fp j)
      rw [if_pos rfl]; exact r
    · rw [List.getElem?_set_ne (Ne.symm hj)] at e'
      obtain ⟨w, e1, r1⟩ := k.slot j m' e'
      refine ⟨w, by rw [List.getElem?_set_ne (Ne.symm hj)]; exact e1, ?_⟩
      show RM K C H c.S w m' (if j = i then A else c.fp j)
      rw [if_neg hj]; exact r1
  · have h' : a ∈ (if j = i then A else c.fp j) := h
    split at h'
    · exact ⟨r.live a h', (hA a h').1⟩
    · exact k.own j a h'
  · show (if j = i then A else c.fp j).Nodup
    split
    · exact nd
    · exact k.nd j
  · have h1' : a ∈ (if j = i then A else c.fp j) := h1
    have h2' : a ∈ (if l = i then A else c.fp l) := h2
    split at h1' <;> split at h2'
    · rename_i e1 e2; rw [e1, e2]
    · rename_i e1 e2; exact absurd h2' ((hA a h1').2 l e2)
    · rename_i e1 e2; exact absurd h1' ((hA a h2').2 j e1)
    · exact k.dj j l a h1' h2'
theorem Fk.stt {i : Nat} {m : M} {A : List Addr} (k : Fk b c H) (h : ∀ a ∈ A, b.H0 a = none) : Fk b (c.st i A m) H := ⟨k.same, k.sub, fun j a z => by
  have z' : a ∈ (if j = i then A else c.fp j) := z
  split at z'
  · exact h a z'
  · exact k.own j a z', k.base, k.kp⟩
/-- a list that only slot i holds is written -/
theorem Ok.wr (k : Ok K C c σ H) {i : Nat} {p : Addr} {vs ws : List V} {es : List D} (hf : c.fp i = [p]) (hs : σ[i]? = some (some (.ref p))) (e : H p = some (.lst vs)) (r : RDs K C H c.S ws es) :
    Ok K C (c.st i [p] (.fl es)) σ (upd H p (.lst ws)) := by
  have hp : p ∈ c.fp i := by rw [hf]; simp
  have nS := (k.own i p hp).2
  have kp : ∀ {S' : Addr → Prop}, ¬ S' p → Kp S' H (upd H p (.lst ws)) := fun h => Kp.upd e rfl h
  have up : ∀ a, H a ≠ none → upd H p (.lst ws) a ≠ none := fun a h => by
    by_cases ha : a = p
    · rw [ha, upd_same]; simp
    · rw [upd_ne ha]; exact h
  refine ⟨by simp [Cf.st, k.len], fun j m' e' => ?_, fun a h => up a (k.live a h), fun j a h => ?_, fun j => ?_, fun j l a h1 h2 => ?_⟩
  · have e2 : (c.g.set i (some (.fl es)))[j]? = some (some m') := e'
    by_cases hj : j = i
    · subst hj
      have hlt : j < c.g.length := by
        have := (List.getElem?_eq_some_iff.mp e2).1
        simpa using this
      rw [List.getElem?_set_self hlt] at e2
      cases e2
      refine ⟨_, hs, ?_⟩
      show RM K C _ c.S _ _ (if j = j then [p] else c.fp j)
      rw [if_pos rfl]
      exact .fl upd_same (r.mono (fun _ z => z) (kp nS))
    · rw [List.getElem?_set_ne (Ne.symm hj)] at e2
      obtain ⟨w, e1, r1⟩ := k.slot j m' e2
      refine ⟨w, e1, ?_⟩
      show RM K C _ c.S w m' (if j = i then [p] else c.fp j)
      rw [if_neg hj]
      have np : p ∉ c.fp j := fun z => hj (k.dj j i p z hp)
      exact r1.mono (S' := fun a => c.S a ∨ a ∈ c.fp j) (fun _ z => z) (kp fun z => z.elim nS np) (fun _ z => .inl z) fun _ z => .inr z
  · have h' : a ∈ (if j = i then [p] else c.fp j) := h
    split at h'
    · obtain rfl : a = p := by simpa using h'
      exact ⟨⟨_, upd_same, rfl⟩, nS⟩
    · rename_i hj
      obtain ⟨⟨o, e1, io⟩, n⟩ := k.own j a h'
      have np : a ≠ p := fun z => hj (k.dj j i a h' (z ▸ hp))
      exact ⟨⟨o, by rw [upd_ne np]; exact e1, io⟩, n⟩
  · show (if j = i then [p] else c.fp j).Nodup
    split
    · simp
    · exact k.nd j
  · have cv : ∀ {j : Nat}, a ∈ (if j = i then [p] else c.fp j) → a ∈ c.fp j := fun {j} h => by
      split at h
      · rename_i hj; rw [hj, hf]; exact h
      · exact h
    exact k.dj j l a (cv h1) (cv h2)
theorem Fk.wr {i : Nat} {p : Addr} {vs : List V} {o : HO} {m : M} (k : Fk b c H) (ok : Ok K C c σ H) (hf : c.fp i = [p]) (e : H p = some (.lst vs)) : Fk b (c.st i [p] m) (upd H p o) := by
  have hm : p ∈ c.fp i := by rw [hf]; simp
  have hp : b.H0 p = none := k.own i p hm
  refine ⟨fun a x e0 => ?_, k.sub, (k.stt fun a z => ?_).own, k.base, k.kp.trans (Kp.upd e rfl fun z => (ok.own i p hm).2 (k.base p z))⟩
  · rw [upd_ne (fun z => by subst z; rw [hp] at e0; cases e0)]
    exact k.same a x e0
  · obtain rfl : a = p := by simpa using z
    exact hp
/-- an own object of a name's tree is written, the tree's objects stay the same -/
theorem Ok.wrT (k : Ok K C c σ H) {i : Nat} {p : Addr} {v : V} {m : M} {o u : HO} (hp : p ∈ c.fp i) (hs : σ[i]? = some (some v)) (e : H p = some o) (io : isObj o = true) (iu : isObj u = true) (r : RM K C (upd H p u) c.S v m (c.fp i)) :
    Ok K C (c.st i (c.fp i) m) σ (upd H p u) := by
  have nS := (k.own i p hp).2
  have kp : ∀ {S' : Addr → Prop}, ¬ S' p → Kp S' H (upd H p u) := fun h => Kp.upd e io h
  have up : ∀ a, H a ≠ none → upd H p u a ≠ none := fun a h => by
    by_cases ha : a = p
    · rw [ha, upd_same]; simp
    · rw [upd_ne ha]; exact h
  have cv : ∀ {j : Nat} {a : Addr}, a ∈ (if j = i then c.fp i else c.fp j) → a ∈ c.fp j := fun {j a} h => by
    split at h
    · rename_i hj; rw [hj]; exact h
    · exact h
  refine ⟨by simp [Cf.st, k.len], fun j m' e' => ?_, fun a h => up a (k.live a h), fun j a h => ?_, fun j => ?_, fun j l a h1 h2 => k.dj j l a (cv h1) (cv h2)⟩
  · have e2 : (c.g.set i (some m))[j]? = some (some m') := e'
    by_cases hj : j = i
    · subst hj
      have hlt : j < c.g.length := by
        have := (List.getElem?_eq_some_iff.mp e2).1
        simpa using this
      rw [List.getElem?_set_self hlt] at e2
      cases e2
      refine ⟨_, hs, ?_⟩
      show RM K C _ c.S _ _ (if j = j then c.fp j else c.fp j)
      rw [if_pos rfl]
      exact r
    · rw [List.getElem?_set_ne (Ne.symm hj)] at e2
      obtain ⟨w, e1, r1⟩ := k.slot j m' e2
      refine ⟨w, e1, ?_⟩
      show RM K C _ c.S w m' (if j = i then c.fp i else c.fp j)
      rw [if_neg hj]
      have np : p ∉ c.fp j := fun z => hj (k.dj j i p z hp)
      exact r1.mono (S' := fun a => c.S a ∨ a ∈ c.fp j) (fun _ z => z) (kp fun z => z.elim nS np) (fun _ z => .inl z) fun _ z => .inr z
  · have h' := cv h
    obtain ⟨⟨o', e1, io'⟩, n⟩ := k.own j a h'
    refine ⟨?_, n⟩
    by_cases ha : a = p
    · subst ha; exact ⟨_, upd_same, iu⟩
    · exact ⟨o', by rw [upd_ne ha]; exact e1, io'⟩
  · show (if j = i then c.fp i else c.fp j).Nodup
    split
    · exact k.nd i
    · exact k.nd j
theorem Fk.wrT {i : Nat} {p : Addr} {o u : HO} {m : M} (k : Fk b c H) (ok : Ok K C c σ H) (hp : p ∈ c.fp i) (e : H p = some o) (io : isObj o = true) : Fk b (c.st i (c.fp i) m) (upd H p u) := by
  have h0 : b.H0 p = none := k.own i p hp
  refine ⟨fun a x e0 => ?_, k.sub, (k.stt fun a z => k.own i a z).own, k.base, k.kp.trans (Kp.upd e io fun z => (ok.own i p hp).2 (k.base p z))⟩
  rw [upd_ne (fun z => by subst z; rw [h0] at e0; cases e0)]
  exact k.same a x e0
theorem RMs.upd {vs : List V} {ms : List M} {A : List Addr} {q : Nat} {ds : List D} (r : RMs K C H S vs ms A) (nd : A.Nodup) (nS : ∀ a ∈ A, ¬ S a) (e : ms[q]? = some (.fl ds)) :
    ∃ (b : Addr) (ws : List V), b ∈ A ∧ vs[q]? = some (.ref b) ∧ H b = some (.lst ws) ∧ RDs K C H S ws ds ∧ ∀ ws' ds', RDs K C H S ws' ds' → RMs K C (L2.upd H b (.lst ws')) S vs (ms.set q (.fl ds')) A := by
  induction q generalizing vs ms A with
  | zero =>
    cases r with
    | nil => simp at e
    | @cons v vs m ms A B r t =>
      simp at e
      subst e
      obtain ⟨a, ws, rfl, rfl, ea, rs⟩ := r.fl'
      have nB : a ∉ B := fun z => (List.nodup_append.mp nd).2.2 a (by simp) a z rfl
      refine ⟨a, ws, by simp, rfl, ea, rs, fun ws' ds' r' => ?_⟩
      have kp : Kp (fun x => S x ∨ x ∈ B) H (L2.upd H a (.lst ws')) := Kp.upd ea rfl fun z => z.elim (nS a (by simp)) nB
      exact .cons (.fl upd_same (r'.mono (fun _ z => z) (kp.imp fun _ z => .inl z))) (t.mono (fun _ z => z) kp (fun _ z => .inl z) fun _ z => .inr z)
  | succ q ih =>
    cases r with
    | nil => simp at e
    | @cons v vs m ms A B r t =>
      obtain ⟨n1, n2, n3⟩ := List.nodup_append.mp nd
      obtain ⟨b, ws, hb, e1, e2, rs, h⟩ := ih t n2 (fun a h => nS a (List.mem_append_right _ h)) (by simpa using e)
      have nA : b ∉ A := fun z => n3 b z b hb rfl
      refine ⟨b, ws, List.mem_append_right _ hb, by simpa using e1, e2, rs, fun ws' ds' r' => ?_⟩
      have kp : Kp (fun x => S x ∨ x ∈ A) H (L2.upd H b (.lst ws')) := Kp.upd e2 rfl fun z => z.elim (nS b (List.mem_append_right _ hb)) nA
      exact .cons (r.mono (fun _ z => z) kp (fun _ z => .inl z) fun _ z => .inr z) (h ws' ds' r')
end
end Ev

set_option maxRecDepth 100000
set_option maxHeartbeats 4000000
/-! Each form of statement. -/
namespace Ev
open PySem PySem.Spec PyProof.Rows L2
def tSv (K : PySem.W.Frag) (C : Kls) (Φ : String → List D → Res M) (G : String → Option D) (W : Nat) (s : S) : TS := fun E σ H => ∃ b c, Ok K C c σ H ∧ Fk b c H ∧ ROut K C b (evS Φ G W s c.g) E
def tBv (K : PySem.W.Frag) (C : Kls) (Φ : String → List D → Res M) (G : String → Option D) (W : Nat) (s : Ss) : TS := fun E σ H => ∃ b c, Ok K C c σ H ∧ Fk b c H ∧ ROut K C b (evSs Φ G W s c.g) E
section
variable {X : Cx} {CX : CXT} {C : Kls} {k W : Nat} {Φ : String → List D → Res M} {G : String → Option D} {bl : List String} {N : List Str} {sc : Scope}
variable {x x1 x2 tg : Expr} {xs : List Expr} {pos p : Pos} {a b e : E} {es : Es} {c : Cf} {σ : L2.St} {H H' H0 : Hp} {n : Str} {bs : Bs} {s : S} {ss tt : Ss} {st : Stmt} {sts : List Stmt}

theorem ROut.bind {α : Type} {r : Res α} {f : α → Res Out} {E : Ends} (h : ROut X.K C bs (r.bind f) E) : ∃ z, r = .ok z ∧ ROut X.K C bs (f z) E := by
  cases r with
  | no => exact h.elim
  | ex _ => exact h.elim
  | ok z => exact ⟨z, rfl, h⟩
theorem assign_ok {v : V} {m : M} {T : Tn} {i : Nat} (ok : Ok X.K C c σ H) (fk : Fk bs c H) (s : Same H H') (p : EPost X.K C c H H' v m T) : ∃ c', c'.g = (frzG T c.g).set i (some m) ∧ Ok X.K C c' (σ.set i (some v)) H' ∧ Fk bs c' H' := by
  obtain ⟨S, A, g, r, nd, hA⟩ := p
  have ok1 := ok.fz s g
  have fk1 := fk.fz s g
  refine ⟨(c.fz T S).st i A m, rfl, ok1.st (r.sub fun a z => .inr (.inr z)) nd fun a ha => ⟨fun z => ?_, fun j hj z => ?_⟩, fk1.stt fun a ha => fk.same.free (hA a ha).1⟩
  · rcases z with z | ⟨j, _, z⟩ | z
    · exact ok.live a z (hA a ha).1
    · obtain ⟨⟨o, e, _⟩, _⟩ := ok.own j a z
      rw [(hA a ha).1] at e; cases e
    · exact (hA a ha).2 z
  · have z' : a ∈ (if j ∈ T then [] else c.fp j) := z
    split at z'
    · simp at z'
    · obtain ⟨⟨o, e, _⟩, _⟩ := ok.own j a z'
      rw [(hA a ha).1] at e; cases e
theorem snd_set {i : Nat} (hs : PS X st (tAsg (tEv X.K C Φ G e) (gName i))) : PS X st (tSv X.K C Φ G W (.set (.nm i) e)) := by
  refine ps_imp hs fun E σ H ⟨bs, c, ok, fk, q⟩ => ?_
  rw [evS] at q
  obtain ⟨⟨m, T⟩, ea, q1⟩ := q.bind
  refine ⟨c, ok, ?_⟩
  rw [ea]
  intro v H1 s1 p1
  obtain ⟨c', eg, ok', fk'⟩ := assign_ok (i := i) ok fk s1 p1.nrm
  exact q1 c' _ H1 eg ok' fk'
theorem snd_setE (cx : Ctx X CX C k Φ G bl N sc) {i : Nat} {p' : Pos} (hn : stOk N sc n i = true) (hc : plainC x = true) (ha : PE X x (tEv X.K C Φ G e)) : PS X (.Assign [.Name n p'] x pos) (tSv X.K C Φ G W (.set (.nm i) e)) := by
  obtain ⟨h1, h2, h3⟩ := cx.st hn
  exact snd_set (ps_set cx.nd' h1 h2 ha (swaps_plain hc) h3)
theorem one_tg {t : Expr} {env : Env} (h : plainB t = true) : (assignEach [t] env).map (·.2) = [assign t env] := by
  cases t <;> first | rfl | (simp [plainB] at h)
theorem snd_setT (cx : Ctx X CX C k Φ G bl N sc) {is : List Nat} {ts : List Expr} {kk : Nat} {p' : Pos} (hn : chkT N sc (.tp is) (.Tuple ts kk p') = true) (hc : notTup x = true) (ha : PE X x (tEv X.K C Φ G e)) : PS X (.Assign [.Tuple ts kk p'] x pos) (tSv X.K C Φ G W (.set (.tp is) e)) := by
  refine ps_imp (ps_asg ha (snd_tg cx hn) sole_tup (stores_plain hc) (one_tg rfl)) fun E σ H ⟨bs, c, ok, fk, q⟩ => ?_
  rw [evS] at q
  obtain ⟨⟨m, T⟩, ea, q1⟩ := q.bind
  obtain ⟨g', eg, q2⟩ := q1.bind
  refine ⟨c, ok, ?_⟩
  rw [ea]
  intro v H1 s1 p1
  obtain ⟨S, g, r⟩ := p1.nrm.rd
  have eb : bindT (.tp is) m.toD (c.fz (nrm (m, T)) S).g = some g' := by
    have := Res.of_ok eg
    rw [storeT] at this
    rw [← this]
    show bindT (.tp is) m.toD (frzG (nrm (m, T)) c.g) = _
    cases m.toD <;> rfl
  refine tg_ok (ok.fz s1 g) (t := .tp is) eb (r.sub fun a z => .inr (.inr z)) rfl (fun _ _ => rfl) (Z := fun _ => True) trivial (fun _ _ _ _ _ => trivial) fun σ2 _ ok2 => ?_
  exact q2 _ σ2 H1 rfl ok2 (fk.fz s1 g).bd
theorem snd_app (cx : Ctx X CX C k Φ G bl N sc) {i : Nat} {ap p' : Pos} (hn : nmOk N sc n i = true) (hl : (ap.endLine == p.line) = true) (hp : plainB x = true) (ha : PE X x (tEv X.K C Φ G e)) :
    PS X (.Expr (.Call (.Attribute (.Name n p') "append" ap) [x] [] p) pos) (tSv X.K C Φ G W (.app i e)) := by
  obtain ⟨h1, h2, h3, h4⟩ := cx.vis hn
  have few : ((backTo p (starEach [x] X.env)).all (fun x => !x.1) && (backToKw p (keywordEach [] X.env)).all (fun x => x.1.isSome) && decide (([x] : List Expr).length + ([] : List Keyword).length + (if ([] : List Keyword).isEmpty then 0 else 1) < 30)) = true := by
    rw [star_plain hp]; rfl
  refine ps_imp (ps_expr (pe_bm PySem.F.plainAttrs_list PySem.F.slot_list_append PySem.F.type_list_append mt_append (pe_var (pos := p') h1 h2 h3 h4) (pa_cons ha pa_nil (star_plain hp)) (base_plain rfl) few hl (star_plain hp) rfl) (swaps_plain rfl)) fun E σ H ⟨bs, c, ok, fk, q⟩ => ?_
  rw [evS] at q
  obtain ⟨⟨m, T⟩, ea, q1⟩ := q.bind
  simp only at q1
  split at q1
  · rename_i ds hg
    split at q1
    · rename_i hlim
      -- the list is slot i's own
      rw [frzG_get] at hg
      have hni : i ∉ nrm (m, T) := fun z => by
        rw [if_pos z] at hg
        cases hq : c.g[i]? with
        | none => rw [hq] at hg; cases hg
        | some o => rw [hq] at hg; cases o <;> cases hg
      rw [if_neg hni] at hg
      obtain ⟨v0, e0, r0⟩ := ok.slot i _ hg
      obtain ⟨pl, vs, rfl, ef, el, rs⟩ := r0.fl'
      refine ⟨_, e0, .inl ⟨rfl, vs, SqL.of el⟩, c, ok, ?_⟩
      rw [ea]
      intro y H1 s1 p1
      obtain ⟨S, g, r⟩ := p1.nrm.rd
      have ok1 := ok.fz s1 g
      have fk1 := fk.fz s1 g
      have ef1 : (c.fz (nrm (m, T)) S).fp i = [pl] := by
        show (if i ∈ nrm (m, T) then [] else c.fp i) = _
        rw [if_neg hni, ef]
      have ok2 := ok1.wr ef1 e0 (s1 _ _ el) (es := ds ++ [m.toD]) (ws := vs ++ [y]) (((rs.same s1).sub fun a z => .inl z).append (.cons (r.sub fun a z => .inr (.inr z)) .nil))
      refine ⟨pl, vs, y, rfl, rfl, s1 _ _ el, ?_, ?_⟩
      · rw [rs.length]; exact lim_lt hlim
      · exact q1 _ σ _ rfl ok2 (fk1.wr ok1 ef1 (s1 _ _ el))
    · exact q1.elim
  · exact q1.elim
theorem snd_popL (cx : Ctx X CX C k Φ G bl N sc) {i : Nat} {ap p' : Pos} (hn : nmOk N sc n i = true) (hl : (ap.endLine == p.line) = true) :
    PS X (.Expr (.Call (.Attribute (.Name n p') "pop" ap) [] [] p) pos) (tSv X.K C Φ G W (.popL i)) := by
  obtain ⟨h1, h2, h3, h4⟩ := cx.vis hn
  refine ps_imp (ps_expr (pe_bm0 PySem.F.plainAttrs_list PySem.F.slot_list_pop PySem.F.type_list_pop mt_pop (pe_var h1 h2 h3 h4) (base_plain rfl) hl) (swaps_plain rfl)) fun E σ H ⟨bs, c, ok, fk, q⟩ => ?_
  rw [evS] at q
  split at q
  · rename_i ds hg
    split at q
    · exact q.elim
    · rename_i hne
      obtain ⟨v0, e0, r0⟩ := ok.slot i _ hg
      obtain ⟨pl, vs, rfl, ef, el, rs⟩ := r0.fl'
      have hlen := rs.length
      have hpos : 0 < ds.length := by cases ds with | nil => exact absurd rfl hne | cons _ _ => simp
      have dl : ∀ {vs : List V} {ds : List D}, RDs X.K C H c.S vs ds → RDs X.K C H c.S vs.dropLast ds.dropLast := fun {vs ds} r => by
        rw [List.dropLast_eq_take, List.dropLast_eq_take, r.length]; exact r.take _
      refine ⟨_, e0, .inl ⟨rfl, vs, SqL.of el⟩, pl, vs, vs[vs.length - 1]'(by omega), rfl, rfl, el, by simp, ?_⟩
      exact q _ σ _ rfl (ok.wr ef e0 el (dl rs)) (fk.wr ok ef el)
  · exact q.elim
theorem snd_popB (cx : Ctx X CX C k Φ G bl N sc) {i : Nat} {ap p' p2 : Pos} (hn : nmOk N sc n i = true) (hl : (ap.endLine == p.line) = true) (hp1 : plainB x1 = true) (hp : plainB x2 = true) (ha : PE X x1 (tEv X.K C Φ G a)) (hb : PE X x2 (tEv X.K C Φ G b)) :
    PS X (.Expr (.Call (.Attribute (.Subscript (.Name n p') x1 p2) "pop" ap) [x2] [] p) pos) (tSv X.K C Φ G W (.popB i a b)) := by
  obtain ⟨h1, h2, h3, h4⟩ := cx.vis hn
  have few : ((backTo p (starEach [x2] X.env)).all (fun x => !x.1) && (backToKw p (keywordEach [] X.env)).all (fun x => x.1.isSome) && decide (([x2] : List Expr).length + ([] : List Keyword).length + (if ([] : List Keyword).isEmpty then 0 else 1) < 30)) = true := by
    rw [star_plain hp]; rfl
  refine ps_imp (ps_expr (pe_bm PySem.F.plainAttrs_list PySem.F.slot_list_pop PySem.F.type_list_pop mt_popAt (pe_ix ix_list (pe_var (pos := p') h1 h2 h3 h4) ha (ix_plain hp1)) (pa_cons hb pa_nil (star_plain hp)) (base_plain rfl) few hl (star_plain hp) rfl) (swaps_plain rfl)) fun E σ H ⟨bs, c, ok, fk, q⟩ => ?_
  rw [evS] at q
  obtain ⟨⟨m, T⟩, ea, q1⟩ := q.bind
  obtain ⟨⟨m', T'⟩, eb, q2⟩ := q1.bind
  unfold popR at q2
  split at q2
  · rename_i ms z u hg hz hu
    obtain ⟨qi, eq, q3⟩ := q2.bind
    have eq := Res.of_ok eq
    split at q3
    · rename_i ds hds
      split at q3
      · rename_i hlim
        obtain ⟨r, er, q4⟩ := q3.bind
        have er := Res.of_ok er
        obtain ⟨v0, e0, r0⟩ := ok.slot i _ hg
        -- the tree of the name
        generalize hA : c.fp i = A0 at r0
        cases r0 with
        | @lst pl vs _ A el rs =>
        refine ⟨_, e0, c, ok, ?_⟩
        rw [ea]
        intro y H1 s1 p1
        have ok1 := ok.same s1
        have fk1 := fk.st s1
        have nd : (pl :: A).Nodup := hA ▸ ok.nd i
        have nS : ∀ a ∈ A, ¬ c.S a := fun a h => (ok.own i a (by rw [hA]; exact List.mem_cons_of_mem _ h)).2
        have el1 := s1 _ _ el
        have rs1 : RMs X.K C H1 c.S vs ms A := rs.mono (S' := fun _ => True) (fun _ s => s) (Kp.of_same s1) (fun _ _ => trivial) fun _ _ => trivial
        obtain ⟨bq, ws, hb, e1, e2, rws, upd_⟩ := rs1.upd (List.nodup_cons.mp nd).2 nS hds
        have hlen : vs.length = ms.length := rs.length
        refine ⟨pl, vs, z, .ref bq, rfl, (p1.as hz).ofI, SqL.of el1, ?_, ⟨.inl ⟨rfl, ws, SqL.of e2⟩, c, ok1, ?_⟩⟩
        · unfold L2.atI; rw [hlen, eq]; exact e1
        rw [eb]
        intro w H2 s2 p2
        have ok2 := ok1.same s2
        have fk2 := fk1.st s2
        have e22 := s2 _ _ e2
        have el2 := s2 _ _ el1
        have rs2 : RMs X.K C H2 c.S vs ms A := rs1.mono (S' := fun _ => True) (fun _ s => s) (Kp.of_same s2) (fun _ _ => trivial) fun _ _ => trivial
        obtain ⟨bq', ws', hb', e1', e2', rws', upd2⟩ := rs2.upd (List.nodup_cons.mp nd).2 nS hds
        rw [e1] at e1'
        cases e1'
        rw [e22] at e2'
        cases e2'
        have hl2 : ws.length = ds.length := rws'.length
        obtain ⟨x1', x2', x3', x4'⟩ := ixN_seq er
        have hlm : ds.length ≤ 1000000 := hlim
        have hbp : bq ≠ pl := fun z => (List.nodup_cons.mp nd).1 (z ▸ hb)
        have hbf : bq ∈ c.fp i := by rw [hA]; exact List.mem_cons_of_mem _ hb
        refine ⟨bq, ws, u, r, ws[r]'(by omega), rfl, by rw [(p2.as hu).ofI], e22, by omega, by omega, by rw [hl2]; exact x1', by simp, ?_⟩
        have new := upd2 (ws.eraseIdx r) (ds.eraseIdx r) (rws'.eraseIdx r)
        refine q4 _ σ _ rfl (ok2.wrT hbf e0 e22 rfl rfl ?_) (fk2.wrT ok2 hbf e22 rfl)
        rw [hA]
        exact .lst (by rw [upd_ne (Ne.symm hbp)]; exact el2) new
      · exact q3.elim
    · exact q3.elim
  · exact q2.elim
theorem snd_dset {i : Nat} {t : Tg} {it : Ev.It} {kx vx : E} (hs : PS X st (tAsg (tDcE X.K C Φ G it t kx vx) (gName i))) : PS X st (tSv X.K C Φ G W (.dset i t it kx vx)) := by
  refine ps_imp hs fun E σ H ⟨bs, c, ok, fk, q⟩ => ?_
  rw [evS] at q
  obtain ⟨⟨ds, T⟩, ei, q1⟩ := q.bind
  obtain ⟨⟨ks, xs⟩, eo, q2⟩ := q1.bind
  refine snd_dct_core ok ei eo fun v H' s p => ?_
  have hn : nrm (M.frz (D.dct ks xs), T) = T := by
    cases T with
    | nil => rfl
    | cons j T => show (if (M.frz (D.dct ks xs)).ff then [] else j :: T) = _; rw [if_neg (by simp [M.ff, D.flat])]
  obtain ⟨c', eg, ok', fk'⟩ := assign_ok (i := i) ok fk s p
  exact q2 c' _ H' eg ok' fk'
theorem stores_sub {e a b : Expr} {p : Pos} {env : Env} : swappedStores [.Subscript a b p] e env = pure none := by
  cases e <;> rfl
theorem snd_seti (cx : Ctx X CX C k Φ G bl N sc) {i : Nat} {p' p2 : Pos} (hn : nmOk N sc n i = true) (hp : plainB x1 = true) (hk : PE X x1 (tEv X.K C Φ G a)) (ha : PE X x2 (tEv X.K C Φ G e)) :
    PS X (.Assign [.Subscript (.Name n p') x1 p2] x2 pos) (tSv X.K C Φ G W (.seti i a e)) := by
  obtain ⟨h1, h2, h3, h4⟩ := cx.vis hn
  have hasg : ∀ v, assign (.Subscript (.Name n p') x1 p2) X.env v = (do
      let ov ← holding [v] (eval (.Name n p') X.env)
      let iv ← holding [v, ov] (eval x1 X.env)
      standAt p2
      holding [v, ov, iv] (setItem ov iv v)
      release [v, ov, iv] []) := by
    intro v
    cases x1 <;> first | rfl | (simp [plainB] at hp)
  refine ps_imp (ps_asg ha (pg_sub (pe_var h1 h2 h3 h4) hk set_list (pos := p2) hasg) sole_sub stores_sub (one_tg rfl)) fun E σ H ⟨bs, c, ok, fk, q⟩ => ?_
  rw [evS] at q
  obtain ⟨⟨m, T⟩, ea, q1⟩ := q.bind
  obtain ⟨⟨mk, Tk⟩, ek, q2⟩ := q1.bind
  simp only at q2
  split at q2
  · rename_i ds z hg hz
    obtain ⟨j, ej, q3⟩ := q2.bind
    refine ⟨c, ok, ?_⟩
    rw [ea]
    intro y H1 s1 p1
    obtain ⟨S, g, r⟩ := p1.nrm.rd
    have ok1 := ok.fz s1 g
    have fk1 := fk.fz s1 g
    have hg' := hg
    rw [frzG_get] at hg'
    have hni : i ∉ nrm (m, T) := fun z => by
      rw [if_pos z] at hg'
      cases hq : c.g[i]? with
      | none => rw [hq] at hg'; cases hg'
      | some o => rw [hq] at hg'; cases o <;> cases hg'
    obtain ⟨v0, e0, r0⟩ := ok1.slot i _ hg
    obtain ⟨pl, vs, rfl, ef, el, rs⟩ := r0.fl'
    refine ⟨_, e0, c.fz (nrm (m, T)) S, ok1, ?_⟩
    show REv X.K C (ev Φ G a (frzG (nrm (m, T)) c.g)) _ _ _
    rw [ek]
    intro w H2 s2 p2
    have ok2 := ok1.same s2
    have hj := Res.of_ok ej
    refine ⟨pl, vs, z, j, rfl, (p2.as hz).ofI, s2 _ _ el, by rw [rs.length]; exact hj, ?_⟩
    have ok3 := ok2.wr ef e0 (s2 _ _ el) (es := ds.set j m.toD) (ws := vs.set j y) ((rs.same s2).set j ((r.same s2).sub fun a z => .inr (.inr z)))
    exact q3 _ σ _ rfl ok3 ((fk1.st s2).wr ok2 ef (s2 _ _ el))
  · exact q2.elim
/-! ### own parts taken over, written in place -/
theorem RMs.allF {K : PySem.W.Frag} {C : Kls} {H : Hp} {S : Addr → Prop} : ∀ {ms : List M} {vs : List V} {A : List Addr}, ms.all M.isF = true → RMs K C H S vs ms A → A = [] ∧ RDs K C H S vs (M.toDs ms)
  | [], _, _, _, .nil => ⟨rfl, .nil⟩
  | m :: ms, _, _, h, .cons r t => by
    simp only [List.all_cons, Bool.and_eq_true] at h
    obtain ⟨e1, t'⟩ := RMs.allF h.2 t
    cases r <;> first | (simp [M.isF] at h; done) | skip
    rename_i r
    exact ⟨by rw [e1]; rfl, .cons r t'⟩
theorem RM.mkM {K : PySem.W.Frag} {C : Kls} {H : Hp} {S : Addr → Prop} {v : V} {m : M} {A : List Addr} (r : RM K C H S v m A) : RM K C H S v (mkM m) A := by
  cases r with
  | lst e rs =>
    simp only [Ev.mkM]
    split
    · rename_i h
      rw [Bool.and_eq_true] at h
      obtain ⟨e1, t⟩ := rs.allF h.2
      rw [e1]; exact .fl e t
    · exact .lst e rs
  | frz r => exact .frz r
  | fl e r => exact .fl e r
  | tup e r => exact .tup e r
  | obj e h r => exact .obj e h r
theorem snd_mk (ha : PE X x (tEv X.K C Φ G a)) : PE X x (tEv X.K C Φ G (.mk a)) := by
  refine pe_imp ha fun σ H Q ⟨c, ok, q⟩ => ⟨c, ok, ?_⟩
  rw [ev] at q
  obtain ⟨⟨m, T⟩, ea, q1⟩ := q.bind
  rw [ea]
  intro v H1 s1 ⟨S, A, g, r, nd, hA⟩
  exact q1 v H1 s1 ⟨S, A, g, r.mkM, nd, hA⟩
theorem snd_tupO (cx : Ctx X CX C k Φ G bl N sc) (hg : glOk sc n "tuple" = true) (hb : "tuple" ∈ bl) (hp : plainB x = true) (ha : PE X x (tEv X.K C Φ G a)) : PE X (.Call (.Name n p) [x] [] pos) (tEv X.K C Φ G (.tupO a)) := by
  obtain ⟨rfl, hgl, hdb⟩ := cx.gl hg
  refine pe_imp (pe_callTy call_tuple_of hgl (cx.wd.bn _ hb (by decide)) PyProof.Rows.boot_tuple (pa_cons ha pa_nil (star_plain hp)) (by decide +kernel) hdb (star_plain hp) rfl) fun σ H Q ⟨c, ok, q⟩ => ?_
  rw [ev] at q
  obtain ⟨⟨m, T⟩, ea, q1⟩ := q.bind
  obtain ⟨m', em, q2⟩ := q1.bind
  have em := Res.of_ok em
  refine ⟨c, ok, ?_⟩
  rw [ea]
  intro v H1 s1 ⟨S, A, g, r, nd, hA⟩
  cases r with
  | @lst a' vs ms A0 e1 rs =>
    refine ⟨_, _, rfl, .inl ⟨SqL.of e1, fun l nl => ?_⟩⟩
    have s2 := same_upd (o := HO.tup vs) nl
    refine q2 _ _ (s1.trans s2) ?_
    unfold tupM at em
    simp only [Option.some.injEq] at em
    split at em
    · rename_i h
      subst em
      exact epost_tup g (rs.allF h).2 nl
    · subst em
      have rs' := rs.mono (H' := upd H1 l (.tup vs)) (T := S) (S' := fun _ => True) (fun _ s => s) (Kp.of_same s2) (fun _ _ => trivial) fun _ _ => trivial
      exact ⟨S, _, g.right s2, .tup (.inl (.inl upd_same)) rs', (List.nodup_cons.mp nd).2, fun a z => hA a (List.mem_cons_of_mem _ z)⟩
  | fl e1 rs =>
    simp only [tupM, Option.some.injEq] at em
    subst em
    exact ⟨_, _, rfl, .inl ⟨SqL.of e1, fun l nl => q2 _ _ (s1.trans (same_upd nl)) (epost_tup g rs nl)⟩⟩
  | _ => cases em
theorem gNsO {K : PySem.W.Frag} {Q : L2.St → Hp → Prop} {g' : Gm} : ∀ {is : List Nat} {ms : List M} {vs : List V} {A : List Addr} {c : Cf} {σ : L2.St}, Ok K C c σ H → Fk bs c H → RMs K C H c.S vs ms A → A.Nodup → (∀ a ∈ A, ¬ c.S a ∧ (∀ j, a ∉ c.fp j) ∧ bs.H0 a = none) → setMs c.g is ms = some g' →
    (∀ c' σ', c'.g = g' → Ok K C c' σ' H → Fk bs c' H → Q σ' H) → gNs is vs σ H Q
  | [], [], _, _, c, σ, ok, fk, .nil, _, _, e, q => by
    cases e
    exact ⟨rfl, q c σ rfl ok fk⟩
  | i :: is, m :: ms, _, _, c, σ, ok, fk, .cons (v := v) (vs := vs) (A := A) (B := B) r t, nd, hA, e, q => by
    refine ⟨v, vs, rfl, ?_⟩
    show gNs is vs (σ.set i (some v)) H Q
    obtain ⟨n1, n2, n3⟩ := List.nodup_append.mp nd
    have ok1 := ok.st (i := i) r n1 fun a ha => ⟨(hA a (List.mem_append_left _ ha)).1, fun j _ => (hA a (List.mem_append_left _ ha)).2.1 j⟩
    have fk1 := fk.stt (i := i) (m := m) fun a ha => (hA a (List.mem_append_left _ ha)).2.2
    refine gNsO ok1 fk1 t n2 (fun a ha => ⟨(hA a (List.mem_append_right _ ha)).1, fun j z => ?_, (hA a (List.mem_append_right _ ha)).2.2⟩) e q
    have z' : a ∈ (if j = i then A else c.fp j) := z
    split at z'
    · exact n3 a z' a ha rfl
    · exact (hA a (List.mem_append_right _ ha)).2.1 j z'
  | [], _ :: _, _, _, _, _, _, _, _, _, _, e, _ => by cases e
  | _ :: _, [], _, _, _, _, _, _, _, _, _, e, _ => by cases e
theorem setMs_len : ∀ {is : List Nat} {ms : List M} {g g' : Gm}, setMs g is ms = some g' → ms.length = is.length
  | [], [], _, _, _ => rfl
  | i :: is, m :: ms, g, g', h => by rw [setMs] at h; simp [setMs_len h]
  | [], _ :: _, _, _, h => by cases h
  | _ :: _, [], _, _, h => by cases h
theorem snd_setO (cx : Ctx X CX C k Φ G bl N sc) {is : List Nat} {ts : List Expr} {kk : Nat} {p' : Pos} (hn : chkT N sc (.tp is) (.Tuple ts kk p') = true) (hc : notTup x = true) (ha : PE X x (tEv X.K C Φ G e)) : PS X (.Assign [.Tuple ts kk p'] x pos) (tSv X.K C Φ G W (.setO is e)) := by
  refine ps_imp (ps_asg ha (snd_tg cx hn) sole_tup (stores_plain hc) (one_tg rfl)) fun E σ H ⟨bs, c, ok, fk, q⟩ => ?_
  rw [evS] at q
  obtain ⟨⟨m, T⟩, ea, q1⟩ := q.bind
  refine ⟨c, ok, ?_⟩
  rw [ea]
  intro v H1 s1 p1
  obtain ⟨S, A, g, r, nd, hA⟩ := p1.nrm
  unfold setOR at q1
  cases r <;> first | exact q1.elim | skip
  rename_i vs ms sq rs
  obtain ⟨g', eg, q2⟩ := q1.bind
  have eg := Res.of_ok eg
  have ok1 := ok.fz s1 g
  have fk1 := fk.fz s1 g
  refine .inl ⟨_, vs, rfl, sq, by rw [rs.length, setMs_len eg], ?_⟩
  have hr := rs.mono (H' := H1) (T := (c.fz (nrm (M.tup ms, T)) S).S) (S' := fun _ => True) (fun a z => .inr (.inr z)) (Kp.of_same (Same.refl H1)) (fun _ _ => trivial) fun _ _ => trivial
  refine gNsO ok1 fk1 hr nd (fun a ha => ⟨fun z => ?_, fun j z => ?_, fk.same.free (hA a ha).1⟩) eg fun c' σ' e' ok' fk' => q2 c' σ' H1 e' ok' fk'
  · rcases z with z | ⟨j, _, z⟩ | z
    · exact ok.live a z (hA a ha).1
    · obtain ⟨⟨o, e, _⟩, _⟩ := ok.own j a z
      rw [(hA a ha).1] at e; cases e
    · exact (hA a ha).2 z
  · have z' : a ∈ (if j ∈ nrm (M.tup ms, T) then [] else c.fp j) := z
    split at z'
    · simp at z'
    · obtain ⟨⟨o, e, _⟩, _⟩ := ok.own j a z'
      rw [(hA a ha).1] at e; cases e
theorem frz_own {T : Tn} {g : Gm} {i : Nat} {o : M} (h : (frzG T g)[i]? = some (some o)) (ho : M.isF o = false) : i ∉ T := fun z => by
  rw [frzG_get, if_pos z] at h
  cases hq : g[i]? with
  | none => rw [hq] at h; cases h
  | some w =>
    rw [hq] at h
    cases w with
    | none => cases h
    | some m => cases h; cases ho
theorem snd_set2 (cx : Ctx X CX C k Φ G bl N sc) {i : Nat} {p' p2 p3 : Pos} (hn : nmOk N sc n i = true) (hp1 : plainB x1 = true) (hp2 : plainB x2 = true) (hk : PE X x1 (tEv X.K C Φ G a)) (hb : PE X x2 (tEv X.K C Φ G b)) (ha : PE X x (tEv X.K C Φ G e)) :
    PS X (.Assign [.Subscript (.Subscript (.Name n p') x1 p2) x2 p3] x pos) (tSv X.K C Φ G W (.set2 i a b e)) := by
  obtain ⟨h1, h2, h3, h4⟩ := cx.vis hn
  have hasg : ∀ v, assign (.Subscript (.Subscript (.Name n p') x1 p2) x2 p3) X.env v = (do
      let ov ← holding [v] (eval (.Subscript (.Name n p') x1 p2) X.env)
      let iv ← holding [v, ov] (eval x2 X.env)
      standAt p3
      holding [v, ov, iv] (setItem ov iv v)
      release [v, ov, iv] []) := by
    intro v
    cases x2 <;> first | rfl | (simp [plainB] at hp2)
  refine ps_imp (ps_asg ha (pg_sub (pe_ix ix_list (pe_var (pos := p') h1 h2 h3 h4) hk (ix_plain hp1)) hb set_list (pos := p3) hasg) sole_sub stores_sub (one_tg rfl)) fun E σ H ⟨bs, c, ok, fk, q⟩ => ?_
  rw [evS] at q
  obtain ⟨⟨m, T⟩, ea, q1⟩ := q.bind
  obtain ⟨⟨mk, Tk⟩, ek, q2⟩ := q1.bind
  obtain ⟨⟨mb, Tb⟩, eb, q3⟩ := q2.bind
  unfold set2R at q3
  split at q3
  · rename_i ms z u hg hz hu
    obtain ⟨qi, eq, q4⟩ := q3.bind
    have eq := Res.of_ok eq
    split at q4
    · rename_i ds hds
      obtain ⟨r, er, q5⟩ := q4.bind
      have er := Res.of_ok er
      refine ⟨c, ok, ?_⟩
      rw [ea]
      intro y H1 s1 p1
      obtain ⟨S, g, ry⟩ := p1.nrm.rd
      have ok1 := ok.fz s1 g
      have fk1 := fk.fz s1 g
      have ryS : RD X.K C H1 (c.fz (nrm (m, T)) S).S y m.toD := ry.sub fun a z => .inr (.inr z)
      generalize hc1 : c.fz (nrm (m, T)) S = c1 at *
      have hg1 : c1.g = frzG (nrm (m, T)) c.g := by rw [← hc1]; rfl
      rw [← hg1] at hg ek eb q5
      obtain ⟨v0, e0, r0⟩ := ok1.slot i _ hg
      generalize hA : c1.fp i = A0 at r0
      cases r0 with
      | @lst pl vs _ A el rs =>
      refine ⟨_, e0, c1, ok1, ?_⟩
      rw [ek]
      intro w1 H2 s2 p2'
      have ok2 := ok1.same s2
      have fk2 := fk1.st s2
      have nd : (pl :: A).Nodup := hA ▸ ok1.nd i
      have nS : ∀ a ∈ A, ¬ c1.S a := fun a h => (ok1.own i a (by rw [hA]; exact List.mem_cons_of_mem _ h)).2
      have el2 := s2 _ _ el
      have rs2 : RMs X.K C H2 c1.S vs ms A := rs.mono (S' := fun _ => True) (fun _ s => s) (Kp.of_same s2) (fun _ _ => trivial) fun _ _ => trivial
      obtain ⟨bq, ws, hbm, e1, e2, rws, upd_⟩ := rs2.upd (List.nodup_cons.mp nd).2 nS hds
      have hlen : vs.length = ms.length := rs.length
      refine ⟨pl, vs, z, .ref bq, rfl, (p2'.as hz).ofI, SqL.of el2, ?_, c1, ok2, ?_⟩
      · unfold L2.atI; rw [hlen, eq]; exact e1
      rw [eb]
      intro w2 H3 s3 p3'
      have ok3 := ok2.same s3
      have fk3 := fk2.st s3
      have e23 := s3 _ _ e2
      have el3 := s3 _ _ el2
      have rs3 : RMs X.K C H3 c1.S vs ms A := rs2.mono (S' := fun _ => True) (fun _ s => s) (Kp.of_same s3) (fun _ _ => trivial) fun _ _ => trivial
      obtain ⟨bq', ws', hb', e1', e2', rws', upd3⟩ := rs3.upd (List.nodup_cons.mp nd).2 nS hds
      rw [e1] at e1'
      cases e1'
      rw [e23] at e2'
      cases e2'
      have hl2 : ws.length = ds.length := rws'.length
      have hbp : bq ≠ pl := fun z => (List.nodup_cons.mp nd).1 (z ▸ hbm)
      have hbf : bq ∈ c1.fp i := by rw [hA]; exact List.mem_cons_of_mem _ hbm
      refine ⟨bq, ws, u, r, rfl, (p3'.as hu).ofI, e23, by rw [hl2]; exact er, ?_⟩
      have new := upd3 (ws.set r y) (ds.set r m.toD) (rws'.set r (((ryS.same s2).same s3)))
      refine q5 _ σ _ rfl (ok3.wrT hbf e0 e23 rfl rfl ?_) (fk3.wrT ok3 hbf e23 rfl)
      rw [hA]
      exact .lst (by rw [upd_ne (Ne.symm hbp)]; exact el3) new
    · exact q4.elim
  · exact q3.elim
theorem Ok.wrG {K : PySem.W.Frag} (k : Ok K C c σ H) {i : Nat} {p : Addr} {v : V} {m : M} {o u : HO} {A' : List Addr} (hp : p ∈ c.fp i) (hs : σ[i]? = some (some v)) (e : H p = some o) (io : isObj o = true) (iu : isObj u = true) (r : RM K C (upd H p u) c.S v m A') (nd : A'.Nodup)
    (hA : ∀ a ∈ A', a ∈ c.fp i ∨ ((∃ o, H a = some o ∧ isObj o = true) ∧ ¬ c.S a ∧ ∀ j, a ∉ c.fp j)) : Ok K C (c.st i A' m) σ (upd H p u) := by
  have nS := (k.own i p hp).2
  have kp : ∀ {S' : Addr → Prop}, ¬ S' p → Kp S' H (upd H p u) := fun h => Kp.upd e io h
  have up : ∀ a, H a ≠ none → upd H p u a ≠ none := fun a h => by
    by_cases ha : a = p
    · rw [ha, upd_same]; simp
    · rw [upd_ne ha]; exact h
  refine ⟨by simp [Cf.st, k.len], fun j m' e' => ?_, fun a h => up a (k.live a h), fun j a h => ?_, fun j => ?_, fun j l a h1 h2 => ?_⟩
  · have e2 : (c.g.set i (some m))[j]? = some (some m') := e'
    by_cases hj : j = i
    · subst hj
      have hlt : j < c.g.length := by
        have := (List.getElem?_eq_some_iff.mp e2).1
        simpa using this
      rw [List.getElem?_set_self hlt] at e2
      cases e2
      refine ⟨_, hs, ?_⟩
      show RM K C _ c.S v m (if j = j then A' else c.fp j)
      rw [if_pos rfl]
      exact r
    · rw [List.getElem?_set_ne (Ne.symm hj)] at e2
      obtain ⟨w, e1, r1⟩ := k.slot j m' e2
      refine ⟨w, e1, ?_⟩
      show RM K C _ c.S w m' (if j = i then A' else c.fp j)
      rw [if_neg hj]
      have np : p ∉ c.fp j := fun z => hj (k.dj j i p z hp)
      exact r1.mono (S' := fun a => c.S a ∨ a ∈ c.fp j) (fun _ z => z) (kp fun z => z.elim nS np) (fun _ z => .inl z) fun _ z => .inr z
  · have h' : a ∈ (if j = i then A' else c.fp j) := h
    have fin : (∃ o, H a = some o ∧ isObj o = true) ∧ ¬ c.S a := by
      split at h'
      · rcases hA a h' with z | z
        · exact k.own i a z
        · exact ⟨z.1, z.2.1⟩
      · exact k.own j a h'
    obtain ⟨⟨o', e1, io'⟩, n⟩ := fin
    refine ⟨?_, n⟩
    by_cases ha : a = p
    · subst ha; exact ⟨_, upd_same, iu⟩
    · exact ⟨o', by rw [upd_ne ha]; exact e1, io'⟩
  · show (if j = i then A' else c.fp j).Nodup
    split
    · exact nd
    · exact k.nd j
  · have h1' : a ∈ (if j = i then A' else c.fp j) := h1
    have h2' : a ∈ (if l = i then A' else c.fp l) := h2
    split at h1' <;> split at h2'
    · rename_i e1 e2; rw [e1, e2]
    · rename_i e1 e2
      rcases hA a h1' with z | z
      · rw [e1]; exact k.dj i l a z h2'
      · exact absurd h2' (z.2.2 l)
    · rename_i e1 e2
      rcases hA a h2' with z | z
      · rw [e2]; exact k.dj j i a h1' z
      · exact absurd h1' (z.2.2 j)
    · exact k.dj j l a h1' h2'
theorem Fk.wrG {i : Nat} {p : Addr} {o u : HO} {m : M} {A' : List Addr} {K : PySem.W.Frag} (k : Fk bs c H) (ok : Ok K C c σ H) (hp : p ∈ c.fp i) (e : H p = some o) (io : isObj o = true) (hA : ∀ a ∈ A', a ∈ c.fp i ∨ bs.H0 a = none) : Fk bs (c.st i A' m) (upd H p u) := by
  have h0 : bs.H0 p = none := k.own i p hp
  refine ⟨fun a x e0 => ?_, k.sub, (k.stt fun a z => (hA a z).elim (k.own i a) id).own, k.base, k.kp.trans (Kp.upd e io fun z => (ok.own i p hp).2 (k.base p z))⟩
  rw [upd_ne (fun z => by subst z; rw [h0] at e0; cases e0)]
  exact k.same a x e0
theorem snd_appO (cx : Ctx X CX C k Φ G bl N sc) {i : Nat} {ap p' : Pos} (hn : nmOk N sc n i = true) (hl : (ap.endLine == p.line) = true) (hp : plainB x = true) (ha : PE X x (tEv X.K C Φ G e)) :
    PS X (.Expr (.Call (.Attribute (.Name n p') "append" ap) [x] [] p) pos) (tSv X.K C Φ G W (.appO i e)) := by
  obtain ⟨h1, h2, h3, h4⟩ := cx.vis hn
  have few : ((backTo p (starEach [x] X.env)).all (fun x => !x.1) && (backToKw p (keywordEach [] X.env)).all (fun x => x.1.isSome) && decide (([x] : List Expr).length + ([] : List Keyword).length + (if ([] : List Keyword).isEmpty then 0 else 1) < 30)) = true := by
    rw [star_plain hp]; rfl
  refine ps_imp (ps_expr (pe_bm PySem.F.plainAttrs_list PySem.F.slot_list_append PySem.F.type_list_append mt_append (pe_var (pos := p') h1 h2 h3 h4) (pa_cons ha pa_nil (star_plain hp)) (base_plain rfl) few hl (star_plain hp) rfl) (swaps_plain rfl)) fun E σ H ⟨bs, c, ok, fk, q⟩ => ?_
  rw [evS] at q
  obtain ⟨⟨m, T⟩, ea, q1⟩ := q.bind
  unfold appOR at q1
  split at q1
  · rename_i ms hg
    split at q1
    · rename_i hlim
      have hni := frz_own hg rfl
      have hg0 := hg
      rw [frzG_get, if_neg hni] at hg0
      obtain ⟨v0, e0, r0⟩ := ok.slot i _ hg0
      generalize hA0 : c.fp i = A0 at r0
      cases r0 with
      | @lst pl vs _ A el rs =>
      refine ⟨_, e0, .inl ⟨rfl, vs, SqL.of el⟩, c, ok, ?_⟩
      rw [ea]
      intro y H1 s1 p1
      obtain ⟨S, B, g, ry, ndB, hB⟩ := p1.nrm
      have ok1 := ok.fz s1 g
      have fk1 := fk.fz s1 g
      have ef1 : (c.fz (nrm (m, T)) S).fp i = pl :: A := by
        show (if i ∈ nrm (m, T) then [] else c.fp i) = _
        rw [if_neg hni, hA0]
      have hlen : vs.length = ms.length := rs.length
      have el1 := s1 _ _ el
      have nd : (pl :: A).Nodup := hA0 ▸ ok.nd i
      have hBn : ∀ a ∈ B, ¬ (c.fz (nrm (m, T)) S).S a ∧ ∀ j, a ∉ (c.fz (nrm (m, T)) S).fp j := fun a ha => ⟨fun z => by
        rcases z with z | ⟨j, _, z⟩ | z
        · exact ok.live a z (hB a ha).1
        · obtain ⟨⟨o, e, _⟩, _⟩ := ok.own j a z
          rw [(hB a ha).1] at e; cases e
        · exact (hB a ha).2 z, fun j z => by
        have z' : a ∈ (if j ∈ nrm (m, T) then [] else c.fp j) := z
        split at z'
        · simp at z'
        · obtain ⟨⟨o, e, _⟩, _⟩ := ok.own j a z'
          rw [(hB a ha).1] at e; cases e⟩
      have hplB : pl ∉ B := fun z => by have := (hB pl z).1; rw [el] at this; cases this
      have hAB : ∀ a ∈ A, a ∉ B := fun a h z => (hBn a z).2 i (by rw [ef1]; exact List.mem_cons_of_mem _ h)
      refine ⟨pl, vs, y, rfl, rfl, el1, by rw [hlen]; exact lim_lt hlim, ?_⟩
      have nS : ∀ a ∈ pl :: A, ¬ (c.fz (nrm (m, T)) S).S a := fun a h => (ok1.own i a (by rw [ef1]; exact h)).2
      have hkp : Kp (fun a => a ≠ pl) H1 (upd H1 pl (.lst (vs ++ [y]))) := Kp.upd el1 rfl fun z => z rfl
      have rs1 : RMs X.K C (upd H1 pl (.lst (vs ++ [y]))) (c.fz (nrm (m, T)) S).S vs ms A := (rs.mono (H' := H1) (T := (c.fz (nrm (m, T)) S).S) (S' := fun _ => True) (fun _ z => .inl z) (Kp.of_same s1) (fun _ _ => trivial) fun _ _ => trivial).mono (fun _ z => z) hkp
        (fun a z e => nS pl (by simp) (e ▸ z)) fun a z e => (List.nodup_cons.mp nd).1 (e ▸ z)
      have ry1 : RM X.K C (upd H1 pl (.lst (vs ++ [y]))) (c.fz (nrm (m, T)) S).S y m B := (ry.sub (T := (c.fz (nrm (m, T)) S).S) fun a z => .inr (.inr z)).mono (fun _ z => z) hkp
        (fun a z e => nS pl (by simp) (e ▸ z)) fun a z e => hplB (e ▸ z)
      have hAll : ∀ a ∈ pl :: (A ++ B), a ∈ (c.fz (nrm (m, T)) S).fp i ∨ a ∈ B := fun a h => by
        rw [ef1]
        simp only [List.mem_cons, List.mem_append] at h ⊢
        rcases h with h | h | h
        · exact .inl (.inl h)
        · exact .inl (.inr h)
        · exact .inr h
      refine q1 _ σ _ rfl (ok1.wrG (i := i) (v := .ref pl) (A' := pl :: (A ++ B)) (by rw [ef1]; simp) e0 el1 rfl rfl (.lst upd_same (rs1.snoc ry1)) ?_ fun a h => ?_) (fk1.wrG ok1 (by rw [ef1]; simp) el1 rfl fun a h => ?_)
      · refine List.nodup_cons.mpr ⟨fun z => ?_, List.nodup_append.mpr ⟨(List.nodup_cons.mp nd).2, ndB, fun a h1 b h2 e => hAB a h1 (e ▸ h2)⟩⟩
        rcases List.mem_append.mp z with z | z
        · exact (List.nodup_cons.mp nd).1 z
        · exact hplB z
      · rcases hAll a h with z | z
        · exact .inl z
        · exact .inr ⟨ry.live a z, (hBn a z).1, (hBn a z).2⟩
      · rcases hAll a h with z | z
        · exact .inl z
        · exact .inr (fk.same.free (hB a z).1)
    · exact q1.elim
  · exact q1.elim
theorem snd_expr (hc : plainC x = true) (ha : PE X x (tEv X.K C Φ G e)) : PS X (.Expr x pos) (tSv X.K C Φ G W (.expr e)) := by
  refine ps_imp (ps_expr ha (swaps_plain hc)) fun E σ H ⟨bs, c, ok, fk, q⟩ => ?_
  rw [evS] at q
  obtain ⟨⟨m, T⟩, ea, q1⟩ := q.bind
  refine ⟨c, ok, ?_⟩
  rw [ea]
  intro v H1 s1 p1
  exact q1 c σ H1 rfl (ok.same s1) (fk.st s1)
theorem evS_ret {g : Gm} (h : notSlot e = true) : evS Φ G W (.ret e) g = (ev Φ G e g).bind fun r => .ok (.rt r.1) := by
  cases e <;> first | (rw [evS] <;> simp; done) | (simp [notSlot] at h)
theorem snd_ret (hn : notSlot e = true) (ha : PE X x (tEv X.K C Φ G e)) : PS X (.Return (some x) pos) (tSv X.K C Φ G W (.ret e)) := by
  refine ps_imp (ps_ret ha) fun E σ H ⟨bs, c, ok, fk, q⟩ => ?_
  rw [evS_ret hn] at q
  obtain ⟨⟨m, T⟩, ea, q1⟩ := q.bind
  refine ⟨c, ok, ?_⟩
  rw [ea]
  intro v H1 s1 p1
  exact q1 v H1 (p1.ret fk s1)
theorem snd_retS (cx : Ctx X CX C k Φ G bl N sc) {i : Nat} {p' : Pos} (hn : nmOk N sc n i = true) : PS X (.Return (some (.Name n p')) pos) (tSv X.K C Φ G W (.ret (.slot i))) := by
  obtain ⟨h1, h2, h3, h4⟩ := cx.vis hn
  refine ps_imp (ps_ret (pe_var h1 h2 h3 h4)) fun E σ H ⟨bs, c, ok, fk, q⟩ => ?_
  rw [evS] at q
  split at q
  · rename_i m hg
    obtain ⟨v, e1, r⟩ := ok.slot i m hg
    exact ⟨v, e1, q v H ⟨c.S, c.fp i, fk.same, r, ok.nd i, fun a h => ⟨fk.own i a h, (ok.own i a h).2⟩, fk.sub, ok.live⟩⟩
  · exact q.elim
theorem snd_retN : PS X (.Return none pos) (tSv X.K C Φ G W .retN) := by
  refine ps_imp ps_retN fun E σ H ⟨bs, c, ok, fk, q⟩ => ?_
  rw [evS] at q
  exact q .non H (epost_non (c := c) (T := []) |>.ret fk (Same.refl H))
theorem snd_iteS (hc : PT X x (tTv X.K C Φ G e)) (ha : PSs X sts (tBv X.K C Φ G W ss)) {sts2 : List Stmt} (hb : PSs X sts2 (tBv X.K C Φ G W tt)) : PS X (.If x sts sts2 pos) (tSv X.K C Φ G W (.ite e ss tt)) := by
  refine ps_imp (ps_if hc ha hb) fun E σ H ⟨bs, c, ok, fk, q⟩ => ?_
  rw [evS] at q
  obtain ⟨z, ez, q1⟩ := q.bind
  refine ⟨c, ok, ?_⟩
  rw [ez]
  intro H1 s1
  cases z with
  | true => rw [if_pos rfl]; rw [if_pos rfl] at q1; exact ⟨bs, c, ok.same s1, fk.st s1, q1⟩
  | false => rw [if_neg (by simp)]; rw [if_neg (by simp)] at q1; exact ⟨bs, c, ok.same s1, fk.st s1, q1⟩
theorem snd_bnil : PSs X [] (tBv X.K C Φ G W .nil) := by
  refine pss_imp pss_nil fun E σ H ⟨bs, c, ok, fk, q⟩ => ?_
  rw [evSs] at q
  exact q c σ H rfl ok fk
theorem snd_bcons (h1 : PS X st (tSv X.K C Φ G W s)) (h2 : PSs X sts (tBv X.K C Φ G W ss)) : PSs X (st :: sts) (tBv X.K C Φ G W (.cons s ss)) := by
  refine pss_imp (pss_cons h1 h2) fun E σ H ⟨bs, c, ok, fk, q⟩ => ?_
  rw [evSs] at q
  obtain ⟨o, eo, q1⟩ := q.bind
  refine ⟨bs, c, ok, fk, ?_⟩
  rw [eo]
  cases o with
  | nx g => exact fun c' σ' H' eg ok' fk' => ⟨bs, c', ok', fk', by rw [eg]; exact q1⟩
  | rt m => exact q1
  | bk g => exact q1
  | ct g => exact q1
theorem snd_brk : PS X (.Break pos) (tSv X.K C Φ G W .brk) := by
  refine ps_imp ps_break fun E σ H ⟨bs, c, ok, fk, q⟩ => ?_
  rw [evS] at q
  exact q c σ H rfl ok fk
theorem snd_cont : PS X (.Continue pos) (tSv X.K C Φ G W .cont) := by
  refine ps_imp ps_continue fun E σ H ⟨bs, c, ok, fk, q⟩ => ?_
  rw [evS] at q
  exact q c σ H rfl ok fk
theorem snd_pass : PS X (.Pass pos) (tSv X.K C Φ G W .pass) := by
  refine ps_imp ps_pass fun E σ H ⟨bs, c, ok, fk, q⟩ => ?_
  rw [evS] at q
  exact q c σ H rfl ok fk
/-! ### loops -/
theorem snd_for (cx : Ctx X CX C k Φ G bl N sc) (hown : PassesOwn (model X.prog X.w) X.A X.env X.xe) {t : Tg} {i : Ev.It} (hi : PI X tg x (tIf X.K C Φ G i)) (ht : chkT N sc t tg = true) (hf : ∀ y, foldedSetIterable x X.env y = pure y) (hb : PSs X sts (tBv X.K C Φ G W ss)) :
    PS X (.For tg x sts [] pos) (tSv X.K C Φ G W (.for t i ss)) := by
  refine ps_imp (ps_for hown cx.calm hi (snd_tg cx ht) hb hf) fun E σ H ⟨bs, c, ok, fk, q⟩ => ?_
  rw [evS] at q
  obtain ⟨⟨ds, T⟩, ea, q1⟩ := q.bind
  refine ⟨c, ok, ?_⟩
  rw [ea]
  intro J H1 s1 ⟨SI, gI, wk⟩
  have ok1 := ok.fz s1 gI
  have fk1 := fk.fz s1 gI
  let bs' : Bs := ⟨bs.H0, bs.Se, fun a => bs.SB a ∨ SI a, H1⟩
  have up : ∀ {c' H'}, Fk bs c' H' → (∀ a, SI a → c'.S a) → Kp (fun a => bs.SB a ∨ SI a) H1 H' → Fk bs' c' H' := fun {c' H'} f h1 h2 => ⟨f.same, f.sub, f.own, fun a z => z.elim (f.base a) (h1 a), h2⟩
  have dn : ∀ {c' H'}, Fk bs' c' H' → Fk bs c' H' := fun {c' H'} f => ⟨f.same, f.sub, f.own, fun a z => f.base a (.inl z), fk1.kp.trans (f.kp.imp fun a z => .inl z)⟩
  let Wv : Nat → Nat → L2.St → Hp → Prop := fun i m σ H => i + m = ds.length ∧ (∃ c, Ok X.K C c σ H ∧ Fk bs' c H ∧ ROut X.K C bs (forGo t (fun g => evSs Φ G W ss g) (ds.drop i) c.g) E)
  refine ⟨Wv, ⟨ds.length, by simp, c.fz T SI, ok1, up fk1 (fun a z => .inr (.inr z)) (Kp.of_same (Same.refl H1)), q1⟩, ?_⟩
  rintro i m σ2 H2 ⟨him, c2, ok2, fk2, q2⟩
  have wk2 := wk H2 (fk2.kp.imp fun a z => .inr z)
  by_cases hlt : i < ds.length
  · refine .inr ⟨wk2.go i hlt, Wv (i + 1) (m - 1), fun σ' H' w => ⟨m - 1, by omega, w⟩, fun y H' hy => ?_⟩
    obtain ⟨rfl, hd⟩ := wk2.yld i y _ hy
    have hdr : ds.drop i = ds[i] :: ds.drop (i + 1) := by rw [List.drop_eq_getElem_cons hlt]
    rw [hdr, forGo] at q2
    obtain ⟨g1, eg, q3⟩ := q2.bind
    obtain ⟨o, eo, q4⟩ := q3.bind
    have rd : RD X.K C H' c2.S y ds[i] := (hd _ (List.getElem?_eq_getElem hlt)).sub fun a z => fk2.base a (.inr z)
    refine tg_ok ok2 (Res.of_ok eg) rd rfl (fun _ _ => rfl) (Z := fun _ => True) trivial (fun _ _ _ _ _ => trivial) fun σ3 _ ok3 => ?_
    refine ⟨bs', c2.bd t.ix g1, ok3, fk2.bd, ?_⟩
    have eo' : evSs Φ G W ss (c2.bd t.ix g1).g = .ok o := eo
    rw [eo']
    cases o with
    | nx g2 => exact fun c4 σ4 H4 eg4 ok4 fk4 => ⟨by omega, c4, ok4, fk4, by rw [eg4]; exact q4⟩
    | ct g2 => exact fun c4 σ4 H4 eg4 ok4 fk4 => ⟨by omega, c4, ok4, fk4, by rw [eg4]; exact q4⟩
    | bk g2 => exact fun c4 σ4 H4 eg4 ok4 fk4 => q4 c4 σ4 H4 eg4 ok4 (dn fk4)
    | rt mm => exact q4
  · have ei : i = ds.length := by omega
    subst ei
    rw [List.drop_length, forGo] at q2
    exact .inl ⟨wk2.stop, q2 c2 σ2 H2 rfl ok2 (dn fk2)⟩
theorem snd_while (hown : PassesOwn (model X.prog X.w) X.A X.env X.xe) (hc : PT X x (tTv X.K C Φ G e)) (hb : PSs X sts (tBv X.K C Φ G W ss)) :
    PS X (.While x sts [] pos) (tSv X.K C Φ G W (.while e ss)) := by
  refine ps_imp (ps_while hown hc hb) fun E σ H ⟨bs, c, ok, fk, q⟩ => ?_
  rw [evS] at q
  refine ⟨fun m σ H => ∃ c, Ok X.K C c σ H ∧ Fk bs c H ∧ ROut X.K C bs (whGo (fun g => tv Φ G e g (ev Φ G e g)) (fun g => evSs Φ G W ss g) m c.g) E, ⟨W, c, ok, fk, q⟩, ?_⟩
  rintro m σ2 H2 ⟨c2, ok2, fk2, q2⟩
  cases m with
  | zero => exact q2.elim
  | succ m =>
    rw [whGo] at q2
    obtain ⟨z, ez, q3⟩ := q2.bind
    refine ⟨c2, ok2, ?_⟩
    rw [ez]
    intro H3 s3
    cases z with
    | false =>
      rw [if_neg (by simp)]; rw [if_neg (by simp)] at q3
      exact q3 c2 σ2 H3 rfl (ok2.same s3) (fk2.st s3)
    | true =>
      rw [if_pos rfl]; rw [if_pos rfl] at q3
      obtain ⟨o, eo, q4⟩ := q3.bind
      refine ⟨fun σ H => ∃ c, Ok X.K C c σ H ∧ Fk bs c H ∧ ROut X.K C bs (whGo (fun g => tv Φ G e g (ev Φ G e g)) (fun g => evSs Φ G W ss g) m c.g) E, fun σ' H' w => ⟨m, by omega, w⟩, bs, c2, ok2.same s3, fk2.st s3, ?_⟩
      rw [eo]
      cases o with
      | nx g2 => exact fun c4 σ4 H4 eg4 ok4 fk4 => ⟨c4, ok4, fk4, by rw [eg4]; exact q4⟩
      | ct g2 => exact fun c4 σ4 H4 eg4 ok4 fk4 => ⟨c4, ok4, fk4, by rw [eg4]; exact q4⟩
      | bk g2 => exact q4
      | rt mm => exact q4
/-- a name whose value is not known -/
theorem Ok.clr {K : PySem.W.Frag} (k : Ok K C c σ H) (j : Nat) (v : V) : Ok K C (c.bd [j] (c.g.set j none)) (σ.set j (some v)) H := by
  refine k.bd (by simp [k.len]) fun l m e => ?_
  by_cases hl : l = j
  · subst hl
    by_cases h : l < c.g.length
    · rw [List.getElem?_set_self h] at e; cases e
    · rw [List.getElem?_eq_none (by simp; omega)] at e; cases e
  · rw [List.getElem?_set_ne (Ne.symm hl)] at e
    obtain ⟨w, e1, r⟩ := k.slot l m e
    refine ⟨w, by rw [List.getElem?_set_ne (Ne.symm hl)]; exact e1, ?_⟩
    show RM K C H c.S w m (if l ∈ [j] then [] else c.fp l)
    rw [if_neg (by simpa using hl)]; exact r
theorem snd_ali (cx : Ctx X CX C k Φ G bl N sc) {i j : Nat} {m m1 m2 : Str} {y1 y2 : Expr} {q1 q2 q3 q4 q5 q6 q7 q8 q9 ap1 p1 ap2 p2 : Pos} {cc : E} {r : Ss} (hni : nmOk N sc n i = true) (hmj : stOk N sc m j = true) (hm1 : nmOk N sc m1 j = true) (hm2 : nmOk N sc m2 j = true)
    (hl1 : (ap1.endLine == p1.line) = true) (hl2 : (ap2.endLine == p2.line) = true) (hp1 : plainB x1 = true) (hp2 : plainB y2 = true) (ha : PE X x1 (tEv X.K C Φ G a)) (hc : PT X y1 (tTv X.K C Φ G cc)) (he : PE X y2 (tEv X.K C Φ G e)) (hr : PSs X sts (tBv X.K C Φ G W r)) :
    PSs X (.Assign [.Name m q1] (.Subscript (.Name n q2) x1 q3) q4 :: .If y1 [.Expr (.Call (.Attribute (.Name m1 q5) "append" ap1) [y2] [] p1) q6] [.Expr (.Call (.Attribute (.Name m2 q7) "pop" ap2) [] [] p2) q8] q9 :: sts) (tBv X.K C Φ G W (.ali i j a cc e r)) := by
  obtain ⟨h1, h2, h3, h4⟩ := cx.vis hni
  obtain ⟨n1, n2, n3⟩ := cx.st hmj
  obtain ⟨k1, k2, k3, k4⟩ := cx.vis hm1
  obtain ⟨l1, l2, l3, l4⟩ := cx.vis hm2
  have few : ((backTo p1 (starEach [y2] X.env)).all (fun x => !x.1) && (backToKw p1 (keywordEach [] X.env)).all (fun x => x.1.isSome) && decide (([y2] : List Expr).length + ([] : List Keyword).length + (if ([] : List Keyword).isEmpty then 0 else 1) < 30)) = true := by
    rw [star_plain hp2]; rfl
  refine pss_imp (pss_cons (ps_set (pos' := q1) cx.nd' n1 n2 (pe_ix ix_list (pe_var (pos := q2) h1 h2 h3 h4) ha (ix_plain hp1)) (swaps_plain rfl) n3)
    (pss_cons (ps_if hc (pss_one (ps_expr (pe_bm PySem.F.plainAttrs_list PySem.F.slot_list_append PySem.F.type_list_append mt_append (pe_var (pos := q5) k1 k2 k3 k4) (pa_cons he pa_nil (star_plain hp2)) (base_plain rfl) few hl1 (star_plain hp2) rfl) (swaps_plain rfl)))
      (pss_one (ps_expr (pe_bm0 PySem.F.plainAttrs_list PySem.F.slot_list_pop PySem.F.type_list_pop mt_pop (pe_var (pos := q7) l1 l2 l3 l4) (base_plain rfl) hl2) (swaps_plain rfl)))) hr)) fun E σ H ⟨bs, c, ok, fk, q⟩ => ?_
  rw [evSs] at q
  split at q
  · exact q.elim
  rename_i hij
  rw [not_or] at hij
  obtain ⟨hj, hij⟩ := hij
  obtain ⟨⟨mk, Tk⟩, ek, qa⟩ := q.bind
  obtain ⟨⟨ms, qi, ds⟩, ex, qb⟩ := qa.bind
  obtain ⟨v, ev', qc⟩ := qb.bind
  unfold aliR at ex
  split at ex
  · rename_i ms' z hg hz
    obtain ⟨qi', eq, ex⟩ := Res.bind_eq_ok ex
    have eq := Res.of_ok eq
    split at ex
    · rename_i ds' hds
      cases ex
      obtain ⟨v0, e0, r0⟩ := ok.slot i _ hg
      generalize hA : c.fp i = A0 at r0
      cases r0 with
      | @lst pl vs _ A el rs =>
      refine ⟨_, e0, c, ok, ?_⟩
      rw [ek]
      intro w1 H1 s1 p1'
      have ok1 := ok.same s1
      have fk1 := fk.st s1
      have nd : (pl :: A).Nodup := hA ▸ ok.nd i
      have nS : ∀ a ∈ A, ¬ c.S a := fun a h => (ok.own i a (by rw [hA]; exact List.mem_cons_of_mem _ h)).2
      have el1 := s1 _ _ el
      have rs1 : RMs X.K C H1 c.S vs ms A := rs.mono (S' := fun _ => True) (fun _ s => s) (Kp.of_same s1) (fun _ _ => trivial) fun _ _ => trivial
      obtain ⟨bq, ws, hbm, e1, e2, rws, _⟩ := rs1.upd (List.nodup_cons.mp nd).2 nS hds
      have hlen : vs.length = ms.length := rs.length
      refine ⟨pl, vs, z, .ref bq, rfl, (p1'.as hz).ofI, SqL.of el1, ?_, ?_⟩
      · unfold L2.atI; rw [hlen, eq]; exact e1
      have hjl : j < σ.length := by rw [← ok.len]; omega
      have ok2 := ok1.clr j (.ref bq)
      have fk2 : Fk bs (c.bd [j] (c.g.set j none)) H1 := fk1.bd
      have efp : (c.bd [j] (c.g.set j none)).fp i = pl :: A := by
        show (if i ∈ [j] then [] else c.fp i) = _
        rw [if_neg (by simpa using hij), hA]
      have e0' : (σ.set j (some (.ref bq)))[i]? = some (some (.ref pl)) := by rw [List.getElem?_set_ne (Ne.symm hij)]; exact e0
      have ej' : (σ.set j (some (V.ref bq)))[j]? = some (some (.ref bq)) := List.getElem?_set_self hjl
      refine ⟨_, ok2, ?_⟩
      show RTv (tv Φ G cc (c.g.set j none) (ev Φ G cc (c.g.set j none))) _ _ _
      rw [ev']
      intro H2 s2
      have ok3 := ok2.same s2
      have fk3 := fk2.st s2
      have e22 := s2 _ _ e2
      have el2 := s2 _ _ el1
      have rs2 : RMs X.K C H2 c.S vs ms A := rs1.mono (S' := fun _ => True) (fun _ s => s) (Kp.of_same s2) (fun _ _ => trivial) fun _ _ => trivial
      have hbp : bq ≠ pl := fun z => (List.nodup_cons.mp nd).1 (z ▸ hbm)
      have hbf : bq ∈ (c.bd [j] (c.g.set j none)).fp i := by rw [efp]; exact List.mem_cons_of_mem _ hbm
      -- the list is written
      have fin : ∀ {H3 : Hp} (s3 : Same H2 H3) {ws' : List V} {ds'' : List D}, RDs X.K C H3 c.S ws' ds'' → ROut X.K C bs (evSs Φ G W r ((c.g.set j none).set i (some (.lst (ms.set qi (.fl ds'')))))) E → tBv X.K C Φ G W r E (σ.set j (some (.ref bq))) (upd H3 bq (.lst ws')) := fun {H3} s3 {ws' ds''} rd q => by
        have ok4 := ok3.same s3
        have fk4 := fk3.st s3
        have e23 := s3 _ _ e22
        have el3 := s3 _ _ el2
        have rs3 : RMs X.K C H3 c.S vs ms A := rs2.mono (S' := fun _ => True) (fun _ s => s) (Kp.of_same s3) (fun _ _ => trivial) fun _ _ => trivial
        obtain ⟨bq', ws2, hb', e1', e2', rws', upd3⟩ := rs3.upd (List.nodup_cons.mp nd).2 nS hds
        rw [e1] at e1'
        cases e1'
        have new := upd3 ws' ds'' rd
        refine ⟨bs, _, ok4.wrT hbf e0' e23 rfl rfl (m := .lst (ms.set qi (.fl ds''))) ?_, fk4.wrT ok4 hbf e23 rfl, q⟩
        rw [efp]
        exact .lst (by rw [upd_ne (Ne.symm hbp)]; exact el3) new
      have hl2 : ws.length = ds.length := rws.length
      cases v with
      | true =>
        rw [if_pos rfl]
        rw [if_pos rfl] at qc
        obtain ⟨⟨md, Td⟩, ed, qd⟩ := qc.bind
        split at qd
        · rename_i hfl
          refine ⟨_, ej', .inl ⟨rfl, ws, SqL.of e22⟩, _, ok3, ?_⟩
          show REv X.K C (ev Φ G e (c.g.set j none)) _ _ _
          rw [ed]
          intro y H3 s3 p3
          obtain ⟨S3, g3, r3⟩ := p3.rd
          have ry : RD X.K C H3 c.S y md.toD := r3.flat (Kp.of_same (Same.refl H3)) hfl.1
          refine ⟨bq, ws, y, rfl, rfl, s3 _ _ e22, by rw [hl2]; exact lim_lt hfl.2, ?_⟩
          exact fin s3 ((((rws.same s2).same s3)).append (.cons ry .nil)) qd
        · exact qd.elim
      | false =>
        rw [if_neg (by simp)]
        rw [if_neg (by simp)] at qc
        split at qc
        · exact qc.elim
        · rename_i hne
          have hpos : 0 < ds.length := by
            simp only at hne
            cases ds with | nil => exact absurd rfl hne | cons _ _ => simp
          have dl : ∀ {vs : List V} {ds : List D}, RDs X.K C H2 c.S vs ds → RDs X.K C H2 c.S vs.dropLast ds.dropLast := fun {vs ds} r => by
            rw [List.dropLast_eq_take, List.dropLast_eq_take, r.length]; exact r.take _
          refine ⟨_, ej', .inl ⟨rfl, ws, SqL.of e22⟩, bq, ws, ws[ws.length - 1]'(by omega), rfl, rfl, e22, by simp, ?_⟩
          exact fin (Same.refl H2) (dl (rws.same s2)) qc
    · cases ex
  · cases ex
/-! ### a tuple handed back with its own parts, and written -/
structure MPost (K : PySem.W.Frag) (C : Kls) (c : Cf) (H H' : Hp) (vs : List V) (ms : List M) (T : Tn) (S : Addr → Prop) (A : List Addr) : Prop where
  sub : ∀ a, S a → c.S a ∨ H a = none
  live : ∀ a, S a → H' a ≠ none
  rs : RMs K C H' S vs ms A
  nd : A.Nodup
  own : ∀ a ∈ A, ((∃ i ∈ T, a ∈ c.fp i) ∨ H a = none) ∧ ¬ S a
  base : ∀ a, c.S a → S a
def RMv (K : PySem.W.Frag) (C : Kls) (r : Res (List M × Tn)) (c : Cf) (H : Hp) (Q : List V → Hp → Prop) : Prop := match r with
  | .ok (ms, T) => ∀ vs H', Same H H' → (∃ S A, MPost K C c H H' vs ms T S A) → Q vs H'
  | _ => False
def tMv (K : PySem.W.Frag) (C : Kls) (Φ : String → List D → Res M) (G : String → Option D) (es : Es) : TA := fun σ H Q => ∃ c, Ok K C c σ H ∧ RMv K C (evM Φ G es c.g) c H Q
def R1v (K : PySem.W.Frag) (C : Kls) (r : Res (M × Tn)) (c : Cf) (H : Hp) (Q : VK) : Prop := match r with
  | .ok (m, T) => ∀ v H', Same H H' → (∃ S A, MPost K C c H H' [v] [m] T S A) → Q v H'
  | _ => False
def t1v (K : PySem.W.Frag) (C : Kls) (Φ : String → List D → Res M) (G : String → Option D) (e : E) : TE := fun σ H Q => ∃ c, Ok K C c σ H ∧ R1v K C (evM1 Φ G e c.g) c H Q
theorem RMv.bind {K : PySem.W.Frag} {α : Type} {r : Res α} {f : α → Res (List M × Tn)} {Q : List V → Hp → Prop} (h : RMv K C (r.bind f) c H Q) : ∃ z, r = .ok z ∧ RMv K C (f z) c H Q := by
  cases r with
  | no => exact h.elim
  | ex _ => exact h.elim
  | ok z => exact ⟨z, rfl, h⟩
theorem snd_mnil : PA X [] (tMv X.K C Φ G .nil) := pa_imp pa_nil fun σ H Q ⟨c, ok, q⟩ => q [] H (Same.refl H) ⟨c.S, [], fun a z => .inl z, ok.live, .nil, .nil, fun a z => by simp at z, fun a z => z⟩
theorem snd_m1slot (cx : Ctx X CX C k Φ G bl N sc) {i : Nat} {p' : Pos} (hn : nmOk N sc n i = true) : PE X (.Name n p') (t1v X.K C Φ G (.slot i)) := by
  obtain ⟨h1, h2, h3, h4⟩ := cx.vis hn
  refine pe_imp (pe_var h1 h2 h3 h4) fun σ H Q ⟨c, ok, q⟩ => ?_
  unfold evM1 at q
  cases hg : c.g[i]? with
  | none => simp only [hg] at q; exact q.elim
  | some o =>
    cases o with
    | none => simp only [hg] at q; exact q.elim
    | some m =>
      simp only [hg] at q
      obtain ⟨v, e1, r⟩ := ok.slot i m hg
      have rs : RMs X.K C H c.S [v] [m] (c.fp i ++ []) := .cons r .nil
      rw [List.append_nil] at rs
      exact ⟨v, e1, q v H (Same.refl H) ⟨c.S, c.fp i, fun a z => .inl z, ok.live, rs, ok.nd i, fun a z => ⟨.inl ⟨i, by simp, z⟩, (ok.own i a z).2⟩, fun a z => z⟩⟩
theorem snd_m1 (hn : notSlot e = true) (ha : PE X x (tEv X.K C Φ G e)) : PE X x (t1v X.K C Φ G e) := by
  refine pe_imp ha fun σ H Q ⟨c, ok, q⟩ => ⟨c, ok, ?_⟩
  have e1 : evM1 Φ G e c.g = (ev Φ G e c.g).bind fun x => match nrm x with
    | [] => .ok (x.1, [])
    | _ => .no := by
    unfold evM1
    cases e <;> first | rfl | (simp [notSlot] at hn)
  rw [e1] at q
  cases hr : ev Φ G e c.g with
  | no => rw [hr] at q; exact q.elim
  | ex _ => rw [hr] at q; exact q.elim
  | ok z =>
    obtain ⟨m, T⟩ := z
    rw [hr] at q
    simp only [Res.bind_ok] at q
    split at q
    · rename_i hnr
      intro v H1 s1 p1
      have p2 := p1.nrm
      rw [hnr] at p2
      obtain ⟨S, A, g, r, nd, hA⟩ := p2
      have rs : RMs X.K C H1 (fun a => c.S a ∨ S a) [v] [m] (A ++ []) := .cons (r.sub fun a z => .inr z) .nil
      rw [List.append_nil] at rs
      refine q v H1 s1 ⟨fun a => c.S a ∨ S a, A, fun a z => ?_, fun a z => ?_, rs, nd, fun a z => ⟨.inr (hA a z).1, fun y => ?_⟩, fun a z => .inl z⟩
      · rcases z with z | z
        · exact .inl z
        · rcases g.sub a z with z | ⟨i, hi, _⟩ | z
          · exact .inl z
          · simp at hi
          · exact .inr z
      · rcases z with z | z
        · exact fun y => ok.live a z (s1.free y)
        · exact g.live a z
      · rcases y with y | y
        · exact ok.live a y (hA a z).1
        · exact (hA a z).2 y
    · exact q.elim
theorem snd_mcons (hp : plainB x = true) (ha : PE X x (t1v X.K C Φ G a)) (hs : PA X xs (tMv X.K C Φ G es)) : PA X (x :: xs) (tMv X.K C Φ G (.cons a es)) := by
  refine pa_imp (pa_cons ha hs (star_plain hp)) fun σ H Q ⟨c, ok, q⟩ => ?_
  rw [evM] at q
  obtain ⟨⟨m, T⟩, ea, q1⟩ := q.bind
  obtain ⟨⟨ms, U⟩, eb, q2⟩ := q1.bind
  refine ⟨c, ok, ?_⟩
  rw [ea]
  intro v H1 s1 ⟨S1, A1, P1⟩
  refine ⟨c, ok.same s1, ?_⟩
  rw [eb]
  intro vs H2 s2 ⟨S2, A2, P2⟩
  simp only at q2
  split at q2
  · exact q2.elim
  rename_i hdj
  have hTU : ∀ i ∈ T, i ∉ U := fun i hi hu => hdj (by rw [List.any_eq_true]; exact ⟨i, hi, by simpa using hu⟩)
  have lv1 : ∀ a ∈ A1, H1 a ≠ none := fun a h => by
    obtain ⟨o, e, _⟩ := P1.rs.live a h
    rw [e]; simp
  have n12 : ∀ a ∈ A1, a ∉ A2 := fun a h1 h2 => by
    rcases (P2.own a h2).1 with ⟨i, hi, z⟩ | z
    · rcases (P1.own a h1).1 with ⟨j, hj, y⟩ | y
      · have := ok.dj i j a z y
        subst this
        exact hTU _ hj hi
      · obtain ⟨⟨o, e, _⟩, _⟩ := ok.own i a z
        rw [y] at e; cases e
    · exact lv1 a h1 z
  have hr1 : RMs X.K C H2 (fun a => S1 a ∨ S2 a) [v] [m] A1 := P1.rs.mono (S' := fun _ => True) (fun _ z => .inl z) (Kp.of_same s2) (fun _ _ => trivial) fun _ _ => trivial
  have hr2 : RMs X.K C H2 (fun a => S1 a ∨ S2 a) vs ms A2 := P2.rs.mono (S' := fun _ => True) (fun _ z => .inr z) (Kp.of_same (Same.refl H2)) (fun _ _ => trivial) fun _ _ => trivial
  refine q2 _ H2 (s1.trans s2) ⟨fun a => S1 a ∨ S2 a, A1 ++ A2, fun a z => ?_, fun a z => ?_, ?_, List.nodup_append.mpr ⟨P1.nd, P2.nd, fun a h1 b h2 e => n12 a h1 (e ▸ h2)⟩, fun a z => ?_, fun a z => .inl (P1.base a z)⟩
  · rcases z with z | z
    · exact P1.sub a z
    · exact (P2.sub a z).imp_right s1.free
  · rcases z with z | z
    · exact fun y => P1.live a z (s2.free y)
    · exact P2.live a z
  · cases hr1 with
    | cons r t =>
      cases t
      rw [List.append_nil]
      exact .cons r hr2
  · rcases List.mem_append.mp z with z | z
    · refine ⟨(P1.own a z).1.imp_left fun ⟨i, hi, y⟩ => ⟨i, List.mem_append_left _ hi, y⟩, fun y => ?_⟩
      rcases y with y | y
      · exact (P1.own a z).2 y
      · rcases P2.sub a y with y | y
        · exact (P1.own a z).2 (P1.base a y)
        · exact lv1 a z y
    · refine ⟨(P2.own a z).1.elim (fun ⟨i, hi, y⟩ => .inl ⟨i, List.mem_append_right _ hi, y⟩) fun y => .inr (s1.free y), fun y => ?_⟩
      rcases y with y | y
      · rcases P1.sub a y with y2 | y2
        · exact (P2.own a z).2 (P2.base a y2)
        · rcases (P2.own a z).1 with ⟨i, _, w⟩ | w
          · obtain ⟨⟨o, e, _⟩, _⟩ := ok.own i a w
            rw [y2] at e; cases e
          · exact P1.live a y w
      · exact (P2.own a z).2 y
theorem evM_length : ∀ (es : Es) {g : Gm} {ms : List M} {T : Tn}, evM Φ G es g = .ok (ms, T) → ms.length = es.len
  | .nil, _, _, _, h => by rw [evM] at h; cases h; rfl
  | .cons e es, g, ms, T, h => by
    rw [evM] at h
    obtain ⟨x, _, h⟩ := Res.bind_eq_ok h
    obtain ⟨y, hy, h⟩ := Res.bind_eq_ok h
    split at h
    · cases h
    · cases h
      have := evM_length es (ms := y.1) (T := y.2) hy
      rw [List.length_cons, this]; rfl
theorem snd_retT {k1 : Nat} {p1 : Pos} (hl : es.len < 1000) (hs : PA X xs (tMv X.K C Φ G es)) : PS X (.Return (some (.Tuple xs k1 p1)) pos) (tSv X.K C Φ G W (.retT es)) := by
  refine ps_imp (ps_ret (pe_tup hs)) fun E σ H ⟨bs, c, ok, fk, q⟩ => ?_
  rw [evS] at q
  obtain ⟨⟨ms, T⟩, ea, q1⟩ := q.bind
  refine ⟨c, ok, ?_⟩
  rw [ea]
  intro vs H1 s1 ⟨S, A, P⟩
  refine ⟨?_, fun p np => ?_⟩
  · rw [P.rs.length, evM_length es ea]; exact Nat.le_of_lt (Nat.lt_trans hl (Nat.lt_of_lt_of_le (by decide) lim_size))
  · have s2 := same_upd (o := HO.tup vs) np
    have rs' : RMs X.K C (upd H1 p (.tup vs)) S vs ms A := P.rs.mono (S' := fun _ => True) (fun _ s => s) (Kp.of_same s2) (fun _ _ => trivial) fun _ _ => trivial
    refine q1 (.ref p) (upd H1 p (.tup vs)) ⟨S, A, fk.same.trans (s1.trans s2), .tup (.inl (.inl upd_same)) rs', P.nd, fun a z => ⟨?_, (P.own a z).2⟩, fun a z => ?_, fun a z y => P.live a z (s2.free y)⟩
    · rcases (P.own a z).1 with ⟨i, _, w⟩ | w
      · exact fk.own i a w
      · exact fk.same.free w
    · rcases P.sub a z with w | w
      · exact fk.sub a w
      · exact .inr (fk.same.free w)
theorem snd_appT (cx : Ctx X CX C k Φ G bl N sc) {i : Nat} {ap p' p2 : Pos} (hn : nmOk N sc n i = true) (hl : (ap.endLine == p.line) = true) (hp1 : plainB x1 = true) (hp : plainB x2 = true) (ha : PE X x1 (tEv X.K C Φ G a)) (hb : PE X x2 (tEv X.K C Φ G b)) :
    PS X (.Expr (.Call (.Attribute (.Subscript (.Name n p') x1 p2) "append" ap) [x2] [] p) pos) (tSv X.K C Φ G W (.appT i a b)) := by
  obtain ⟨h1, h2, h3, h4⟩ := cx.vis hn
  have few : ((backTo p (starEach [x2] X.env)).all (fun x => !x.1) && (backToKw p (keywordEach [] X.env)).all (fun x => x.1.isSome) && decide (([x2] : List Expr).length + ([] : List Keyword).length + (if ([] : List Keyword).isEmpty then 0 else 1) < 30)) = true := by
    rw [star_plain hp]; rfl
  refine ps_imp (ps_expr (pe_bm PySem.F.plainAttrs_list PySem.F.slot_list_append PySem.F.type_list_append mt_append (pe_ix ix_tup (pe_var (pos := p') h1 h2 h3 h4) ha (ix_plain hp1)) (pa_cons hb pa_nil (star_plain hp)) (base_plain rfl) few hl (star_plain hp) rfl) (swaps_plain rfl)) fun E σ H ⟨bs, c, ok, fk, q⟩ => ?_
  rw [evS] at q
  obtain ⟨⟨m, T⟩, ea, q1⟩ := q.bind
  obtain ⟨⟨m', T'⟩, eb, q2⟩ := q1.bind
  unfold appTR at q2
  split at q2
  · rename_i ms z hg hz
    obtain ⟨qi, eq, q3⟩ := q2.bind
    have eq := Res.of_ok eq
    split at q3
    · rename_i ds hds
      split at q3
      · rename_i hfl
        obtain ⟨v0, e0, r0⟩ := ok.slot i _ hg
        have ndi := ok.nd i
        have owi := ok.own i
        generalize hA : c.fp i = A0 at r0 ndi owi
        cases r0 with
        | @tup pl vs _ A sq rs =>
        refine ⟨_, e0, c, ok, ?_⟩
        rw [ea]
        intro y H1 s1 p1
        have ok1 := ok.same s1
        have nS : ∀ a ∈ A0, ¬ c.S a := fun a h => (owi a h).2
        have rs1 : RMs X.K C H1 c.S vs ms A0 := rs.mono (S' := fun _ => True) (fun _ s => s) (Kp.of_same s1) (fun _ _ => trivial) fun _ _ => trivial
        obtain ⟨bq, ws, hbm, e1, e2, rws, upd_⟩ := rs1.upd ndi nS hds
        have hlen : vs.length = ms.length := rs.length
        refine ⟨pl, vs, z, .ref bq, rfl, (p1.as hz).ofI, (Kp.of_same (S := fun _ => False) s1).sqT sq, ?_, ⟨.inl ⟨rfl, ws, SqL.of e2⟩, c, ok1, ?_⟩⟩
        · unfold L2.atI; rw [hlen, eq]; exact e1
        rw [eb]
        intro w H2 s2 p2
        have ok2 := ok1.same s2
        have fk2 := (fk.st s1).st s2
        have e22 := s2 _ _ e2
        have rs2 : RMs X.K C H2 c.S vs ms A0 := rs1.mono (S' := fun _ => True) (fun _ s => s) (Kp.of_same s2) (fun _ _ => trivial) fun _ _ => trivial
        obtain ⟨bq', ws', hb', e1', e2', rws', upd2⟩ := rs2.upd ndi nS hds
        rw [e1] at e1'
        cases e1'
        rw [e22] at e2'
        cases e2'
        have hl2 : ws.length = ds.length := rws'.length
        obtain ⟨S3, g3, r3⟩ := p2.rd
        have ry : RD X.K C H2 c.S w m'.toD := r3.flat (Kp.of_same (Same.refl H2)) hfl.1
        have hbf : bq ∈ c.fp i := by rw [hA]; exact hbm
        refine ⟨bq, ws, w, rfl, rfl, e22, by rw [hl2]; exact lim_lt hfl.2, ?_⟩
        have new := upd2 (ws ++ [w]) (ds ++ [m'.toD]) (rws'.append (.cons ry .nil))
        refine q3 _ σ _ rfl (ok2.wrT hbf e0 e22 rfl rfl ?_) (fk2.wrT ok2 hbf e22 rfl)
        rw [hA]
        exact .tup (((Kp.of_same (S := fun _ => False) (s1.trans s2)).trans (Kp.upd e22 rfl fun z => z)).sqT sq) new
      · exact q3.elim
    · exact q3.elim
  · exact q2.elim
end
end Ev

set_option maxRecDepth 100000
set_option maxHeartbeats 4000000
/-! The look at a text: is it this program? And: then it does what the program means. -/
namespace Ev
open PySem PySem.Spec PyProof.Rows L2

def chkC : D → Expr → Bool
  | .int i, .Constant (.int j) _ _ => i == j
  | .str x, .Constant (.str y) _ _ => decide (x = y)
  | .bl a, .Constant (.bool b) _ _ => a == b
  | .non, .Constant .none _ _ => true
  | _, _ => false
def ownN : List Nat → List Expr → List (Str × Nat)
  | i :: is, .Name x _ :: es => (x, i) :: ownN is es
  | _, _ => []
def ownOf : Tg → Expr → List (Str × Nat)
  | .nm i, .Name x _ => [(x, i)]
  | .tp is, .Tuple es _ _ => ownN is es
  | _, _ => []
def oneE : Es → Bool
  | .cons _ .nil => true
  | _ => false
def biOne : Bi → Bool
  | .len => true
  | .lst => true
  | .tup => true
  | .srt => true
  | _ => false
def asOne : List Expr → Option Expr
  | [x] => some x
  | _ => none
def asName : Expr → Option Str
  | .Name n _ => some n
  | _ => none
def asSub : Expr → Option (Str × Expr)
  | .Subscript (.Name n _) x1 _ => some (n, x1)
  | _ => none
def asPopS : Expr → Option (Str × Expr × Str × Pos × Expr × Pos)
  | .Call (.Attribute (.Subscript (.Name n _) x1 _) f ap) [x2] [] p => some (n, x1, f, ap, x2, p)
  | _ => none
theorem asPopS_eq {x x1 x2 : Expr} {n f : Str} {ap p : Pos} (h : asPopS x = some (n, x1, f, ap, x2, p)) : ∃ p1 p2, x = .Call (.Attribute (.Subscript (.Name n p1) x1 p2) f ap) [x2] [] p := by
  unfold asPopS at h
  split at h
  · cases h; exact ⟨_, _, rfl⟩
  · cases h
def asDc : Expr → Option (Expr × Expr × Expr × Expr × Scope)
  | .DictComp x1 x2 [⟨tg, iter, [], 0⟩] scope _ => some (x1, x2, tg, iter, scope)
  | _ => none
theorem asDc_eq {x x1 x2 tg iter : Expr} {scope : Scope} (h : asDc x = some (x1, x2, tg, iter, scope)) : ∃ p, x = .DictComp x1 x2 [⟨tg, iter, [], 0⟩] scope p := by
  unfold asDc at h
  split at h
  · cases h; exact ⟨_, rfl⟩
  · cases h
def asTwo : List Expr → Option (Str × Str)
  | [.Tuple [.Name n p, .Name m q] _ _] => if p.line = q.line then some (n, m) else none
  | _ => none
def asPair : Expr → Option (Expr × Expr)
  | .Tuple [x, y] _ _ => some (x, y)
  | _ => none
theorem asTwo_eq {ts : List Expr} {n m : Str} (h : asTwo ts = some (n, m)) : ∃ p q k pt, ts = [.Tuple [.Name n p, .Name m q] k pt] ∧ p.line = q.line := by
  unfold asTwo at h
  split at h
  · split at h
    · rename_i e; cases h; exact ⟨_, _, _, _, rfl, e⟩
    · cases h
  · cases h
theorem asPair_eq {x y z : Expr} (h : asPair x = some (y, z)) : ∃ k pt, x = .Tuple [y, z] k pt := by
  unfold asPair at h
  split at h
  · cases h; exact ⟨_, _, rfl⟩
  · cases h
def asCl : Expr → Option (Str × Expr × List Expr)
  | .Call (.Name m _) (z :: zs) [] _ => some (m, z, zs)
  | _ => none
theorem asCl_eq {x z : Expr} {m : Str} {zs : List Expr} (h : asCl x = some (m, z, zs)) : ∃ p q, x = .Call (.Name m p) (z :: zs) [] q := by
  unfold asCl at h
  split at h
  · cases h; exact ⟨_, _, rfl⟩
  · cases h
def Es.app : Es → Es → Es
  | .nil, ms => ms
  | .cons e es, ms => .cons e (es.app ms)
def asMeth : Expr → Option (Str × Str × Pos × List Expr × Pos)
  | .Call (.Attribute (.Name n _) f ap) xs [] p => some (n, f, ap, xs, p)
  | _ => none
theorem asOne_eq {ts : List Expr} {x : Expr} (h : asOne ts = some x) : ts = [x] := by
  unfold asOne at h
  split at h
  · cases h; rfl
  · cases h
theorem asName_eq {x : Expr} {n : Str} (h : asName x = some n) : ∃ p, x = .Name n p := by
  unfold asName at h
  split at h
  · cases h; exact ⟨_, rfl⟩
  · cases h
theorem asSub_eq {x x1 : Expr} {n : Str} (h : asSub x = some (n, x1)) : ∃ p p2, x = .Subscript (.Name n p) x1 p2 := by
  unfold asSub at h
  split at h
  · cases h; exact ⟨_, _, rfl⟩
  · cases h
theorem asMeth_eq {x : Expr} {n f : Str} {ap p : Pos} {xs : List Expr} (h : asMeth x = some (n, f, ap, xs, p)) : ∃ p', x = .Call (.Attribute (.Name n p') f ap) xs [] p := by
  unfold asMeth at h
  split at h
  · cases h; exact ⟨_, rfl⟩
  · cases h
def notMk : E → Bool
  | .mk _ => false
  | _ => true
def asSub2 : Expr → Option (Str × Expr × Expr)
  | .Subscript (.Subscript (.Name n _) x1 _) x2 _ => some (n, x1, x2)
  | _ => none
theorem asSub2_eq {x x1 x2 : Expr} {n : Str} (h : asSub2 x = some (n, x1, x2)) : ∃ p p2 p3, x = .Subscript (.Subscript (.Name n p) x1 p2) x2 p3 := by
  unfold asSub2 at h
  split at h
  · cases h; exact ⟨_, _, _, rfl⟩
  · cases h
/-- m = n[..]; if ..: m.append(..) else: m.pop() -/
def asAli : Stmt → Stmt → Option (Str × Str × Expr × Expr × Str × Str × Pos × Expr × Pos × Str × Str × Pos × Pos)
  | .Assign [.Name m _] (.Subscript (.Name n _) x1 _) _, .If y1 [.Expr (.Call (.Attribute (.Name m1 _) f1 ap1) [y2] [] p1) _] [.Expr (.Call (.Attribute (.Name m2 _) f2 ap2) [] [] p2) _] _ => some (m, n, x1, y1, m1, f1, ap1, y2, p1, m2, f2, ap2, p2)
  | _, _ => none
theorem asAli_eq {x y : Stmt} {m n m1 f1 m2 f2 : Str} {x1 y1 y2 : Expr} {ap1 p1 ap2 p2 : Pos} (h : asAli x y = some (m, n, x1, y1, m1, f1, ap1, y2, p1, m2, f2, ap2, p2)) :
    ∃ q1 q2 q3 q4 q5 q6 q7 q8 q9, x = .Assign [.Name m q1] (.Subscript (.Name n q2) x1 q3) q4 ∧ y = .If y1 [.Expr (.Call (.Attribute (.Name m1 q5) f1 ap1) [y2] [] p1) q6] [.Expr (.Call (.Attribute (.Name m2 q7) f2 ap2) [] [] p2) q8] q9 := by
  unfold asAli at h
  split at h
  · cases h; exact ⟨_, _, _, _, _, _, _, _, _, rfl, rfl⟩
  · cases h
def asCE : List Stmt → Option (Str × Expr × List Expr)
  | [.Expr (.Call (.Name n _) (x :: xs) [] _) _] => some (n, x, xs)
  | _ => none
theorem asCE_eq {st : List Stmt} {n : Str} {x : Expr} {xs : List Expr} (h : asCE st = some (n, x, xs)) : ∃ p pos pos2, st = [.Expr (.Call (.Name n p) (x :: xs) [] pos) pos2] := by
  unfold asCE at h
  split at h
  · cases h; exact ⟨_, _, _, rfl⟩
  · cases h
def asIf1 : List Stmt → Option (Expr × List Stmt × List Stmt)
  | [.If x xs ys _] => some (x, xs, ys)
  | _ => none
theorem asIf1_eq {st : List Stmt} {x : Expr} {xs ys : List Stmt} (h : asIf1 st = some (x, xs, ys)) : ∃ pos, st = [.If x xs ys pos] := by
  unfold asIf1 at h
  split at h
  · cases h; exact ⟨_, rfl⟩
  · cases h
/-- if ..: raise n('..') -/
def asGd : List Stmt → Option (Expr × Str)
  | .If x [.Raise (some (.Call (.Name n _) [.Constant (.str _) _ _] [] _)) none _] [] _ :: _ => some (x, n)
  | _ => none
theorem asGd_eq {st : List Stmt} {x : Expr} {n : Str} (h : asGd st = some (x, n)) : ∃ p1 msg j p2 p3 p4 p5 rest, st = .If x [.Raise (some (.Call (.Name n p1) [.Constant (.str msg) j p2] [] p3)) none p4] [] p5 :: rest := by
  unfold asGd at h
  split at h
  · cases h; exact ⟨_, _, _, _, _, _, _, _, rfl⟩
  · cases h
/-- try: .. except x as n: return isinstance(n, c1) and not isinstance(n, c2) and not isinstance(n, c3) -/
def asTry : Stmt → Option (List Stmt × Str × Str × (Str × Str × Str) × (Str × Str × Str) × (Str × Str × Str))
  | .Try body [.ExceptHandler (some (.Name x _)) (some n) [.Return (some (.BoolOp .And [.Call (.Name i1 _) [.Name e1 _, .Name c1 _] [] _, .UnaryOp .Not (.Call (.Name i2 _) [.Name e2 _, .Name c2 _] [] _) _, .UnaryOp .Not (.Call (.Name i3 _) [.Name e3 _, .Name c3 _] [] _) _] _)) _] _] [] [] _ => some (body, x, n, (i1, e1, c1), (i2, e2, c2), (i3, e3, c3))
  | _ => none
theorem asTry_eq {st : Stmt} {body : List Stmt} {x n i1 e1 c1 i2 e2 c2 i3 e3 c3 : Str} (h : asTry st = some (body, x, n, (i1, e1, c1), (i2, e2, c2), (i3, e3, c3))) :
    ∃ q1 q2 q3 q4 q5 q6 q7 q8 q9 q10 q11 q12 q13 q14 q15 q16 q17 q18 q19, st = .Try body [.ExceptHandler (some (.Name x q1)) (some n) [.Return (some (.BoolOp .And [.Call (.Name i1 q2) [.Name e1 q3, .Name c1 q4] [] q5, .UnaryOp .Not (.Call (.Name i2 q6) [.Name e2 q7, .Name c2 q8] [] q9) q10, .UnaryOp .Not (.Call (.Name i3 q11) [.Name e3 q12, .Name c3 q13] [] q14) q15] q16)) q17] q18] [] [] q19 := by
  unfold asTry at h
  split at h
  · cases h; exact ⟨_, _, _, _, _, _, _, _, _, _, _, _, _, _, _, _, _, _, _, rfl⟩
  · cases h
section
variable (N : List Str) (bl : List String) (nC : Nat)
mutual
def chkE : E → Scope → Expr → Bool
  | .cst d, _, x => chkC d x
  | .slot i, sc, .Name x _ => nmOk N sc x i
  | .glob f, sc, .Name x _ => glOk sc x f
  | .tup es, sc, .Tuple xs _ _ => decide (es.len < 1000) && chkEs es sc xs
  | .tupN es, sc, .Tuple xs _ _ => decide (es.len < 1000) && chkEs es sc xs
  | .lst es, sc, .List xs _ => decide (es.len < 1000) && chkEs es sc xs
  | .bin o a b, sc, .BinOp x1 op x2 _ => decide (op = pyOp o) && chkE a sc x1 && chkE b sc x2
  | .neg a, sc, .UnaryOp op x _ => decide (op = .USub) && chkE a sc x
  | .cmp o a b, sc, .Compare x1 [op] [x2] _ => decide (op = pyCp o) && plainB x2 && chkE a sc x1 && chkE b sc x2
  | .chain o p a b c, sc, .Compare x1 [op, op2] [x2, x3] _ => decide (op = pyCp o) && decide (op2 = pyCp p) && plainB x2 && plainB x3 && chkE a sc x1 && chkE b sc x2 && chkE c sc x3
  | .and a b, sc, .BoolOp op (x1 :: x2 :: xs) pos => decide (op = .And) && chkE a sc x1 && (match xs with
    | [] => chkE b sc x2
    | _ => chkE b sc (.BoolOp .And (x2 :: xs) pos))
  | .or a b, sc, .BoolOp op (x1 :: x2 :: xs) pos => decide (op = .Or) && chkE a sc x1 && (match xs with
    | [] => chkE b sc x2
    | _ => chkE b sc (.BoolOp .Or (x2 :: xs) pos))
  | .not a, sc, .UnaryOp op x _ => decide (op = .Not) && chkE a sc x
  | .ite c a b, sc, .IfExp x1 x2 x3 _ => chkE c sc x1 && chkE a sc x2 && chkE b sc x3
  | .ix a k, sc, .Subscript x1 x2 _ => plainB x2 && chkE a sc x1 && chkE k sc x2
  | .sl a lo hi, sc, .Subscript x1 (.Slice l h none _) _ => chkE a sc x1 && chkEo lo sc l && chkEo hi sc h
  | .rev a, sc, .Subscript x1 (.Slice none none (some (.UnaryOp op (.Constant (.int j) _ _) _)) _) _ => decide (op = .USub) && decide (j = 1) && chkE a sc x1
  | .fld a c j, sc, .Attribute x1 f _ => decide ((fsOf c).idxOf f = j ∧ j < (fsOf c).length) && plainO x1 && chkE a sc x1
  | .call f es, sc, .Call (.Name n _) xs [] _ => !pnm f && glOk sc n f && xs.all plainB && chkEs es sc xs
  | .bi b es, sc, .Call (.Name n _) xs [] _ => glOk sc n (pyB b) && decide (pyB b ∈ bl) && xs.all plainB && !xs.isEmpty && (!biOne b || oneE es) && chkEs es sc xs
  | .isi a t, sc, .Call (.Name n _) [x, .Name n2 _] [] _ => glOk sc n "isinstance" && decide ("isinstance" ∈ bl) && glOk sc n2 (tyNm t) && (match t with
    | .cls c => decide (c < nC)
    | t => decide (tyNm t ∈ bl)) && plainB x && chkE a sc x
  | .idx a b, sc, .Call (.Attribute x1 f ap) [x2] [] p => decide (f = "index") && plainO x1 && (ap.endLine == p.line) && plainB x2 && chkE a sc x1 && chkE b sc x2
  | .compO elt t it, sc, .ListComp x [⟨tg, iter, ifs, as⟩] scope _ => decide (as = 0) && ifs.isEmpty && plainB iter && chkIt it sc iter && blkC N sc scope (ownOf t tg) && chkT N scope t tg && chkE elt scope x
  | .din a i, sc, .Compare x1 [op] [.Name n _] _ => decide (op = .In) && nmOk N sc n i && chkE a sc x1
  | .dat i a, sc, .Subscript (.Name n _) x2 _ => nmOk N sc n i && plainB x2 && chkE a sc x2
  | .mk a, sc, .ListComp y gs scope pos => chkE a sc (.ListComp y gs scope pos)
  | .tupO a, sc, .Call (.Name n _) [x] [] _ => glOk sc n "tuple" && decide ("tuple" ∈ bl) && plainB x && chkE a sc x
  | .bits a, sc, .Call (.Attribute x f ap) [] [] p => decide (f = "bit_length") && plainO x && (ap.endLine == p.line) && chkE a sc x
  | .comp elt t it c, sc, .ListComp x [⟨tg, iter, ifs, as⟩] scope _ => decide (as = 0) && plainB iter && chkIt it sc iter && blkC N sc scope (ownOf t tg) && chkT N scope t tg && chkE elt scope x && (match ifs with
    | [] => chkEo c scope none
    | [y] => chkEo c scope (some y)
    | _ => false)
  | _, _, _ => false
def chkEs : Es → Scope → List Expr → Bool
  | .nil, _, [] => true
  | .cons e es, sc, x :: xs => plainB x && chkE e sc x && chkEs es sc xs
  | _, _, _ => false
def chkEo : Eo → Scope → Option Expr → Bool
  | .no, _, none => true
  | .yes e, sc, some x => chkE e sc x
  | _, _, _ => false
def chkIt : It → Scope → Expr → Bool
  | .over e, sc, x => chkE e sc x
  | .rng a, sc, .Call (.Name n _) [x] [] _ => glOk sc n "range" && decide ("range" ∈ bl) && plainB x && chkE a sc x
  | .rng2 a b, sc, .Call (.Name n _) [x1, x2] [] _ => glOk sc n "range" && decide ("range" ∈ bl) && plainB x1 && plainB x2 && chkE a sc x1 && chkE b sc x2
  | _, _, _ => false
end
def chkX (sc : Scope) : XB → List Stmt → Bool
  | .call fx es, st => (match asCE st with
    | some (n, x, xs) => xnm fx && glOk sc n (xnf fx) && plainB x && xs.all plainB && chkEs N bl nC es sc (x :: xs)
    | none => false)
  | .ite c a b, st => (match asIf1 st with
    | some (x, xs, ys) => chkE N bl nC c sc x && chkX sc a xs && chkX sc b ys
    | none => false)
mutual
def chkJ (sc : Scope) : J → Stmt → Bool
  | .app n e, .Expr x _ => match asMeth x with
    | some (m, f, ap, xs, p) => (match xs with
      | [y] => decide (f = "append") && nmOk N sc m n && (ap.endLine == p.line) && plainB y && chkE N bl nC e sc y
      | _ => false)
    | none => false
  | .for n is b, .For tg x xs ys _ => (match asName x with
    | some m => nmOk N sc m n && ys.isEmpty && chkT N sc (.tp is) tg && chkJs sc b xs
    | none => false)
  | _, _ => false
def chkJs (sc : Scope) : Js → List Stmt → Bool
  | .nil, [] => true
  | .cons j r, x :: xs => chkJ sc j x && chkJs sc r xs
  | _, _ => false
end
def takeJs (sc : Scope) : Js → List Stmt → Option (List Stmt)
  | .nil, xs => some xs
  | .cons j r, x :: xs => if chkJ N bl nC sc j x then takeJs sc r xs else none
  | _, _ => none
mutual
def chkS (sc : Scope) : S → Stmt → Bool
  | .set t e, .Assign ts x _ => match asOne ts with
    | some y => (match t with
      | .nm i => (match asName y with
        | some n => stOk N sc n i && (notMk e && chkE N bl nC e sc x)
        | none => false)
      | .tp is => chkT N sc (.tp is) y && notTup x && chkE N bl nC e sc x)
    | none => false
  | .par i j a b, .Assign ts x _ => match asTwo ts, asPair x with
    | some (n, m), some (x1, x2) => decide (N[i]? = some n) && decide (N[j]? = some m) && decide (sc.names.lookup n = some .local) && decide (sc.names.lookup m = some .local) && decide (n ≠ m) && decide (i ≠ j) && plainB x1 && plainB x2 &&
        !(foldedForSure 8 x1 && foldedForSure 8 x2) && !(constantsAlone 8 x1 && constantsAlone 8 x2) && chkE N bl nC a sc x1 && chkE N bl nC b sc x2
    | _, _ => false
  | .app i e, .Expr x _ => match asMeth x with
    | some (n, f, ap, xs, p) => (match xs with
      | [y] => decide (f = "append") && nmOk N sc n i && (ap.endLine == p.line) && plainB y && chkE N bl nC e sc y
      | _ => false)
    | none => false
  | .popL i, .Expr x _ => match asMeth x with
    | some (n, f, ap, xs, p) => decide (f = "pop") && nmOk N sc n i && (ap.endLine == p.line) && xs.isEmpty
    | none => false
  | .seti i a e, .Assign ts x2 _ => match asOne ts with
    | some y => (match asSub y with
      | some (n, x1) => nmOk N sc n i && plainB x1 && chkE N bl nC a sc x1 && chkE N bl nC e sc x2
      | none => false)
    | none => false
  | .popB i a b, .Expr x _ => match asPopS x with
    | some (n, x1, f, ap, x2, p) => decide (f = "pop") && nmOk N sc n i && (ap.endLine == p.line) && plainB x1 && plainB x2 && chkE N bl nC a sc x1 && chkE N bl nC b sc x2
    | none => false
  | .setO is e, .Assign ts x _ => match asOne ts with
    | some y => chkT N sc (.tp is) y && notTup x && chkE N bl nC e sc x
    | none => false
  | .set2 i a b e, .Assign ts x _ => match asOne ts with
    | some y => (match asSub2 y with
      | some (n, x1, x2) => nmOk N sc n i && plainB x1 && plainB x2 && chkE N bl nC a sc x1 && chkE N bl nC b sc x2 && chkE N bl nC e sc x
      | none => false)
    | none => false
  | .appO i e, .Expr x _ => match asMeth x with
    | some (n, f, ap, xs, p) => (match xs with
      | [y] => decide (f = "append") && nmOk N sc n i && (ap.endLine == p.line) && plainB y && chkE N bl nC e sc y
      | _ => false)
    | none => false
  | .dset i t it kx vx, .Assign ts x _ => match asOne ts with
    | some y => (match asName y, asDc x with
      | some n, some (x1, x2, tg, iter, scope) => stOk N sc n i && plainB iter && chkIt N bl nC it sc iter && blkC N sc scope (ownOf t tg) && chkT N scope t tg && chkE N bl nC kx scope x1 && chkE N bl nC vx scope x2
      | _, _ => false)
    | none => false
  | .retT es, .Return (some (.Tuple xs _ _)) _ => decide (es.len < 1000) && chkEs N bl nC es sc xs
  | .appT i a b, .Expr x _ => match asPopS x with
    | some (n, x1, f, ap, x2, p) => decide (f = "append") && nmOk N sc n i && (ap.endLine == p.line) && plainB x1 && plainB x2 && chkE N bl nC a sc x1 && chkE N bl nC b sc x2
    | none => false
  | .expr e, .Expr x _ => plainC x && chkE N bl nC e sc x
  | .ret e, .Return (some x) _ => chkE N bl nC e sc x
  | .retN, .Return none _ => true
  | .ite c a b, .If x xs ys _ => chkE N bl nC c sc x && chkB sc a xs && chkB sc b ys
  | .for t it b, .For tg x xs ys _ => plainB x && ys.isEmpty && chkIt N bl nC it sc x && chkT N sc t tg && chkB sc b xs
  | .while c b, .While x xs ys _ => ys.isEmpty && chkE N bl nC c sc x && chkB sc b xs
  | .brk, .Break _ => true
  | .cont, .Continue _ => true
  | .pass, .Pass _ => true
  | .raiseN, .Raise _ _ _ => true
  | .newO i f es ms, .Assign ts x _ => match asOne ts with
    | some y => (match asName y, asCl x with
      | some n, some (m, z, zs) => stOk N sc n i && knm f && glOk sc m (knf f) && plainB z && zs.all plainB && chkEs N bl nC (es.app ms) sc (z :: zs)
      | _, _ => false)
    | none => false
  | .appM i es, .Expr x _ => match asMeth x with
    | some (n, f, ap, xs, p) => (match xs with
      | [.Tuple ys _ _] => decide (f = "append") && nmOk N sc n i && (ap.endLine == p.line) && decide (es.len < 1000) && chkEs N bl nC es sc ys
      | _ => false)
    | none => false
  | .tryX i b, st => (match asTry st with
    | some (body, x, n, (i1, e1, c1), (i2, e2, c2), (i3, e3, c3)) => decide (N[i]? = some n) && decide (sc.names.lookup n = some .local) && nmOk N sc e1 i && nmOk N sc e2 i && nmOk N sc e3 i && glOk sc i1 "isinstance" && glOk sc i2 "isinstance" && glOk sc i3 "isinstance" && decide ("isinstance" ∈ bl) &&
        glOk sc x "BeenError" && glOk sc c1 "NotAllowed" && glOk sc c2 "BadText" && glOk sc c3 "UnknownName" && chkX N bl nC sc b body
    | none => false)
  | _, _ => false
def chkB (sc : Scope) : Ss → List Stmt → Bool
  | .nil, [] => true
  | .wrk n js r, sts => (match takeJs N bl nC sc js sts with
    | some rest => chkB sc r rest
    | none => false)
  | .cons s r, x :: xs => chkS sc s x && chkB sc r xs
  | .ali i j a c e r, x :: y :: xs => (match asAli x y with
    | some (m, n, x1, y1, m1, f1, ap1, y2, p1, m2, f2, ap2, p2) => nmOk N sc n i && stOk N sc m j && nmOk N sc m1 j && nmOk N sc m2 j && decide (i ≠ j) && decide (f1 = "append") && decide (f2 = "pop") && (ap1.endLine == p1.line) && (ap2.endLine == p2.line) && plainB x1 && plainB y2 &&
        chkE N bl nC a sc x1 && chkE N bl nC c sc y1 && chkE N bl nC e sc y2
    | none => false) && chkB sc r xs
  | _, _ => false
end
end

section
variable {X : Cx} {CX : CXT} {C : Kls} {k W : Nat} {Φ : String → List D → Res M} {G : String → Option D} {bl : List String} {N : List Str} {sc : Scope}
theorem lookup_rel {f : Str → NameKind → Bool} : ∀ (names : List (Str × NameKind)) (x : Str), (names.map fun (n, k) => if f n k then (n, NameKind.cell) else (n, k)).lookup x = (names.lookup x).map fun k => if f x k then NameKind.cell else k
  | [], x => rfl
  | (n, k) :: r, x => by
    have ih := lookup_rel (f := f) r x
    rw [List.map_cons]
    by_cases hf : f n k = true
    · simp only [hf, if_true]
      rw [List.lookup_cons, List.lookup_cons]
      by_cases e : x = n
      · subst e; simp [hf]
      · rw [show (x == n) = false by simp [e]]; exact ih
    · simp only [hf, if_false, Bool.false_eq_true]
      rw [List.lookup_cons, List.lookup_cons]
      by_cases e : x = n
      · subst e; simp [hf]
      · rw [show (x == n) = false by simp [e]]; exact ih
theorem Ctx.blk (cx : Ctx X CX C k Φ G bl N sc) {scope : Scope} (hk : scope.kind = .function) (s : Shared) (H : Hp) (Ca : Addr) (cl : List (Str × Addr)) (fp : List Addr) : Ctx (X.blk s H scope (compEnvC scope cl Ca X.env) fp) CX C k Φ G bl N scope := by
  have lk : ∀ x, (X.blk s H scope (compEnvC scope cl Ca X.env) fp).env.scope.names.lookup x = (scope.names.lookup x).map fun k => if (k == .free && X.env.scope.kind == .function && X.env.kindOf x == some .cell) then NameKind.cell else k := fun x =>
    lookup_rel (f := fun n k => (k == .free && X.env.scope.kind == .function && X.env.kindOf n == some .cell)) scope.names x
  refine ⟨cx.wd, cx.hN, cx.nd, cx.calm, cx.room, cx.pass, fun x h => ?_, fun x h => ?_, fun x h => ?_, fun x h => ?_, fun x h => ?_, hk⟩
  · rw [lk, h]; rfl
  · rw [lk, h]; rfl
  · rw [lk, h]
    show some (if _ then NameKind.cell else NameKind.free) = _ ∨ some (if _ then NameKind.cell else NameKind.free) = _
    split
    · exact .inr rfl
    · exact .inl rfl
  · rw [lk, h]; rfl
  · show (scope.names.lookup x == some .cell) = true
    rw [h]; rfl
theorem blkOk_of (cx : Ctx X CX C k Φ G bl N sc) {scope : Scope} {own : List (Str × Nat)} (h : blkC N sc scope own = true) : BlkOk X.N X.env.scope scope own := by
  have b := blkOk_by h
  rw [cx.hN]
  exact ⟨b.kind, b.uniq, b.ix, fun y hy e => (b.free y hy e).elim (fun z => .inl (cx.cel _ z)) fun z => (cx.fre _ z).symm, b.own⟩
theorem ownN_ix : ∀ {is : List Nat} {es : List Expr}, chkNs N sc is es = true → (ownN is es).map (·.2) = is
  | [], [], _ => rfl
  | i :: is, .Name x p :: es, h => by
    rw [chkNs, Bool.and_eq_true] at h
    rw [ownN, List.map_cons, ownN_ix h.2]
  | [], _ :: _, h => by simp [chkNs] at h
  | _ :: _, [], h => by simp [chkNs] at h
theorem own_ix {t : Tg} {tg : Expr} (h : chkT N sc t tg = true) : (ownOf t tg).map (·.2) = t.ix := by
  cases t with
  | nm i => cases tg <;> first | rfl | (simp [chkT] at h)
  | tp is => cases tg <;> first | exact ownN_ix h | (simp [chkT] at h)
variable {x tg iter : Expr} {ifs : List Expr} {scope : Scope} {pos : Pos} {a e : E}
/-- a comprehension's own reading -/
theorem comp_imp {t : Tg} {i : Ev.It} {c : Eo} {tt : TT} (htt : ∀ cf σ H Q, Ok X.K C cf σ H → RTv (tvo Φ G c cf.g) cf H Q → tt σ H Q) {σ : L2.St} {H : Hp} {Q : VK} (h : tEv X.K C Φ G (.comp e t i c) σ H Q) :
    tLc (tIc X.K C Φ G i) (tgR X.K t) tt (tEv X.K C Φ G e) t.ix σ H Q := by
  obtain ⟨cf, ok, q⟩ := h
  rw [ev] at q
  obtain ⟨⟨ds, T⟩, ei, q1⟩ := q.bind
  obtain ⟨os, eo, q2⟩ := q1.bind
  exact snd_comp_core htt (fun cf σ H Q ok q => ⟨cf, ok, q⟩) ok ei eo q2
theorem compO_imp {t : Tg} {i : Ev.It} {σ : L2.St} {H : Hp} {Q : VK} (h : tEv X.K C Φ G (.compO e t i) σ H Q) :
    tLc (tIc X.K C Φ G i) (tgR X.K t) tYes (tEv X.K C Φ G e) t.ix σ H Q := by
  obtain ⟨cf, ok, q⟩ := h
  rw [ev] at q
  obtain ⟨⟨ds, T⟩, ei, q1⟩ := q.bind
  obtain ⟨os, eo, q2⟩ := q1.bind
  exact snd_compO_core (fun cf σ H Q ok q => ⟨cf, ok, q⟩) ok ei eo q2
end
end Ev

set_option maxRecDepth 100000
set_option maxHeartbeats 8000000
/-! The theorem: a text that passes the look does what the program means. -/
namespace Ev
open PySem PySem.Spec PyProof.Rows L2
section
variable {X : Cx} {CX : CXT} {C : Kls} {k W : Nat} {Φ : String → List D → Res M} {G : String → Option D} {bl : List String} {N : List Str} {sc : Scope}
theorem plainB_of {e : E} {x : Expr} (h : chkE N bl C.n e sc x = true) : plainB x = true := by
  cases x <;> first | rfl | skip
  all_goals (cases e <;> simp [chkE] at h)
  all_goals (rename_i d; cases d <;> simp [chkC] at h)
theorem plainT_of {e : E} {x : Expr} (ht : testE e = true) (h : chkE N bl C.n e sc x = true) : plainT x = true ∨ (∃ o a b, e = .cmp o a b) ∨ (∃ o p a b c, e = .chain o p a b c) := by
  cases e <;> first | (simp [testE] at ht; done) | (exact .inr (.inl ⟨_, _, _, rfl⟩)) | (exact .inr (.inr ⟨_, _, _, _, _, rfl⟩)) | skip
  all_goals left
  case cst d =>
    cases x <;> first | rfl | (cases d <;> simp [chkE, chkC] at h)
  case neg a =>
    cases x <;> first | rfl | (simp [chkE] at h; done) | skip
    rename_i op _ _
    cases op <;> first | rfl | (simp [chkE] at h)
  all_goals (cases x <;> first | rfl | (simp [chkE] at h; done))
theorem sL_of (cx : Ctx X CX C k Φ G bl N sc) {e : E} {x : Expr} (h : chkE N bl C.n e sc x = true) (he : PE X x (tEv X.K C Φ G e)) : PE X x (tLv X.K C Φ G e) := by
  by_cases hn : notSlot e = true
  · exact snd_lv he hn
  · cases e <;> first | (exact absurd rfl hn) | skip
    cases x <;> first | (simp [chkE] at h; done) | skip
    exact snd_slotL cx (by simpa [chkE] using h)
theorem hu_ok (cx : Ctx X CX C k Φ G bl N sc) : X.A.units + 64 < cLine := cx.room.units
theorem oneE_of {es : Es} (h : oneE es = true) : ∃ e, es = .cons e .nil := by
  cases es with
  | nil => cases h
  | cons e es => cases es with
    | nil => exact ⟨e, rfl⟩
    | cons _ _ => cases h
def tTo (K : PySem.W.Frag) (C : Kls) (Φ : String → List D → Res M) (G : String → Option D) (e : Eo) : TT := fun σ H Q => ∃ c, Ok K C c σ H ∧ RTv (tvo Φ G e c.g) c H Q
mutual
theorem sE : ∀ (e : E) {X : Cx} {sc : Scope} {x : Expr}, Ctx X CX C k Φ G bl N sc → chkE N bl C.n e sc x = true → PE X x (tEv X.K C Φ G e)
  | .cst d, X, sc, x, cx, h => by
    rw [chkE] at h
    cases d <;> first | (simp [chkC] at h; done) | skip
    · cases x <;> first | (simp [chkC] at h; done) | skip
      rename_i cn _ _; cases cn <;> first | (simp [chkC] at h; done) | skip
      exact pe_imp pe_non fun σ H Q ⟨c, ok, q⟩ => by rw [ev] at q; exact q _ H (Same.refl H) epost_non
    · cases x <;> first | (simp [chkC] at h; done) | skip
      rename_i cn _ _; cases cn <;> first | (simp [chkC] at h; done) | skip
      simp only [chkC, beq_iff_eq] at h
      subst h
      exact pe_imp pe_bl fun σ H Q ⟨c, ok, q⟩ => by rw [ev] at q; exact q _ H (Same.refl H) (epost_bl _)
    · cases x <;> first | (simp [chkC] at h; done) | skip
      rename_i cn _ _; cases cn <;> first | (simp [chkC] at h; done) | skip
      simp only [chkC, beq_iff_eq] at h
      subst h
      exact pe_imp pe_int fun σ H Q ⟨c, ok, q⟩ => by rw [ev] at q; exact q _ H (Same.refl H) (epost_int _)
    · cases x <;> first | (simp [chkC] at h; done) | skip
      rename_i cn _ _; cases cn <;> first | (simp [chkC] at h; done) | skip
      simp only [chkC, decide_eq_true_eq] at h
      subst h
      exact pe_imp pe_str fun σ H Q ⟨c, ok, q⟩ => by rw [ev] at q; exact q _ H (Same.refl H) (epost_str _)
  | .slot i, X, sc, x, cx, h => by
    cases x <;> first | (simp [chkE] at h; done) | skip
    exact snd_slot cx (by simpa [chkE] using h)
  | .glob f, X, sc, x, cx, h => by
    cases x <;> first | (simp [chkE] at h; done) | skip
    rw [chkE] at h
    obtain ⟨rfl, hgl, hdb⟩ := cx.gl h
    cases hG : G f with
    | none => exact ⟨fun pins s σ H Q I ⟨c, ok, q⟩ => by rw [ev, hG] at q; exact q.elim⟩
    | some d =>
      obtain ⟨v, u, hm, hr, rd⟩ := cx.wd.gl f d hG
      refine pe_imp (pe_glob hgl hm hr hdb) fun σ H Q ⟨c, ok, q⟩ => ?_
      rw [ev, hG] at q
      exact q _ H (Same.refl H) (.of_rd Gw.nil (rd H _))
  | .tup es, X, sc, x, cx, h => by
    cases x <;> first | (simp [chkE] at h; done) | skip
    simp only [chkE, Bool.and_eq_true, decide_eq_true_eq] at h
    exact snd_tup h.1 (sEs es cx h.2)
  | .tupN es, X, sc, x, cx, h => by
    cases x <;> first | (simp [chkE] at h; done) | skip
    simp only [chkE, Bool.and_eq_true, decide_eq_true_eq] at h
    exact snd_tupN h.1 (sPs es cx h.2)
  | .lst es, X, sc, x, cx, h => by
    cases x <;> first | (simp [chkE] at h; done) | skip
    simp only [chkE, Bool.and_eq_true, decide_eq_true_eq] at h
    exact snd_lst h.1 (sEs es cx h.2)
  | .bin o a b, X, sc, x, cx, h => by
    cases x <;> first | (simp [chkE] at h; done) | skip
    simp only [chkE, Bool.and_eq_true, decide_eq_true_eq] at h
    obtain ⟨⟨rfl, h1⟩, h2⟩ := h
    exact snd_bin (sL_of cx h1 (sE a cx h1)) (sL_of cx h2 (sE b cx h2))
  | .neg a, X, sc, x, cx, h => by
    cases x <;> first | (simp [chkE] at h; done) | skip
    simp only [chkE, Bool.and_eq_true, decide_eq_true_eq] at h
    obtain ⟨rfl, h1⟩ := h
    exact snd_neg (sE a cx h1)
  | .cmp o a b, X, sc, x, cx, h => by
    cases x <;> first | (simp [chkE] at h; done) | skip
    rename_i ops cs _
    cases ops with
    | nil => simp [chkE] at h
    | cons op ops => cases ops with
      | cons _ _ => cases cs with
        | nil => simp [chkE] at h
        | cons _ cs => cases cs <;> simp [chkE] at h
      | nil => cases cs with
        | nil => simp [chkE] at h
        | cons x2 cs => cases cs with
          | cons _ _ => simp [chkE] at h
          | nil =>
            simp only [chkE, Bool.and_eq_true, decide_eq_true_eq] at h
            obtain ⟨⟨⟨rfl, hp⟩, h1⟩, h2⟩ := h
            exact snd_cmp (hu_ok cx) hp (sL_of cx h1 (sE a cx h1)) (sL_of cx h2 (sE b cx h2))
  | .chain o p a b c, X, sc, x, cx, h => by
    cases x <;> first | (simp [chkE] at h; done) | skip
    rename_i ops cs _
    match ops, cs, h with
    | [op, op2], [x2, x3], h =>
      simp only [chkE, Bool.and_eq_true, decide_eq_true_eq] at h
      obtain ⟨⟨⟨⟨⟨⟨rfl, rfl⟩, hp2⟩, hp⟩, h1⟩, h2⟩, h3⟩ := h
      exact snd_chain (hu_ok cx) hp2 hp (sE a cx h1) (sE b cx h2) (sE c cx h3)
    | [], [], h => simp [chkE] at h
    | [], [_], h => simp [chkE] at h
    | [], _ :: _ :: _, h => simp [chkE] at h
    | [_], [], h => simp [chkE] at h
    | [_], [_], h => simp [chkE] at h
    | [_], _ :: _ :: _, h => simp [chkE] at h
    | [_, _], [], h => simp [chkE] at h
    | [_, _], [_], h => simp [chkE] at h
    | [_, _], _ :: _ :: _ :: _, h => simp [chkE] at h
    | _ :: _ :: _ :: _, [], h => simp [chkE] at h
    | _ :: _ :: _ :: _, [_], h => simp [chkE] at h
    | _ :: _ :: _ :: _, _ :: _ :: _, h => simp [chkE] at h
  | .and a b, X, sc, x, cx, h => by
    cases x <;> first | (simp [chkE] at h; done) | skip
    rename_i op xs pos
    match xs, h with
    | x1 :: x2 :: [], h =>
      simp only [chkE, Bool.and_eq_true, decide_eq_true_eq] at h
      obtain ⟨⟨rfl, h1⟩, h2⟩ := h
      exact snd_and (sE a cx h1) (pe_one (sE b cx h2))
    | x1 :: x2 :: x3 :: xs, h =>
      simp only [chkE, Bool.and_eq_true, decide_eq_true_eq] at h
      obtain ⟨⟨rfl, h1⟩, h2⟩ := h
      exact snd_and (sE a cx h1) (sE b cx h2)
    | [], h => simp [chkE] at h
    | [_], h => simp [chkE] at h
  | .or a b, X, sc, x, cx, h => by
    cases x <;> first | (simp [chkE] at h; done) | skip
    rename_i op xs pos
    match xs, h with
    | x1 :: x2 :: [], h =>
      simp only [chkE, Bool.and_eq_true, decide_eq_true_eq] at h
      obtain ⟨⟨rfl, h1⟩, h2⟩ := h
      exact snd_or (sE a cx h1) (pe_one (sE b cx h2))
    | x1 :: x2 :: x3 :: xs, h =>
      simp only [chkE, Bool.and_eq_true, decide_eq_true_eq] at h
      obtain ⟨⟨rfl, h1⟩, h2⟩ := h
      exact snd_or (sE a cx h1) (sE b cx h2)
    | [], h => simp [chkE] at h
    | [_], h => simp [chkE] at h
  | .not a, X, sc, x, cx, h => by
    cases x <;> first | (simp [chkE] at h; done) | skip
    simp only [chkE, Bool.and_eq_true, decide_eq_true_eq] at h
    obtain ⟨rfl, h1⟩ := h
    exact snd_not (sE a cx h1)
  | .ite c a b, X, sc, x, cx, h => by
    cases x <;> first | (simp [chkE] at h; done) | skip
    simp only [chkE, Bool.and_eq_true, decide_eq_true_eq] at h
    exact snd_ite (sT c cx h.1.1) (sE a cx h.1.2) (sE b cx h.2)
  | .ix a b, X, sc, x, cx, h => by
    cases x <;> first | (simp [chkE] at h; done) | skip
    simp only [chkE, Bool.and_eq_true, decide_eq_true_eq] at h
    exact snd_ix h.1.1 (sL_of cx h.1.2 (sE a cx h.1.2)) (sE b cx h.2)
  | .sl a lo hi, X, sc, x, cx, h => by
    cases x <;> first | (simp [chkE] at h; done) | skip
    rename_i x1 x2 _
    cases x2 <;> first | (simp [chkE] at h; done) | skip
    rename_i l u st _
    cases st with
    | some _ => simp [chkE] at h
    | none =>
      simp only [chkE, Bool.and_eq_true] at h
      exact snd_sl (sL_of cx h.1.1 (sE a cx h.1.1)) (sEo lo cx h.1.2) (sEo hi cx h.2)
  | .rev a, X, sc, x, cx, h => by
    cases x <;> first | (simp [chkE] at h; done) | skip
    rename_i x1 x2 _
    cases x2 <;> first | (simp [chkE] at h; done) | skip
    rename_i l u st _
    cases l <;> first | (simp [chkE] at h; done) | skip
    cases u <;> first | (simp [chkE] at h; done) | skip
    cases st <;> first | (simp [chkE] at h; done) | skip
    rename_i st
    cases st <;> first | (simp [chkE] at h; done) | skip
    rename_i op x3 _
    cases x3 <;> first | (simp [chkE] at h; done) | skip
    rename_i cn _ _
    cases cn <;> first | (simp [chkE] at h; done) | skip
    simp only [chkE, Bool.and_eq_true, decide_eq_true_eq] at h
    obtain ⟨⟨rfl, rfl⟩, h1⟩ := h
    exact snd_rev (sL_of cx h1 (sE a cx h1))
  | .fld a c j, X, sc, x, cx, h => by
    cases x <;> first | (simp [chkE] at h; done) | skip
    simp only [chkE, Bool.and_eq_true, decide_eq_true_eq] at h
    exact snd_fld cx h.1.1 h.1.2 (sL_of cx h.2 (sE a cx h.2))
  | .call f es, X, sc, x, cx, h => by
    cases x <;> first | (simp [chkE] at h; done) | skip
    rename_i fn xs kws _
    cases fn <;> first | (cases kws <;> simp [chkE] at h; done) | skip
    cases kws with
    | cons _ _ => simp [chkE] at h
    | nil =>
      simp only [chkE, Bool.and_eq_true] at h
      obtain ⟨⟨⟨h0, h1⟩, h2⟩, h3⟩ := h
      have h0 : pnm f = false := by simpa using h0
      cases xs with
      | nil =>
        cases es with
        | cons _ _ => simp [chkEs] at h3
        | nil => exact snd_call0 cx h0 h1
      | cons y ys =>
        simp only [List.all_cons, Bool.and_eq_true] at h2
        exact snd_call cx h0 h1 h2.1 h2.2 (sEs es cx h3)
  | .bi b es, X, sc, x, cx, h => by
    cases x <;> first | (simp [chkE] at h; done) | skip
    rename_i fn xs kws _
    cases fn <;> first | (cases kws <;> simp [chkE] at h; done) | skip
    cases kws with
    | cons _ _ => simp [chkE] at h
    | nil =>
      simp only [chkE, Bool.and_eq_true, decide_eq_true_eq] at h
      obtain ⟨⟨⟨⟨⟨h1, h2⟩, h3⟩, h4⟩, h5⟩, h6⟩ := h
      cases xs with
      | nil => simp at h4
      | cons y ys =>
        simp only [List.all_cons, Bool.and_eq_true] at h3
        have one : biOne b = true → ∃ e, es = .cons e .nil ∧ ys = [] ∧ PE X y (tLv X.K C Φ G e) := fun hb => by
          rw [hb] at h5
          simp only [Bool.not_true, Bool.false_or] at h5
          obtain ⟨e, rfl⟩ := oneE_of h5
          cases ys with
          | cons _ _ => simp [chkEs] at h6
          | nil =>
            simp only [chkEs, Bool.and_eq_true] at h6
            exact ⟨e, rfl, rfl, sL_of cx h6.1.2 (sE e cx h6.1.2)⟩
        cases b with
        | len => obtain ⟨e, rfl, rfl, he⟩ := one rfl; exact snd_len cx h1 h2 h3.1 he
        | lst => obtain ⟨e, rfl, rfl, he⟩ := one rfl; exact snd_list cx h1 h2 h3.1 he
        | tup => obtain ⟨e, rfl, rfl, he⟩ := one rfl; exact snd_tupleB cx h1 h2 h3.1 he
        | int => exact snd_int cx h1 h2 h3.1 h3.2 (sEs es cx h6)
        | abs => exact snd_abs cx h1 h2 h3.1 h3.2 (sEs es cx h6)
        | sum => exact snd_sum cx h1 h2 h3.1 h3.2 (sEs es cx h6)
        | min2 => exact snd_min cx h1 h2 h3.1 h3.2 (sEs es cx h6)
        | max2 => exact snd_max cx h1 h2 h3.1 h3.2 (sEs es cx h6)
        | gcd => exact snd_gcd cx h1 h2 h3.1 h3.2 (sEs es cx h6)
        | srt => obtain ⟨e, rfl, rfl, he⟩ := one rfl; exact snd_sorted cx h1 h2 h3.1 he
  | .isi a t, X, sc, x, cx, h => by
    cases x <;> first | (simp [chkE] at h; done) | skip
    rename_i fn xs kws _
    cases fn <;> first | (simp [chkE] at h; done) | skip
    match xs, kws, h with
    | [y, .Name n2 p2], [], h =>
      simp only [chkE, Bool.and_eq_true, decide_eq_true_eq] at h
      obtain ⟨⟨⟨⟨⟨h1, h2⟩, h3⟩, h4⟩, h5⟩, h6⟩ := h
      refine snd_isi cx h1 h2 h3 ?_ h5 (sL_of cx h6 (sE a cx h6))
      cases t <;> simpa using h4
    | [], _, h => simp [chkE] at h
    | [_], _, h => simp [chkE] at h
    | _ :: _ :: _ :: _, _, h => simp [chkE] at h
    | [_, y2], _ :: _, h => cases y2 <;> simp [chkE] at h
    | [_, y2], [], h =>
      cases y2 <;> first | (simp [chkE] at h; done) | skip
      simp only [chkE, Bool.and_eq_true, decide_eq_true_eq] at h
      obtain ⟨⟨⟨⟨⟨h1, h2⟩, h3⟩, h4⟩, h5⟩, h6⟩ := h
      refine snd_isi cx h1 h2 h3 ?_ h5 (sL_of cx h6 (sE a cx h6))
      cases t <;> simpa using h4
  | .idx a b, X, sc, x, cx, h => by
    cases x <;> first | (simp [chkE] at h; done) | skip
    rename_i fn xs kws _
    cases fn <;> first | (simp [chkE] at h; done) | skip
    match xs, kws, h with
    | [y], [], h =>
      simp only [chkE, Bool.and_eq_true, decide_eq_true_eq] at h
      obtain ⟨⟨⟨⟨⟨rfl, h2⟩, h3⟩, h4⟩, h5⟩, h6⟩ := h
      exact snd_idx (by have := cx.room.un; omega) h2 h3 h4 (sL_of cx h5 (sE a cx h5)) (sE b cx h6)
    | [], _, h => simp [chkE] at h
    | _ :: _ :: _, _, h => simp [chkE] at h
    | [_], _ :: _, h => simp [chkE] at h
  | .bits a, X, sc, x, cx, h => by
    cases x <;> first | (simp [chkE] at h; done) | skip
    rename_i fn xs kws _
    cases fn <;> first | (simp [chkE] at h; done) | skip
    match xs, kws, h with
    | [], [], h =>
      simp only [chkE, Bool.and_eq_true, decide_eq_true_eq] at h
      obtain ⟨⟨⟨rfl, h2⟩, h3⟩, h4⟩ := h
      exact snd_bits h2 h3 (sE a cx h4)
    | _ :: _, _, h => simp [chkE] at h
    | [], _ :: _, h => simp [chkE] at h
  | .mk a, X, sc, x, cx, h => by
    cases x <;> first | (simp [chkE] at h; done) | skip
    rw [chkE] at h
    exact snd_mk (sE a cx h)
  | .tupO a, X, sc, x, cx, h => by
    cases x <;> first | (simp [chkE] at h; done) | skip
    rename_i fn xs kws _
    cases fn <;> first | (simp [chkE] at h; done) | skip
    match xs, kws, h with
    | [y], [], h =>
      simp only [chkE, Bool.and_eq_true, decide_eq_true_eq] at h
      obtain ⟨⟨⟨h1, h2⟩, h3⟩, h4⟩ := h
      exact snd_tupO cx h1 h2 h3 (sE a cx h4)
    | [], _, h => simp [chkE] at h
    | _ :: _ :: _, _, h => simp [chkE] at h
    | [_], _ :: _, h => simp [chkE] at h
  | .compO elt t it, X, sc, x, cx, h => by
    cases x <;> first | (simp [chkE] at h; done) | skip
    rename_i y gs scope pos
    match gs, h with
    | [⟨tg, iter, ifs, as⟩], h =>
      simp only [chkE, Bool.and_eq_true, decide_eq_true_eq, List.isEmpty_iff] at h
      obtain ⟨⟨⟨⟨⟨⟨rfl, rfl⟩, h1⟩, h2⟩, h3⟩, h4⟩, h5⟩ := h
      have := pe_lc (tg := tg) (iter := iter) (wi := tIc X.K C Φ G it) (g := tgR X.K t) (elt := y) (te := tEv X.K C Φ G elt) (pos := pos) (tt := tYes) cx.calm cx.nd' (sItC it cx h2) (blkOk_of cx h3) (fun s H Ca cl fp => snd_tg (cx.blk (blkOk_by h3).kind s H Ca cl fp) h4) (fun s H Ca cl fp => pts_nil) (fun s H Ca cl fp => sE elt (cx.blk (blkOk_by h3).kind s H Ca cl fp) h5) (fold_plain h1)
      rw [own_ix h4] at this
      exact pe_imp this fun σ H Q q => compO_imp q
    | [], h => simp [chkE] at h
    | _ :: _ :: _, h => simp [chkE] at h
  | .din a i, X, sc, x, cx, h => by
    cases x <;> first | (simp [chkE] at h; done) | skip
    rename_i y ops ys pos
    match ops, ys, h with
    | [op], [.Name n p2], h =>
      simp only [chkE, Bool.and_eq_true, decide_eq_true_eq] at h
      obtain ⟨⟨rfl, h1⟩, h2⟩ := h
      exact snd_din cx h1 (sE a cx h2)
  | .dat i a, X, sc, x, cx, h => by
    cases x <;> first | (simp [chkE] at h; done) | skip
    rename_i y z pos
    cases y <;> first | (simp [chkE] at h; done) | skip
    simp only [chkE, Bool.and_eq_true] at h
    exact snd_dat cx h.1.1 h.1.2 (sE a cx h.2)
  | .comp elt t it c, X, sc, x, cx, h => by
    cases x <;> first | (simp [chkE] at h; done) | skip
    rename_i y gs scope pos
    match gs, h with
    | [⟨tg, iter, ifs, as⟩], h =>
      simp only [chkE, Bool.and_eq_true, decide_eq_true_eq] at h
      obtain ⟨⟨⟨⟨⟨⟨rfl, h1⟩, h2⟩, h3⟩, h4⟩, h5⟩, h6⟩ := h
      match ifs, h6 with
      | [], h6 =>
        have hc : c = .no := by cases c with
          | no => rfl
          | yes _ => simp [chkEo] at h6
        subst hc
        have := pe_lc (tg := tg) (iter := iter) (wi := tIc X.K C Φ G it) (g := tgR X.K t) (elt := y) (te := tEv X.K C Φ G elt) (pos := pos) (tt := tYes) cx.calm cx.nd' (sItC it cx h2) (blkOk_of cx h3) (fun s H Ca cl fp => snd_tg (cx.blk (blkOk_by h3).kind s H Ca cl fp) h4) (fun s H Ca cl fp => pts_nil) (fun s H Ca cl fp => sE elt (cx.blk (blkOk_by h3).kind s H Ca cl fp) h5) (fold_plain h1)
        rw [own_ix h4] at this
        exact pe_imp this fun σ H Q q => comp_imp (c := .no) (tt := tYes) (fun cf σ H Q ok q => by rw [tvo] at q; exact q H (Same.refl H)) q
      | [z], h6 =>
        have := pe_lc (tg := tg) (iter := iter) (wi := tIc X.K C Φ G it) (g := tgR X.K t) (elt := y) (te := tEv X.K C Φ G elt) (pos := pos) (tt := tTo X.K C Φ G c) cx.calm cx.nd' (sItC it cx h2) (blkOk_of cx h3) (fun s H Ca cl fp => snd_tg (cx.blk (blkOk_by h3).kind s H Ca cl fp) h4) (fun s H Ca cl fp => pts_one (sTo c (cx.blk (blkOk_by h3).kind s H Ca cl fp) h6)) (fun s H Ca cl fp => sE elt (cx.blk (blkOk_by h3).kind s H Ca cl fp) h5) (fold_plain h1)
        rw [own_ix h4] at this
        exact pe_imp this fun σ H Q q => comp_imp (c := c) (tt := tTo X.K C Φ G c) (fun cf σ H Q ok q => ⟨cf, ok, q⟩) q
      | _ :: _ :: _, h6 => simp at h6
    | [], h => simp [chkE] at h
    | _ :: _ :: _, h => simp [chkE] at h
termination_by e => (sizeOf e, 0)
theorem sEs : ∀ (es : Es) {X : Cx} {sc : Scope} {xs : List Expr}, Ctx X CX C k Φ G bl N sc → chkEs N bl C.n es sc xs = true → PA X xs (tAv X.K C Φ G es)
  | .nil, X, sc, xs, cx, h => by
    cases xs with
    | nil => exact snd_nil
    | cons _ _ => simp [chkEs] at h
  | .cons e es, X, sc, xs, cx, h => by
    cases xs with
    | nil => simp [chkEs] at h
    | cons y ys =>
      simp only [chkEs, Bool.and_eq_true] at h
      exact snd_cons h.1.1 (sE e cx h.1.2) (sEs es cx h.2)
termination_by es => (sizeOf es, 0)
theorem sPs : ∀ (es : Es) {X : Cx} {sc : Scope} {xs : List Expr}, Ctx X CX C k Φ G bl N sc → chkEs N bl C.n es sc xs = true → PA X xs (tPv X.K C Φ G es)
  | .nil, X, sc, xs, cx, h => by
    cases xs with
    | nil => exact snd_pnil
    | cons _ _ => simp [chkEs] at h
  | .cons e es, X, sc, xs, cx, h => by
    cases xs with
    | nil => simp [chkEs] at h
    | cons y ys =>
      simp only [chkEs, Bool.and_eq_true] at h
      exact snd_pcons h.1.1 (sE e cx h.1.2) (sPs es cx h.2)
termination_by es => (sizeOf es, 0)
theorem sEo : ∀ (o : Eo) {X : Cx} {sc : Scope} {x : Option Expr}, Ctx X CX C k Φ G bl N sc → chkEo N bl C.n o sc x = true → PO X x (tOv X.K C Φ G o)
  | .no, X, sc, x, cx, h => by
    cases x with
    | none => exact snd_ono
    | some _ => simp [chkEo] at h
  | .yes e, X, sc, x, cx, h => by
    cases x with
    | none => simp [chkEo] at h
    | some y => rw [chkEo] at h; exact snd_oyes (sE e cx h)
termination_by o => (sizeOf o, 0)
theorem sTo : ∀ (o : Eo) {X : Cx} {sc : Scope} {x : Expr}, Ctx X CX C k Φ G bl N sc → chkEo N bl C.n o sc (some x) = true → PT X x (tTo X.K C Φ G o)
  | .no, X, sc, x, cx, h => by simp [chkEo] at h
  | .yes e, X, sc, x, cx, h => by
    rw [chkEo] at h
    exact pt_imp (sT e cx h) fun σ H Q ⟨c, ok, q⟩ => ⟨c, ok, by rw [tvo] at q; exact q⟩
termination_by o => (sizeOf o, 0)
theorem sItC : ∀ (i : It) {X : Cx} {sc : Scope} {x tg : Expr}, Ctx X CX C k Φ G bl N sc → chkIt N bl C.n i sc x = true → PI X tg x (tIc X.K C Φ G i)
  | .over e, X, sc, x, tg, cx, h => by
    rw [chkIt] at h
    exact snd_overC (sL_of cx h (sE e cx h))
  | .rng a, X, sc, x, tg, cx, h => by
    cases x <;> first | (simp [chkIt] at h; done) | skip
    rename_i fn xs kws _
    cases fn <;> first | (simp [chkIt] at h; done) | skip
    match xs, kws, h with
    | [y], [], h =>
      simp only [chkIt, Bool.and_eq_true, decide_eq_true_eq] at h
      exact snd_rngC cx h.1.1.1 h.1.1.2 h.1.2 (sE a cx h.2)
    | [], _, h => simp [chkIt] at h
    | _ :: _ :: _, _, h => simp [chkIt] at h
    | [_], _ :: _, h => simp [chkIt] at h
  | .rng2 a b, X, sc, x, tg, cx, h => by
    cases x <;> first | (simp [chkIt] at h; done) | skip
    rename_i fn xs kws _
    cases fn <;> first | (simp [chkIt] at h; done) | skip
    match xs, kws, h with
    | [y, z], [], h =>
      simp only [chkIt, Bool.and_eq_true, decide_eq_true_eq] at h
      obtain ⟨⟨⟨⟨⟨h1, h2⟩, h3⟩, h4⟩, h5⟩, h6⟩ := h
      exact snd_rng2C cx h1 h2 h3 h4 (sE a cx h5) (sE b cx h6)
    | [], _, h => simp [chkIt] at h
    | [_], _, h => simp [chkIt] at h
    | _ :: _ :: _ :: _, _, h => simp [chkIt] at h
    | [_, _], _ :: _, h => simp [chkIt] at h
termination_by i => (sizeOf i, 0)
theorem sT : ∀ (e : E) {X : Cx} {sc : Scope} {x : Expr}, Ctx X CX C k Φ G bl N sc → chkE N bl C.n e sc x = true → PT X x (tTv X.K C Φ G e)
  | .and a b, X, sc, x, cx, h => by
    cases x <;> first | (simp [chkE] at h; done) | skip
    rename_i op xs pos
    match xs, h with
    | x1 :: x2 :: [], h =>
      simp only [chkE, Bool.and_eq_true, decide_eq_true_eq] at h
      obtain ⟨⟨rfl, h1⟩, h2⟩ := h
      exact (snd_andT (sT a cx h1) (pw_and1 (sT b cx h2))).pt
    | x1 :: x2 :: x3 :: xs, h =>
      simp only [chkE, Bool.and_eq_true, decide_eq_true_eq] at h
      obtain ⟨⟨rfl, h1⟩, h2⟩ := h
      exact (snd_andT (sT a cx h1) (sWa b cx h2)).pt
    | [], h => simp [chkE] at h
    | [_], h => simp [chkE] at h
  | .or a b, X, sc, x, cx, h => by
    cases x <;> first | (simp [chkE] at h; done) | skip
    rename_i op xs pos
    match xs, h with
    | x1 :: x2 :: [], h =>
      simp only [chkE, Bool.and_eq_true, decide_eq_true_eq] at h
      obtain ⟨⟨rfl, h1⟩, h2⟩ := h
      exact (snd_orT (sT a cx h1) (pw_or1 (sT b cx h2))).pt
    | x1 :: x2 :: x3 :: xs, h =>
      simp only [chkE, Bool.and_eq_true, decide_eq_true_eq] at h
      obtain ⟨⟨rfl, h1⟩, h2⟩ := h
      exact (snd_orT (sT a cx h1) (sWo b cx h2)).pt
    | [], h => simp [chkE] at h
    | [_], h => simp [chkE] at h
  | .not a, X, sc, x, cx, h => by
    cases x <;> first | (simp [chkE] at h; done) | skip
    simp only [chkE, Bool.and_eq_true, decide_eq_true_eq] at h
    obtain ⟨rfl, h1⟩ := h
    exact snd_notT (sT a cx h1)
  | .slot i, X, sc, x, cx, h => by
    cases x <;> first | (simp [chkE] at h; done) | skip
    exact snd_slotT cx (by simpa [chkE] using h)
  | .ite _ _ _, X, sc, x, cx, h => ⟨fun pins s σ H Q I ⟨c, ok, q⟩ => by rw [tv] at q; exact q.elim⟩
  | .cmp o a b, X, sc, x, cx, h => by
    cases x <;> first | (simp [chkE] at h; done) | skip
    rename_i ops cs _
    match ops, cs, h with
    | [op], [x2], h =>
      simp only [chkE, Bool.and_eq_true, decide_eq_true_eq] at h
      obtain ⟨⟨⟨rfl, hp⟩, h1⟩, h2⟩ := h
      exact snd_cmpT (hu_ok cx) hp (sL_of cx h1 (sE a cx h1)) (sL_of cx h2 (sE b cx h2))
    | [], [], h => simp [chkE] at h
    | [], _ :: _, h => simp [chkE] at h
    | [_], [], h => simp [chkE] at h
    | [_], _ :: _ :: _, h => simp [chkE] at h
    | _ :: _ :: _, [], h => simp [chkE] at h
    | _ :: _ :: _, _ :: _, h => simp [chkE] at h
  | .chain o p a b c, X, sc, x, cx, h => by
    cases x <;> first | (simp [chkE] at h; done) | skip
    rename_i ops cs _
    match ops, cs, h with
    | [op, op2], [x2, x3], h =>
      simp only [chkE, Bool.and_eq_true, decide_eq_true_eq] at h
      obtain ⟨⟨⟨⟨⟨⟨rfl, rfl⟩, hp2⟩, hp⟩, h1⟩, h2⟩, h3⟩ := h
      exact snd_chainT (hu_ok cx) hp2 hp (sE a cx h1) (sE b cx h2) (sE c cx h3)
    | [], [], h => simp [chkE] at h
    | [], [_], h => simp [chkE] at h
    | [], _ :: _ :: _, h => simp [chkE] at h
    | [_], [], h => simp [chkE] at h
    | [_], [_], h => simp [chkE] at h
    | [_], _ :: _ :: _, h => simp [chkE] at h
    | [_, _], [], h => simp [chkE] at h
    | [_, _], [_], h => simp [chkE] at h
    | [_, _], _ :: _ :: _ :: _, h => simp [chkE] at h
    | _ :: _ :: _ :: _, [], h => simp [chkE] at h
    | _ :: _ :: _ :: _, [_], h => simp [chkE] at h
    | _ :: _ :: _ :: _, _ :: _ :: _, h => simp [chkE] at h
  | .cst d, X, sc, x, cx, h => (plainT_of (e := .cst d) rfl h).elim (fun z => snd_test z rfl (sE (.cst d) cx h)) fun z => by simp at z
  | .glob d, X, sc, x, cx, h => (plainT_of (e := .glob d) rfl h).elim (fun z => snd_test z rfl (sE (.glob d) cx h)) fun z => by simp at z
  | .tup d, X, sc, x, cx, h => (plainT_of (e := .tup d) rfl h).elim (fun z => snd_test z rfl (sE (.tup d) cx h)) fun z => by simp at z
  | .lst d, X, sc, x, cx, h => (plainT_of (e := .lst d) rfl h).elim (fun z => snd_test z rfl (sE (.lst d) cx h)) fun z => by simp at z
  | .bin o a b, X, sc, x, cx, h => (plainT_of (e := .bin o a b) rfl h).elim (fun z => snd_test z rfl (sE (.bin o a b) cx h)) fun z => by simp at z
  | .neg a, X, sc, x, cx, h => (plainT_of (e := .neg a) rfl h).elim (fun z => snd_test z rfl (sE (.neg a) cx h)) fun z => by simp at z
  | .ix a b, X, sc, x, cx, h => (plainT_of (e := .ix a b) rfl h).elim (fun z => snd_test z rfl (sE (.ix a b) cx h)) fun z => by simp at z
  | .sl a b c, X, sc, x, cx, h => (plainT_of (e := .sl a b c) rfl h).elim (fun z => snd_test z rfl (sE (.sl a b c) cx h)) fun z => by simp at z
  | .rev a, X, sc, x, cx, h => (plainT_of (e := .rev a) rfl h).elim (fun z => snd_test z rfl (sE (.rev a) cx h)) fun z => by simp at z
  | .fld a b c, X, sc, x, cx, h => (plainT_of (e := .fld a b c) rfl h).elim (fun z => snd_test z rfl (sE (.fld a b c) cx h)) fun z => by simp at z
  | .call a b, X, sc, x, cx, h => (plainT_of (e := .call a b) rfl h).elim (fun z => snd_test z rfl (sE (.call a b) cx h)) fun z => by simp at z
  | .bi a b, X, sc, x, cx, h => (plainT_of (e := .bi a b) rfl h).elim (fun z => snd_test z rfl (sE (.bi a b) cx h)) fun z => by simp at z
  | .isi a b, X, sc, x, cx, h => (plainT_of (e := .isi a b) rfl h).elim (fun z => snd_test z rfl (sE (.isi a b) cx h)) fun z => by simp at z
  | .idx a b, X, sc, x, cx, h => (plainT_of (e := .idx a b) rfl h).elim (fun z => snd_test z rfl (sE (.idx a b) cx h)) fun z => by simp at z
  | .bits a, X, sc, x, cx, h => (plainT_of (e := .bits a) rfl h).elim (fun z => snd_test z rfl (sE (.bits a) cx h)) fun z => by simp at z
  | .din a i, X, sc, x, cx, h => by
    cases x <;> first | (simp [chkE] at h; done) | skip
    rename_i y ops ys pos
    match ops, ys, h with
    | [op], [.Name n p2], h =>
      simp only [chkE, Bool.and_eq_true, decide_eq_true_eq] at h
      obtain ⟨⟨rfl, h1⟩, h2⟩ := h
      exact snd_dinT cx h1 (sE a cx h2)
  | .mk a, X, sc, x, cx, h => (plainT_of (e := .mk a) rfl h).elim (fun z => snd_test z rfl (sE (.mk a) cx h)) fun z => by simp at z
  | .tupN a, X, sc, x, cx, h => (plainT_of (e := .tupN a) rfl h).elim (fun z => snd_test z rfl (sE (.tupN a) cx h)) fun z => by simp at z
  | .tupO a, X, sc, x, cx, h => (plainT_of (e := .tupO a) rfl h).elim (fun z => snd_test z rfl (sE (.tupO a) cx h)) fun z => by simp at z
  | .compO a b c, X, sc, x, cx, h => (plainT_of (e := .compO a b c) rfl h).elim (fun z => snd_test z rfl (sE (.compO a b c) cx h)) fun z => by simp at z
  | .dat a b, X, sc, x, cx, h => (plainT_of (e := .dat a b) rfl h).elim (fun z => snd_test z rfl (sE (.dat a b) cx h)) fun z => by simp at z
  | .comp a b c d, X, sc, x, cx, h => (plainT_of (e := .comp a b c d) rfl h).elim (fun z => snd_test z rfl (sE (.comp a b c d) cx h)) fun z => by simp at z
termination_by e => (sizeOf e, 1)
theorem sWa : ∀ (e : E) {X : Cx} {sc : Scope} {xs : List Expr} {pos : Pos}, Ctx X CX C k Φ G bl N sc → chkE N bl C.n e sc (.BoolOp .And xs pos) = true → PW X (.BoolOp .And xs pos) (tTv X.K C Φ G e)
  | e, X, sc, xs, pos, cx, h => by
    cases e <;> first | (simp [chkE] at h; done) | skip
    · rename_i d; cases d <;> simp [chkE, chkC] at h
    · rename_i a b
      match xs, h with
      | x1 :: x2 :: [], h =>
        simp only [chkE, Bool.and_eq_true, decide_eq_true_eq] at h
        obtain ⟨⟨_, h1⟩, h2⟩ := h
        exact snd_andT (sT a cx h1) (pw_and1 (sT b cx h2))
      | x1 :: x2 :: x3 :: xs, h =>
        simp only [chkE, Bool.and_eq_true, decide_eq_true_eq] at h
        obtain ⟨⟨_, h1⟩, h2⟩ := h
        exact snd_andT (sT a cx h1) (sWa b cx h2)
      | [], h => simp [chkE] at h
      | [_], h => simp [chkE] at h
    · match xs, h with
      | [], h => simp [chkE] at h
      | [_], h => simp [chkE] at h
      | _ :: _ :: _, h => simp [chkE] at h
termination_by e => (sizeOf e, 0)
theorem sWo : ∀ (e : E) {X : Cx} {sc : Scope} {xs : List Expr} {pos : Pos}, Ctx X CX C k Φ G bl N sc → chkE N bl C.n e sc (.BoolOp .Or xs pos) = true → PW X (.BoolOp .Or xs pos) (tTv X.K C Φ G e)
  | e, X, sc, xs, pos, cx, h => by
    cases e <;> first | (simp [chkE] at h; done) | skip
    · rename_i d; cases d <;> simp [chkE, chkC] at h
    · match xs, h with
      | [], h => simp [chkE] at h
      | [_], h => simp [chkE] at h
      | _ :: _ :: _, h => simp [chkE] at h
    · rename_i a b
      match xs, h with
      | x1 :: x2 :: [], h =>
        simp only [chkE, Bool.and_eq_true, decide_eq_true_eq] at h
        obtain ⟨⟨_, h1⟩, h2⟩ := h
        exact snd_orT (sT a cx h1) (pw_or1 (sT b cx h2))
      | x1 :: x2 :: x3 :: xs, h =>
        simp only [chkE, Bool.and_eq_true, decide_eq_true_eq] at h
        obtain ⟨⟨_, h1⟩, h2⟩ := h
        exact snd_orT (sT a cx h1) (sWo b cx h2)
      | [], h => simp [chkE] at h
      | [_], h => simp [chkE] at h
termination_by e => (sizeOf e, 0)
end
theorem sItF : ∀ (i : It) {X : Cx} {sc : Scope} {x tg : Expr}, Ctx X CX C k Φ G bl N sc → chkIt N bl C.n i sc x = true → PI X tg x (tIf X.K C Φ G i)
  | .over e, X, sc, x, tg, cx, h => by
    rw [chkIt] at h
    exact snd_overF (sE e cx h)
  | .rng a, X, sc, x, tg, cx, h => by
    cases x <;> first | (simp [chkIt] at h; done) | skip
    rename_i fn xs kws _
    cases fn <;> first | (simp [chkIt] at h; done) | skip
    match xs, kws, h with
    | [y], [], h =>
      simp only [chkIt, Bool.and_eq_true, decide_eq_true_eq] at h
      exact snd_rngF cx h.1.1.1 h.1.1.2 h.1.2 (sE a cx h.2)
    | [], _, h => simp [chkIt] at h
    | _ :: _ :: _, _, h => simp [chkIt] at h
    | [_], _ :: _, h => simp [chkIt] at h
  | .rng2 a b, X, sc, x, tg, cx, h => by
    cases x <;> first | (simp [chkIt] at h; done) | skip
    rename_i fn xs kws _
    cases fn <;> first | (simp [chkIt] at h; done) | skip
    match xs, kws, h with
    | [y, z], [], h =>
      simp only [chkIt, Bool.and_eq_true, decide_eq_true_eq] at h
      obtain ⟨⟨⟨⟨⟨h1, h2⟩, h3⟩, h4⟩, h5⟩, h6⟩ := h
      exact snd_rng2F cx h1 h2 h3 h4 (sE a cx h5) (sE b cx h6)
    | [], _, h => simp [chkIt] at h
    | [_], _, h => simp [chkIt] at h
    | _ :: _ :: _ :: _, _, h => simp [chkIt] at h
    | [_, _], _ :: _, h => simp [chkIt] at h
theorem sMs : ∀ (es : Es) {X : Cx} {sc : Scope} {xs : List Expr}, Ctx X CX C k Φ G bl N sc → chkEs N bl C.n es sc xs = true → PA X xs (tMv X.K C Φ G es)
  | .nil, X, sc, xs, cx, h => by
    cases xs with
    | nil => exact snd_mnil
    | cons _ _ => simp [chkEs] at h
  | .cons e es, X, sc, xs, cx, h => by
    cases xs with
    | nil => simp [chkEs] at h
    | cons y ys =>
      simp only [chkEs, Bool.and_eq_true] at h
      refine snd_mcons h.1.1 ?_ (sMs es cx h.2)
      by_cases hn : notSlot e = true
      · exact snd_m1 hn (sE e cx h.1.2)
      · have h2 := h.1.2
        cases e <;> first | (exact absurd rfl hn) | skip
        cases y <;> first | (simp [chkE] at h2; done) | skip
        exact snd_m1slot cx (by simpa [chkE] using h2)
end
end Ev

set_option maxRecDepth 100000
set_option maxHeartbeats 8000000
/-! Errors: a block that raises, caught. -/
namespace Ev
open PySem PySem.Spec PyProof.Rows L2
section
variable {X : Cx} {CX : CXT} {C : Kls} {k W : Nat} {Φ : String → List D → Res M} {G : String → Option D} {bl : List String} {N : List Str} {sc : Scope}
/-! ### errors -/
theorem ps_never {X : Cx} {st : Stmt} : PS X st (fun _ _ _ => False) := ⟨fun _ _ _ _ _ _ h => h.elim⟩
theorem pss_never {X : Cx} {st : List Stmt} : PSs X st (fun _ _ _ => False) := ⟨fun _ _ _ _ _ _ h => h.elim⟩
theorem snd_raiseN {st : Stmt} : PS X st (tSv X.K C Φ G W .raiseN) := ps_imp ps_never fun E σ H ⟨bs, c, ok, fk, q⟩ => by
  rw [evS] at q
  exact q
theorem Ctx.tr (cx : Ctx X CX C k Φ G bl N sc) (pn : List (Addr × Obj)) (xe : Value → Shared → Prop) : Ctx (X.tr pn xe) CX C k Φ G bl N sc :=
  ⟨cx.wd, cx.hN, cx.nd, cx.calm, cx.room, cx.pass, cx.loc, cx.cel, cx.fre, cx.glo, cx.fn, cx.kind⟩
/-- isinstance of the error that the suite holds -/
theorem pe_isE (cx : Ctx X CX C k Φ G bl N sc) {a NA B : Addr} {oe : Obj} {pn : List (Addr × Obj)} (er : ErrOk X.K X.mg NA) (hz : Zc (.ref NA) none oe) (hf : ∃ vs, oe.data = .fields vs) {n1 ne nc : Str} {i : Nat} {p p1 p2 pos : Pos} (hg1 : glOk sc n1 "isinstance" = true) (hb : "isinstance" ∈ bl) (he : nmOk N sc ne i = true)
    {cn : String} {b : Bool} (hgc : glOk sc nc cn = true) (hm : X.mg (Str.ofString cn) = some (.ref B)) (hk : PySem.W.kitOne X.K (.ref NA) (.ref B) = some b) :
    PE (X.suite a ((a, oe) :: pn)) (.Call (.Name n1 p) [.Name ne p1, .Name nc p2] [] pos) (fun σ H Q => σ[i]? = some (some (.ref a)) ∧ Q (.bl b) H) := by
  obtain ⟨rfl, hgl, hdb⟩ := cx.gl hg1
  obtain ⟨rfl, hgl2, hdb2⟩ := cx.gl hgc
  obtain ⟨v1, v2, v3, v4⟩ := cx.vis he
  exact pe_imp (pe_callB (X := X.suite a ((a, oe) :: pn)) (call_isE er.ex hz hf) hgl (cx.wd.bn _ hb (by decide)) PyProof.Rows.boot_isinstance (pa_cons (pe_var v1 v2 v3 v4) (pa_cons (pe_glob (v := .ref B) hgl2 hm rfl hdb2) pa_nil (star_plain rfl)) (star_plain rfl)) (by decide +kernel) hdb (star_plain rfl) rfl)
    fun σ H Q ⟨e, q⟩ => ⟨_, e, _, _, _, rfl, fun u hu => hu, hk, q⟩
/-- a try's block -/
def tXv (K : PySem.W.Frag) (C : Kls) (mg : Str → Option Value) (Φ : String → List D → Res M) (G : String → Option D) (b : XB) (W : WX) : TS := fun _ σ H => ∃ c, Ok K C c σ H ∧ evX Φ G b c.g = .ok () ∧ ∀ NA H', ErrOk K mg NA → Same H H' → W (.ref NA) none σ H'
theorem evX_err (cx : Ctx X CX C k Φ G bl N sc) : ∀ {b : XB} {st : List Stmt} {g : Gm}, chkX N bl C.n sc b st = true → evX Φ G b g = .ok () → ∃ NA, ErrOk X.K X.mg NA
  | .call fx es, st, g, hc, h => by
    rw [chkX] at hc
    cases h3 : asCE st with
    | none => rw [h3] at hc; cases hc
    | some q =>
      obtain ⟨n, x, xs⟩ := q
      rw [h3] at hc
      simp only [Bool.and_eq_true] at hc
      rw [evX] at h
      obtain ⟨r, _, h⟩ := Res.bind_eq_ok h
      obtain ⟨m, hm, h⟩ := Res.bind_eq_ok h
      rcases cx.wd.tabX fx hc.1.1.1.1 with ⟨NA, _, _, _, _, _, _, _, er⟩ | hno
      · exact ⟨NA, er⟩
      · exact (hno _ _ hm).elim
  | .ite c a b, st, g, hc, h => by
    rw [chkX] at hc
    cases h3 : asIf1 st with
    | none => rw [h3] at hc; cases hc
    | some q =>
      obtain ⟨x, xs, ys⟩ := q
      rw [h3] at hc
      simp only [Bool.and_eq_true] at hc
      rw [evX] at h
      obtain ⟨v, _, h⟩ := Res.bind_eq_ok h
      cases v with
      | true => exact evX_err cx hc.1.2 h
      | false => exact evX_err cx hc.2 h
theorem sX (cx : Ctx X CX C k Φ G bl N sc) {pn : List (Addr × Obj)} {xe : Value → Shared → Prop} {W : WX} (tk : Takes (X.tr pn xe) W) : ∀ (b : XB) {st : List Stmt}, chkX N bl C.n sc b st = true → PSs (X.tr pn xe) st (tXv X.K C X.mg Φ G b W)
  | .call fx es, st, hc => by
    rw [chkX] at hc
    cases h6 : asCE st with
    | none => rw [h6] at hc; cases hc
    | some q =>
      obtain ⟨n, x, xs⟩ := q
      rw [h6] at hc
      obtain ⟨p, pos, pos2, rfl⟩ := asCE_eq h6
      simp only [Bool.and_eq_true] at hc
      obtain ⟨⟨⟨⟨h1, h2⟩, h3⟩, h4⟩, h5⟩ := hc
      obtain ⟨rfl, hgl, hdb⟩ := cx.gl h2
      rcases cx.wd.tabX fx h1 with ⟨NA, a, fd, ps, F, hm, hk, hb, er⟩ | hno
      · refine pss_imp (pss_one (ps_expr (pe_callS (X := X.tr pn xe) F cx.room hgl hm hk hb (fun σ => passAt tk σ) (sEs es (cx.tr pn xe) h5) hdb (star_plain h3) (back_plain h4)))) fun E σ H ⟨c, ok, e, q⟩ => ?_
        rw [evX] at e
        obtain ⟨⟨ds, T⟩, ea, e⟩ := Res.bind_eq_ok e
        obtain ⟨m, em, e⟩ := Res.bind_eq_ok e
        refine ⟨c, ok, ?_⟩
        rw [ea]
        intro vs H1 s1 ⟨S, g, r⟩
        have hm : m = .frz (.bl true) := by
          split at e
          · rfl
          · cases e
        subst hm
        exact ⟨S, ds, r, g.live, em, fun H' s2 => q NA H' er (s1.trans s2)⟩
      · refine pss_imp pss_never fun E σ H ⟨c, ok, e, q⟩ => ?_
        rw [evX] at e
        obtain ⟨⟨ds, T⟩, ea, e⟩ := Res.bind_eq_ok e
        obtain ⟨m, em, e⟩ := Res.bind_eq_ok e
        exact hno _ _ em
  | .ite c a b, st, hc => by
    rw [chkX] at hc
    cases h6 : asIf1 st with
    | none => rw [h6] at hc; cases hc
    | some q =>
      obtain ⟨x, xs, ys⟩ := q
      rw [h6] at hc
      obtain ⟨pos, rfl⟩ := asIf1_eq h6
      simp only [Bool.and_eq_true] at hc
      obtain ⟨⟨h1, h2⟩, h3⟩ := hc
      refine pss_imp (pss_one (ps_if (sT c (cx.tr pn xe) h1) (sX cx tk a h2) (sX cx tk b h3))) fun E σ H ⟨c', ok, e, q⟩ => ?_
      rw [evX] at e
      obtain ⟨v, ev1, e⟩ := Res.bind_eq_ok e
      refine ⟨c', ok, ?_⟩
      rw [ev1]
      intro H1 s1
      cases v with
      | true => rw [if_pos rfl]; exact ⟨c', ok.same s1, e, fun NA H' er s2 => q NA H' er (s1.trans s2)⟩
      | false => rw [if_neg (by simp)]; exact ⟨c', ok.same s1, e, fun NA H' er s2 => q NA H' er (s1.trans s2)⟩
theorem snd_tryX (cx : Ctx X CX C k Φ G bl N sc) (hst : X.stack = X.env :: X.outer ∧ X.env.frame = some X.env.locals) {i : Nat} {b : XB} {st : Stmt} (h : chkS N bl C.n sc (.tryX i b) st = true) : PS X st (tSv X.K C Φ G W (.tryX i b)) := by
  rw [chkS] at h
  cases ht : asTry st with
  | none => rw [ht] at h; cases h
  | some q =>
    obtain ⟨body, x, n, ⟨i1, e1, c1⟩, ⟨i2, e2, c2⟩, ⟨i3, e3, c3⟩⟩ := q
    rw [ht] at h
    obtain ⟨q1, q2, q3, q4, q5, q6, q7, q8, q9, q10, q11, q12, q13, q14, q15, q16, q17, q18, q19, rfl⟩ := asTry_eq ht
    simp only [Bool.and_eq_true, decide_eq_true_eq] at h
    obtain ⟨⟨⟨⟨⟨⟨⟨⟨⟨⟨⟨⟨⟨g1, g2⟩, g3⟩, g4⟩, g5⟩, g6⟩, g7⟩, g8⟩, g9⟩, g10⟩, g11⟩, g12⟩, g13⟩, g14⟩ := h
    refine ⟨fun pins s σ H D I hq => ?_⟩
    obtain ⟨bs, c, ok, fk, q⟩ := hq
    rw [evS] at q
    obtain ⟨u, eu, q'⟩ := q.bind
    obtain ⟨NA, er⟩ := evX_err cx g14 eu
    obtain ⟨Bb, mb, kb⟩ := er.be
    obtain ⟨Bt, mt, kt⟩ := er.bt
    obtain ⟨Bu, mu, ku⟩ := er.un
    obtain ⟨ma, ka⟩ := er.na
    obtain ⟨rfl, hgl, hdb⟩ := cx.gl g10
    have hu : ∀ NA', ErrOk X.K X.mg NA' → NA' = NA := fun NA' er' => by
      have := er'.na.1
      rw [ma] at this
      cases this; rfl
    -- the suite
    have suite : ∀ (a : Addr) (oe : Obj) (cls : Value) (d : Option Addr) (pn : List (Addr × Obj)), Zc cls d oe → (∃ vs, oe.data = .fields vs) → PSs (X.suite a ((a, oe) :: pn)) [.Return (some (.BoolOp .And [.Call (.Name i1 q2) [.Name e1 q3, .Name c1 q4] [] q5, .UnaryOp .Not (.Call (.Name i2 q6) [.Name e2 q7, .Name c2 q8] [] q9) q10, .UnaryOp .Not (.Call (.Name i3 q11) [.Name e3 q12, .Name c3 q13] [] q14) q15] q16)) q17]
        (fun D σ H => cls = .ref NA ∧ d = none ∧ σ[i]? = some (some (.ref a)) ∧ D.rt (.bl true) H) := fun a oe cls d pn hz hf => by
      by_cases hc : cls = .ref NA ∧ d = none
      · obtain ⟨rfl, rfl⟩ := hc
        have p1 := pe_isE (a := a) (p := q2) (p1 := q3) (p2 := q4) (pos := q5) (pn := pn) cx er hz hf g6 g9 g3 g11 ma ka
        have p2 := pe_isE (a := a) (p := q6) (p1 := q7) (p2 := q8) (pos := q9) (pn := pn) cx er hz hf g7 g9 g4 g12 mt kt
        have p3 := pe_isE (a := a) (p := q11) (p1 := q12) (p2 := q13) (pos := q14) (pn := pn) cx er hz hf g8 g9 g5 g13 mu ku
        refine pss_imp (pss_one (ps_ret (pe_and p1 (pe_and (pe_not p2) (pe_one (pe_not p3)))))) fun E σ H ⟨_, _, hs, hr⟩ => ?_
        exact ⟨hs, true, rfl, by rw [if_pos rfl]; exact ⟨hs, false, rfl, true, rfl, by rw [if_pos rfl]; exact ⟨hs, false, rfl, hr⟩⟩⟩
      · exact pss_imp pss_never fun E σ H ⟨h1, h2, _⟩ => hc ⟨h1, h2⟩
    refine (ps_try_as (X := X) (i := i) (tb := fun W => tXv X.K C X.mg Φ G b W) (ts := fun a cls d => fun D σ H => cls = .ref NA ∧ d = none ∧ σ[i]? = some (some (.ref a)) ∧ D.rt (.bl true) H) (Wout := fun _ _ _ _ => False) (c := .ref Bb) hst.1 hst.2 cx.nd' (by rw [cx.hN]; exact g1) (cx.loc n g2) ⟨hgl, hdb, .inl mb⟩ takes0
      (fun W pn xe tk _ => sX cx tk b g14) suite).run pins s σ H D I ⟨c, ok, eu, fun NA' H' er' s' => ?_⟩
    obtain rfl := hu NA' er'
    refine ⟨true, kb, fun _ a ha => ⟨rfl, rfl, ?_, ?_⟩, fun z => Bool.noConfusion z⟩
    · have hi : i < σ.length := by
        rw [I.len, cx.hN]; exact (List.getElem?_eq_some_iff.mp g1).1
      rw [List.getElem?_set_self hi]
    · exact q' (.bl true) H' (epost_bl true (c := c) (T := []) |>.ret fk s')
end
end Ev

set_option maxRecDepth 100000
set_option maxHeartbeats 8000000
/-! Classes whose arguments stay the caller's own; trees that are written and not looked at any more. -/
namespace Ev
open PySem PySem.Spec PyProof.Rows L2
section
variable {K : PySem.W.Frag} {C : Kls} {c : Cf} {σ : L2.St} {H H' H1 H2 : Hp} {S T : Addr → Prop} {bs : Bs}
theorem Ok.out {p : Addr} {o u : HO} (k : Ok K C c σ H) (e : H p = some o) (io : isObj o = true) (nS : ¬ c.S p) (nf : ∀ j, p ∉ c.fp j) : Ok K C c σ (upd H p u) := by
  have up : ∀ a, H a ≠ none → upd H p u a ≠ none := fun a h => by
    by_cases ha : a = p
    · rw [ha, upd_same]; simp
    · rw [upd_ne ha]; exact h
  refine ⟨k.len, fun j m e1 => ?_, fun a h => up a (k.live a h), fun j a h => ?_, k.nd, k.dj⟩
  · obtain ⟨v, e2, r⟩ := k.slot j m e1
    exact ⟨v, e2, r.mono (S' := fun a => c.S a ∨ a ∈ c.fp j) (fun _ z => z) (Kp.upd e io fun z => z.elim nS (nf j)) (fun _ z => .inl z) fun _ z => .inr z⟩
  · obtain ⟨⟨o', e1, io'⟩, n⟩ := k.own j a h
    exact ⟨⟨o', by rw [upd_ne (fun z => by subst z; exact nf j h)]; exact e1, io'⟩, n⟩
theorem Fk.out {p : Addr} {o u : HO} (k : Fk bs c H) (e : H p = some o) (io : isObj o = true) (nS : ¬ c.S p) (h0 : bs.H0 p = none) : Fk bs c (upd H p u) := by
  refine ⟨fun a x e0 => ?_, k.sub, k.own, k.base, k.kp.trans (Kp.upd e io fun z => nS (k.base p z))⟩
  rw [upd_ne (fun z => by subst z; rw [h0] at e0; cases e0)]
  exact k.same a x e0
/-! ### data as a tree of one's own -/
theorem own_frz {d : D} (h : d.nOw = true) : ownM d = .frz d := by
  cases d <;> first | rfl | (simp [D.nOw] at h; done) | skip
  rename_i ds
  rw [ownM, if_pos (by simpa [D.nOw] using h)]
mutual
/-- what holds no list owns nothing -/
theorem RM.nOw : ∀ {v : V} {m : M} {A : List Addr}, cnM m = true → m.toD.nOw = true → RM K C H S v m A → A = [] ∧ RD K C H S v m.toD
  | _, _, _, _, _, .frz r => ⟨rfl, by rw [M.toD]; exact r⟩
  | _, _, _, _, h, .fl e r => by simp [M.toD, D.nOw] at h
  | _, _, _, _, h, .lst e r => by simp [M.toD, D.nOw] at h
  | _, _, _, k, h, .tup sq r => by
    obtain ⟨h1, h2⟩ := RMs.nOw (by simpa [cnM] using k) (by simpa [M.toD, D.nOw] using h) r
    exact ⟨h1, by rw [M.toD]; exact .tup sq h2⟩
  | _, _, _, k, _, .obj .. => by simp [cnM] at k
theorem RMs.nOw : ∀ {vs : List V} {ms : List M} {A : List Addr}, cnMs ms = true → D.nOws (M.toDs ms) = true → RMs K C H S vs ms A → A = [] ∧ RDs K C H S vs (M.toDs ms)
  | _, _, _, _, _, .nil => ⟨rfl, by rw [M.toDs]; exact .nil⟩
  | _, _, _, k, h, .cons r t => by
    simp only [cnMs, Bool.and_eq_true] at k
    simp only [M.toDs, D.nOws, Bool.and_eq_true] at h
    obtain ⟨a1, a2⟩ := RM.nOw k.1 h.1 r
    obtain ⟨b1, b2⟩ := RMs.nOw k.2 h.2 t
    subst a1; subst b1
    exact ⟨rfl, by rw [M.toDs]; exact .cons a2 b2⟩
end
mutual
theorem RM.cn : ∀ {v : V} {m : M} {A : List Addr}, cnM m = true → RM K C H S v m A → RM K C H S v (ownM m.toD) A
  | _, _, _, k, .frz r => by rw [M.toD, own_frz (by simpa [cnM] using k)]; exact .frz r
  | _, _, _, k, .fl e r => by rw [M.toD, ownM, if_pos (by simpa [cnM] using k)]; exact .fl e r
  | _, _, _, k, .lst e r => by
    have k' := k
    simp only [cnM] at k'
    rw [M.toD, ownM]
    split
    · rename_i h
      obtain ⟨a1, a2⟩ := RMs.nOw k' h r
      subst a1
      exact .fl e a2
    · exact .lst e (RMs.cn k' r)
  | _, _, _, k, .tup sq r => by
    have k' := k
    simp only [cnM] at k'
    rw [M.toD, ownM]
    split
    · rename_i h
      obtain ⟨a1, a2⟩ := RMs.nOw k' h r
      subst a1
      exact .frz (.tup sq a2)
    · exact .tup sq (RMs.cn k' r)
  | _, _, _, k, .obj .. => by simp [cnM] at k
theorem RMs.cn : ∀ {vs : List V} {ms : List M} {A : List Addr}, cnMs ms = true → RMs K C H S vs ms A → RMs K C H S vs (ownMs (M.toDs ms)) A
  | _, _, _, _, .nil => by rw [M.toDs, ownMs]; exact .nil
  | _, _, _, k, .cons r t => by
    simp only [cnMs, Bool.and_eq_true] at k
    rw [M.toDs, ownMs]
    exact .cons (RM.cn k.1 r) (RMs.cn k.2 t)
end
theorem RMs.same {vs : List V} {ms : List M} {A : List Addr} (s : Same H H') (r : RMs K C H S vs ms A) : RMs K C H' S vs ms A := r.mono (S' := fun _ => True) (fun _ z => z) (Kp.of_same s) (fun _ _ => trivial) fun _ _ => trivial
theorem RMs.sub {vs : List V} {ms : List M} {A : List Addr} (h : ∀ a, S a → T a) (r : RMs K C H S vs ms A) : RMs K C H T vs ms A := r.mono (S' := fun _ => True) h (Kp.of_same (Same.refl H)) (fun _ _ => trivial) fun _ _ => trivial
end
section
variable {X : Cx} {CX : CXT} {C : Kls} {k W : Nat} {Φ : String → List D → Res M} {G : String → Option D} {bl : List String} {N : List Str} {sc : Scope}
variable {x tg iter : Expr} {xs : List Expr} {pos p : Pos} {a e : E} {es ms : Es} {c : Cf} {σ : L2.St} {H H' H0 : Hp} {n : Str} {bs : Bs}
/-! ### an instance whose later arguments stay the caller's own -/
def tNv (K : PySem.W.Frag) (C : Kls) (Φ : String → List D → Res M) (G : String → Option D) (es ms : Es) : TA := fun σ H Q => ∃ c ds mm T, Ok K C c σ H ∧ evs Φ G es c.g = .ok (ds, []) ∧ evM Φ G ms c.g = .ok (mm, T) ∧
  ∀ us ws H', Same H H' → (∃ S A, RDs K C H' S us ds ∧ MPost K C c H H' ws mm T S A) → Q (us ++ ws) H'
theorem snd_nv (cx : Ctx X CX C k Φ G bl N sc) : ∀ (es : Es) {xs : List Expr}, chkEs N bl C.n (es.app ms) sc xs = true → xs.all plainB = true → PA X xs (tNv X.K C Φ G es ms)
  | .nil, xs, h, _ => pa_imp (sMs ms cx h) fun σ H Q ⟨c, ds, mm, T, ok, e1, e2, q⟩ => by
    rw [evs] at e1
    cases e1
    refine ⟨c, ok, ?_⟩
    rw [e2]
    intro ws H' s ⟨S, A, P⟩
    exact q [] ws H' s ⟨S, A, .nil, P⟩
  | .cons e es, xs, h, hp => by
    cases xs with
    | nil => simp [Es.app, chkEs] at h
    | cons x xs =>
      simp only [Es.app, chkEs, Bool.and_eq_true] at h
      simp only [List.all_cons, Bool.and_eq_true] at hp
      refine pa_imp (pa_cons (sE e cx (by first | exact h.1 | exact h.1.1 | exact h.1.2)) (snd_nv cx es (by first | exact h.2 | exact h.2.2) hp.2) (star_plain hp.1)) fun σ H Q ⟨c, ds, mm, T, ok, e1, e2, q⟩ => ?_
      rw [evs] at e1
      obtain ⟨⟨m, T1⟩, ea, e1⟩ := Res.bind_eq_ok e1
      obtain ⟨⟨ds', T2⟩, eb, e1⟩ := Res.bind_eq_ok e1
      simp only [Res.ok.injEq, Prod.mk.injEq, List.append_eq_nil_iff] at e1
      obtain ⟨rfl, rfl, rfl⟩ := e1
      refine ⟨c, ok, ?_⟩
      rw [ea]
      intro v H1 s1 p1
      refine ⟨c, ds', mm, T, ok.same s1, eb, e2, fun us ws H2 s2 ⟨S, A, r, P⟩ => ?_⟩
      obtain ⟨S0, g0, r0⟩ := p1.rd
      have sub0 : ∀ a, S0 a → c.S a ∨ H a = none := fun a z => by
        rcases g0.sub a z with z | ⟨i, hi, _⟩ | z
        · exact .inl z
        · simp at hi
        · exact .inr z
      refine q (v :: us) ws H2 (s1.trans s2) ⟨fun a => S0 a ∨ S a, A, .cons ((r0.same s2).sub fun _ z => .inl z) (r.sub fun _ z => .inr z), fun a z => ?_, fun a z => ?_, P.rs.sub fun _ z => .inr z, P.nd, fun a z => ⟨(P.own a z).1.imp_right s1.free, fun y => ?_⟩, fun a z => .inr (P.base a z)⟩
      · rcases z with z | z
        · exact sub0 a z
        · exact (P.sub a z).imp_right s1.free
      · rcases z with z | z
        · exact fun y => g0.live a z (s2.free y)
        · exact P.live a z
      · rcases y with y | y
        · rcases (P.own a z).1 with ⟨i, _, w⟩ | w
          · rcases sub0 a y with y | y
            · exact (ok.own i a w).2 y
            · obtain ⟨⟨o, e, _⟩, _⟩ := ok.own i a w
              rw [y] at e; cases e
          · exact g0.live a y w
        · exact (P.own a z).2 y
theorem snd_newO (cx : Ctx X CX C k Φ G bl N sc) {i : Nat} {f : String} {m : Str} {p' p : Pos} {pos' : Pos} (hn : stOk N sc n i = true) (hf : knm f = true) (hg : glOk sc m (knf f) = true) (hp : plainB x = true) (hps : xs.all plainB = true) (h : chkEs N bl C.n (es.app ms) sc (x :: xs) = true) :
    PS X (.Assign [.Name n p'] (.Call (.Name m p) (x :: xs) [] pos') pos) (tSv X.K C Φ G W (.newO i f es ms)) := by
  obtain ⟨h1, h2, h3⟩ := cx.st hn
  obtain ⟨rfl, hgl, hdb⟩ := cx.gl hg
  rcases cx.wd.tabK f hf with ⟨cc, j, a, fd, ps, hcc, hcn, hj, hmk, F, hb, hobj⟩ | hno
  · refine ps_imp (ps_set cx.nd' h1 h2 (pe_make hmk F (cx.room.mono hj) hgl (by rw [hcn]; exact (cx.wd.cls cc hcc).2.2.1) hb .nil (cx.pass X rfl rfl) (snd_nv cx es h (by rw [List.all_cons, hp, hps]; rfl)) hdb (star_plain hp) (back_plain hps)) (swaps_plain rfl) h3) fun E σ H ⟨bs, c, ok, fk, q⟩ => ?_
    rw [evS] at q
    obtain ⟨⟨ds, T1⟩, ea, q1⟩ := q.bind
    obtain ⟨⟨mm, T⟩, eb, q2⟩ := q1.bind
    simp only at q2
    split at q2
    · rename_i hc
      obtain ⟨rfl, hlen, hcn'⟩ := hc
      obtain ⟨m', em, q3⟩ := q2.bind
      obtain ⟨es', rfl⟩ := hobj _ _ em
      refine ⟨c, ds, mm, T, ok, ea, eb, fun us ws H1 s1 ⟨S, A, r, P⟩ => ?_⟩
      intro z dx nx ndx hne
      rw [List.append_nil]
      have sa : Same H1 (upd H1 dx (.own z)) := same_upd ndx
      have nx2 : upd H1 dx (.own z) z = none := by rw [upd_ne (Ne.symm hne)]; exact nx
      have sb : Same (upd H1 dx (.own z)) (upd (upd H1 dx (.own z)) z (.ins (C.at_ cc) dx [])) := same_upd nx2
      have s2 := sa.trans sb
      have nSx : ¬ S z := fun y => P.live z y nx
      have hAx : ∀ a ∈ A, a ≠ z := fun a y w => by
        subst w
        obtain ⟨o, e, _⟩ := P.rs.live a y
        rw [nx] at e; cases e
      refine ⟨z, dx, us, ws, S, ds, M.toDs mm, es', A, rfl, upd_same, r.same s2, hlen, (P.rs.cn hcn').same s2, P.nd, fun a y => ⟨(P.own a y).2, hAx a y⟩, fun a y w => P.live a y (s2.free w), nSx, em, fun H' S' fs hk hx hfs rs hS hL => ⟨rfl, ?_⟩⟩
      have s3 : Same H1 H' := fun a o e => by
        have hax : a ≠ z := fun y => by subst y; rw [nx] at e; cases e
        exact hk a o hax (s2 _ _ e)
      have ep : EPost X.K C c H H' (.ref z) (.frz (.obj cc es')) [] := by
        refine ⟨fun a => S' a ∨ a = z, [], ⟨fun a y => ?_, fun a y => ?_⟩, .frz (.obj (.inr rfl) hx ⟨hcc, hfs⟩ (rs.sub fun _ y => .inl y)), .nil, fun a y => by simp at y⟩
        · rcases y with y | rfl
          · rcases hS a y with y | y
            · exact (P.sub a y).imp_right .inr
            · exact .inr (.inr (s1.free (s2.free y)))
          · exact .inr (.inr (s1.free nx))
        · rcases y with y | rfl
          · exact hL a y
          · rw [hx]; simp
      obtain ⟨c', eg, ok', fk'⟩ := assign_ok (i := i) ok fk (s1.trans s3) ep
      exact q3 c' _ H' eg ok' fk'
    · exact q2.elim
  · refine ps_imp ps_never fun E σ H ⟨bs, c, ok, fk, q⟩ => ?_
    rw [evS] at q
    obtain ⟨⟨ds, T1⟩, ea, q1⟩ := q.bind
    obtain ⟨⟨mm, T⟩, eb, q2⟩ := q1.bind
    simp only at q2
    split at q2
    · obtain ⟨m', em, q3⟩ := q2.bind
      exact hno _ _ em
    · exact q2
end
end Ev

set_option maxRecDepth 100000
set_option maxHeartbeats 8000000
/-! Trees that are written and not looked at any more. -/
namespace Ev
open PySem PySem.Spec PyProof.Rows L2
inductive JR (K : PySem.W.Frag) (C : Kls) (H : Hp) (S : Addr → Prop) : V → Jv → List Addr → Prop
  | own {v : V} {m : M} {A : List Addr} : RM K C H S v m A → JR K C H S v (.own m) A
  | spine {a : Addr} {vs : List V} {l : Nat} : H a = some (.lst vs) → vs.length = l → JR K C H S (.ref a) (.spine l) [a]
structure EnvOk (K : PySem.W.Frag) (C : Kls) (bs : Bs) (c : Cf) (σ : L2.St) (H : Hp) (env : Je) (fp : Nat → List Addr) : Prop where
  key : (env.map (·.1)).Nodup
  val : ∀ n j, (n, j) ∈ env → ∃ v, σ[n]? = some (some v) ∧ JR K C H c.S v j (fp n)
  own : ∀ n j, (n, j) ∈ env → ∀ a ∈ fp n, ¬ c.S a ∧ (∀ i, a ∉ c.fp i) ∧ bs.H0 a = none
  nd : ∀ n j, (n, j) ∈ env → (fp n).Nodup
  dj : ∀ n m j l a, (n, j) ∈ env → (m, l) ∈ env → a ∈ fp n → a ∈ fp m → n = m
structure JFr (nms : List Nat) (env : Je) (fp : Nat → List Addr) (env' : Je) (fp' : Nat → List Addr) (σ σ' : L2.St) (H H' : Hp) : Prop where
  st : ∀ k, k ∉ nms → σ'[k]? = σ[k]?
  hp : ∀ a o, H a = some o → (∀ n j, (n, j) ∈ env → a ∉ fp n) → H' a = some o
  fp : ∀ n j, (n, j) ∈ env' → (∃ l, (n, l) ∈ env) ∧ ∀ a ∈ fp' n, a ∈ fp n
section
variable {K : PySem.W.Frag} {C : Kls} {c : Cf} {σ σ' σ2 : L2.St} {H H' H2 : Hp} {S : Addr → Prop} {bs : Bs} {v : V} {j : Jv} {A : List Addr} {env env1 env2 : Je} {fp fp1 fp2 : Nat → List Addr} {n : Nat}
theorem JR.mono {S' : Addr → Prop} (k : Kp S' H H') (hs : ∀ a, S a → S' a) (hA : ∀ a ∈ A, S' a) : JR K C H S v j A → JR K C H' S v j A
  | .own r => .own (r.mono (fun _ z => z) k hs hA)
  | .spine e l => .spine (k.set _ _ (hA _ (by simp)) e) l
theorem JR.live : JR K C H S v j A → ∀ a ∈ A, ∃ o, H a = some o ∧ isObj o = true
  | .own r, a, h => r.live a h
  | .spine e l, a, h => by
    obtain rfl : a = _ := by simpa using h
    exact ⟨_, e, rfl⟩
theorem JR.lst {l : Nat} (h : j.len = some l) (r : JR K C H S v j A) : ∃ a vs, v = .ref a ∧ H a = some (.lst vs) ∧ vs.length = l ∧ a ∈ A := by
  cases r with
  | spine e q => cases h; exact ⟨_, _, rfl, e, q, by simp⟩
  | own r =>
    cases r with
    | frz r => cases h
    | fl e r => cases h; exact ⟨_, _, rfl, e, r.length, by simp⟩
    | lst e r => cases h; exact ⟨_, _, rfl, e, r.length, by simp⟩
    | tup e r => cases h
    | obj e f r => cases h
theorem jLook_mem : ∀ {env : Je} {j : Jv}, jLook n env = some j → (n, j) ∈ env
  | [], _, h => by cases h
  | (k, v) :: r, j, h => by
    rw [jLook] at h
    split at h
    · rename_i e; cases h; subst e; simp
    · exact List.mem_cons_of_mem _ (jLook_mem h)
theorem jDrop_mem : ∀ {env : Je}, (env.map (·.1)).Nodup → ∀ {m : Nat} {j : Jv}, (m, j) ∈ jDrop n env → (m, j) ∈ env ∧ m ≠ n
  | [], _, m, j, h => by simp [jDrop] at h
  | (k, v) :: r, nd, m, j, h => by
    simp only [List.map_cons, List.nodup_cons] at nd
    rw [jDrop] at h
    split at h
    · rename_i e
      refine ⟨List.mem_cons_of_mem _ h, fun z => nd.1 ?_⟩
      rw [e, ← z]
      exact List.mem_map.mpr ⟨_, h, rfl⟩
    · rename_i e
      rcases List.mem_cons.mp h with h | h
      · cases h; exact ⟨by simp, e⟩
      · have := jDrop_mem nd.2 h
        exact ⟨List.mem_cons_of_mem _ this.1, this.2⟩
theorem jDrop_nd : ∀ {env : Je}, (env.map (·.1)).Nodup → ((jDrop n env).map (·.1)).Nodup ∧ n ∉ (jDrop n env).map (·.1)
  | [], _ => by simp [jDrop]
  | (k, v) :: r, nd => by
    have nd' := nd
    simp only [List.map_cons, List.nodup_cons] at nd
    rw [jDrop]
    split
    · rename_i e
      subst e
      exact ⟨nd.2, nd.1⟩
    · rename_i e
      have ih := jDrop_nd nd.2
      refine ⟨?_, ?_⟩
      · rw [List.map_cons, List.nodup_cons]
        refine ⟨fun z => nd.1 ?_, ih.1⟩
        obtain ⟨⟨m, j⟩, hm, he⟩ := List.mem_map.mp z
        exact List.mem_map.mpr ⟨_, (jDrop_mem nd.2 hm).1, he⟩
      · rw [List.map_cons, List.mem_cons]
        exact fun z => z.elim (fun y => e y.symm) ih.2
theorem kp_of (hl : ∀ a ∈ A, ∃ o, H a = some o ∧ isObj o = true) (hk : ∀ b o, H b = some o → b ∉ A → H' b = some o) : Kp (fun b => b ∉ A) H H' := by
  have no : ∀ b o, H b = some o → isObj o = false → b ∉ A := fun b o e io z => by
    obtain ⟨o', e', io'⟩ := hl b z
    rw [e] at e'; cases e'; rw [io] at io'; cases io'
  exact ⟨fun a o s e => hk a o e s, fun a xs e => hk a _ e (no a _ e rfl), fun a o u e => hk a _ e (no a _ e rfl)⟩
theorem EnvOk.spine (k : EnvOk K C bs c σ H env fp) {j : Jv} (hn : (n, j) ∈ env) {a : Addr} (hv : σ[n]? = some (some (.ref a))) (ha : a ∈ fp n) (hst : ∀ m l, (m, l) ∈ env → σ'[m]? = σ[m]?) (hk : ∀ b o, H b = some o → b ∉ fp n → H' b = some o) {ws : List V} (e : H' a = some (.lst ws)) :
    EnvOk K C bs c σ' H' ((n, .spine ws.length) :: jDrop n env) (fun m => if m = n then [a] else fp m) := by
  obtain ⟨d1, d2⟩ := jDrop_nd (n := n) k.key
  obtain ⟨v0, _, r0⟩ := k.val n j hn
  have kp := kp_of (r0.live) hk
  have cs : ∀ m l, (m, l) ∈ (n, Jv.spine ws.length) :: jDrop n env → (m = n ∧ l = .spine ws.length) ∨ (m ≠ n ∧ (m, l) ∈ env) := fun m l h => by
    rcases List.mem_cons.mp h with h | h
    · cases h; exact .inl ⟨rfl, rfl⟩
    · have := jDrop_mem k.key h
      exact .inr ⟨this.2, this.1⟩
  refine ⟨by rw [List.map_cons, List.nodup_cons]; exact ⟨d2, d1⟩, fun m l h => ?_, fun m l h b hb => ?_, fun m l h => ?_, fun m m2 l l2 b h h2 hb hb2 => ?_⟩
  · rcases cs m l h with ⟨rfl, rfl⟩ | ⟨hm, h⟩
    · refine ⟨.ref a, by rw [hst _ _ hn]; exact hv, ?_⟩
      rw [if_pos rfl]
      exact .spine e rfl
    · obtain ⟨w, ew, r⟩ := k.val m l h
      refine ⟨w, by rw [hst _ _ h]; exact ew, ?_⟩
      rw [if_neg hm]
      exact r.mono kp (fun b z y => (k.own n j hn b y).1 z) fun b z y => hm (k.dj m n l j b h hn z y)
  · rcases cs m l h with ⟨rfl, rfl⟩ | ⟨hm, h⟩
    · rw [if_pos rfl] at hb
      obtain rfl : b = a := by simpa using hb
      exact k.own m j hn b ha
    · rw [if_neg hm] at hb
      exact k.own m l h b hb
  · rcases cs m l h with ⟨rfl, rfl⟩ | ⟨hm, h⟩
    · rw [if_pos rfl]; simp
    · rw [if_neg hm]; exact k.nd m l h
  · by_cases hm : m = n <;> by_cases hm2 : m2 = n
    · rw [hm, hm2]
    · rw [if_pos hm] at hb
      rw [if_neg hm2] at hb2
      obtain rfl : b = a := by simpa using hb
      rcases cs m2 l2 h2 with ⟨e1, _⟩ | ⟨_, h2'⟩
      · exact absurd e1 hm2
      · exact absurd (k.dj m2 n l2 j b h2' hn hb2 ha) hm2
    · rw [if_neg hm] at hb
      rw [if_pos hm2] at hb2
      obtain rfl : b = a := by simpa using hb2
      rcases cs m l h with ⟨e1, _⟩ | ⟨_, h'⟩
      · exact absurd e1 hm
      · exact absurd (k.dj m n l j b h' hn hb ha) hm
    · rw [if_neg hm] at hb
      rw [if_neg hm2] at hb2
      rcases cs m l h with ⟨e1, _⟩ | ⟨_, h'⟩
      · exact absurd e1 hm
      · rcases cs m2 l2 h2 with ⟨e1, _⟩ | ⟨_, h2'⟩
        · exact absurd e1 hm2
        · exact k.dj m m2 l l2 b h' h2' hb hb2
theorem JFr.refl {nms : List Nat} : JFr nms env fp env fp σ σ H H := ⟨fun _ _ => rfl, fun a o e _ => e, fun n j h => ⟨⟨j, h⟩, fun a z => z⟩⟩
theorem JFr.trans {n1 n2 : List Nat} (f : JFr n1 env fp env1 fp1 σ σ' H H') (g : JFr n2 env1 fp1 env2 fp2 σ' σ2 H' H2) : JFr (n1 ++ n2) env fp env2 fp2 σ σ2 H H2 := by
  refine ⟨fun k h => ?_, fun a o e h => ?_, fun n j h => ?_⟩
  · rw [List.mem_append, not_or] at h
    rw [g.st k h.2, f.st k h.1]
  · refine g.hp a o (f.hp a o e h) fun n j hn z => ?_
    obtain ⟨⟨l, hl⟩, hs⟩ := f.fp n j hn
    exact h n l hl (hs a z)
  · obtain ⟨⟨l, hl⟩, hs⟩ := g.fp n j h
    obtain ⟨⟨l2, hl2⟩, hs2⟩ := f.fp n l hl
    exact ⟨⟨l2, hl2⟩, fun a z => hs2 a (hs a z)⟩
def setAll : L2.St → List Nat → List V → L2.St
  | σ, i :: is, v :: vs => setAll (σ.set i (some v)) is vs
  | σ, _, _ => σ
theorem setAll_ne : ∀ {is : List Nat} {vs : List V} {σ : L2.St} {k : Nat}, k ∉ is → (setAll σ is vs)[k]? = σ[k]?
  | [], _, _, _, _ => by simp [setAll]
  | _ :: _, [], _, _, _ => by simp [setAll]
  | i :: is, v :: vs, σ, k, h => by
    rw [List.mem_cons, not_or] at h
    rw [setAll, setAll_ne h.2, List.getElem?_set_ne (Ne.symm h.1)]
theorem gNs_all : ∀ {is : List Nat} {vs : List V} {σ : L2.St} {Q : L2.St → Hp → Prop}, vs.length = is.length → Q (setAll σ is vs) H → gNs is vs σ H Q
  | [], [], σ, Q, _, h => ⟨rfl, h⟩
  | i :: is, v :: vs, σ, Q, hl, h => by
    refine ⟨v, vs, rfl, ?_⟩
    show gNs is vs (σ.set i (some v)) H Q
    exact gNs_all (by simpa using hl) h
  | [], _ :: _, _, _, hl, _ => by simp at hl
  | _ :: _, [], _, _, hl, _ => by simp at hl
theorem Ok.set1 (k : Ok K C c σ H) {i : Nat} {v : V} (h : ∀ m, c.g[i]? ≠ some (some m)) : Ok K C c (σ.set i (some v)) H :=
  ⟨by simp [k.len], fun j m e => by
    obtain ⟨w, e1, r⟩ := k.slot j m e
    have hj : j ≠ i := fun z => h m (z ▸ e)
    exact ⟨w, by rw [List.getElem?_set_ne (Ne.symm hj)]; exact e1, r⟩, k.live, k.own, k.nd, k.dj⟩
theorem Ok.setAll : ∀ {is : List Nat} {vs : List V} {σ : L2.St}, Ok K C c σ H → (∀ i ∈ is, ∀ m, c.g[i]? ≠ some (some m)) → Ok K C c (setAll σ is vs) H
  | [], _, _, k, _ => by simpa [Ev.setAll] using k
  | _ :: _, [], _, k, _ => by simpa [Ev.setAll] using k
  | i :: is, v :: vs, σ, k, h => by
    rw [Ev.setAll]
    exact Ok.setAll (k.set1 (h i (by simp))) fun l hl => h l (List.mem_cons_of_mem _ hl)
/-- the parts of a tuple, under their names -/
theorem env_zip : ∀ {is : List Nat} {ms : List M} {vs : List V} {A : List Addr} {σ : L2.St}, RMs K C H c.S vs ms A → is.Nodup → ms.length = is.length → A.Nodup → (∀ a ∈ A, ¬ c.S a ∧ (∀ i, a ∉ c.fp i) ∧ bs.H0 a = none) → (∀ i ∈ is, i < σ.length) →
    ∃ fp, EnvOk K C bs c (setAll σ is vs) H (is.zip (ms.map Jv.own)) fp ∧ ∀ n j, (n, j) ∈ is.zip (ms.map Jv.own) → ∀ a ∈ fp n, a ∈ A
  | [], [], _, _, σ, .nil, _, _, _, _, _ => ⟨fun _ => [], ⟨by simp, fun n j h => by simp at h, fun n j h => by simp at h, fun n j h => by simp at h, fun n m j l a h => by simp at h⟩, fun n j h => by simp at h⟩
  | i :: is, m :: ms, _, _, σ, .cons (v := v) (vs := vs) (A := A1) (B := A2) r t, nd, hl, nA, hA, hs => by
    rw [List.nodup_cons] at nd
    obtain ⟨n1, n2, n3⟩ := List.nodup_append.mp nA
    obtain ⟨fp, eo, sb⟩ := env_zip (σ := σ.set i (some v)) t nd.2 (by simpa using hl) n2 (fun a z => hA a (List.mem_append_right _ z)) (fun k hk => by rw [List.length_set]; exact hs k (List.mem_cons_of_mem _ hk))
    have hin : ∀ n j, (n, j) ∈ is.zip (ms.map Jv.own) → n ≠ i := fun n j h z => nd.1 (z ▸ (List.of_mem_zip h).1)
    have cs : ∀ n j, (n, j) ∈ (i :: is).zip ((m :: ms).map Jv.own) → (n = i ∧ j = .own m) ∨ (n ≠ i ∧ (n, j) ∈ is.zip (ms.map Jv.own)) := fun n j h => by
      rw [List.map_cons, List.zip_cons_cons] at h
      rcases List.mem_cons.mp h with h | h
      · cases h; exact .inl ⟨rfl, rfl⟩
      · exact .inr ⟨hin n j h, h⟩
    refine ⟨fun k => if k = i then A1 else fp k, ⟨?_, fun n j h => ?_, fun n j h a ha => ?_, fun n j h => ?_, fun n n2 j l a h h2 ha ha2 => ?_⟩, fun n j h a ha => ?_⟩
    · rw [List.map_cons, List.zip_cons_cons, List.map_cons, List.nodup_cons]
      refine ⟨fun z => ?_, eo.key⟩
      obtain ⟨⟨n, j⟩, hm, he⟩ := List.mem_map.mp z
      exact hin n j hm he
    · rcases cs n j h with ⟨rfl, rfl⟩ | ⟨hn, h⟩
      · refine ⟨v, ?_, ?_⟩
        · rw [setAll, setAll_ne nd.1, List.getElem?_set_self (hs n (by simp))]
        · rw [if_pos rfl]; exact .own r
      · obtain ⟨w, e, q⟩ := eo.val n j h
        refine ⟨w, ?_, ?_⟩
        · rw [setAll]; exact e
        · rw [if_neg hn]; exact q
    · rcases cs n j h with ⟨rfl, rfl⟩ | ⟨hn, h⟩
      · rw [if_pos rfl] at ha; exact hA a (List.mem_append_left _ ha)
      · rw [if_neg hn] at ha; exact eo.own n j h a ha
    · rcases cs n j h with ⟨rfl, rfl⟩ | ⟨hn, h⟩
      · rw [if_pos rfl]; exact n1
      · rw [if_neg hn]; exact eo.nd n j h
    · replace ha : a ∈ (if n = i then A1 else fp n) := ha
      replace ha2 : a ∈ (if n2 = i then A1 else fp n2) := ha2
      by_cases hn : n = i <;> by_cases hn2 : n2 = i
      · rw [hn, hn2]
      · rw [if_pos hn] at ha
        rw [if_neg hn2] at ha2
        rcases cs n2 l h2 with ⟨e1, _⟩ | ⟨_, h2'⟩
        · exact absurd e1 hn2
        · exact absurd rfl (n3 a ha a (sb n2 l h2' a ha2))
      · rw [if_neg hn] at ha
        rw [if_pos hn2] at ha2
        rcases cs n j h with ⟨e1, _⟩ | ⟨_, h'⟩
        · exact absurd e1 hn
        · exact absurd rfl (n3 a ha2 a (sb n j h' a ha))
      · rw [if_neg hn] at ha
        rw [if_neg hn2] at ha2
        rcases cs n j h with ⟨e1, _⟩ | ⟨_, h'⟩
        · exact absurd e1 hn
        · rcases cs n2 l h2 with ⟨e1, _⟩ | ⟨_, h2'⟩
          · exact absurd e1 hn2
          · exact eo.dj n n2 j l a h' h2' ha ha2
    · replace ha : a ∈ (if n = i then A1 else fp n) := ha
      rcases cs n j h with ⟨hn, _⟩ | ⟨hn, h⟩
      · rw [if_pos hn] at ha; exact List.mem_append_left _ ha
      · rw [if_neg hn] at ha; exact List.mem_append_right _ (sb n j h a ha)
  | [], _ :: _, _, _, _, _, _, hl, _, _, _ => by simp at hl
  | _ :: _, [], _, _, _, _, _, hl, _, _, _ => by simp at hl
end
def tJ (K : PySem.W.Frag) (C : Kls) (run : Gm → Je → Res Je) (nms : List Nat) : TS := fun E σ H => ∃ bs c env fp env', Ok K C c σ H ∧ Fk bs c H ∧ EnvOk K C bs c σ H env fp ∧ run c.g env = .ok env' ∧ (∀ k ∈ nms, ∀ m, c.g[k]? ≠ some (some m)) ∧
  ∀ σ' H' fp', Ok K C c σ' H' → Fk bs c H' → EnvOk K C bs c σ' H' env' fp' → JFr nms env fp env' fp' σ σ' H H' → E.nx σ' H'
section
variable {X : Cx} {CX : CXT} {C : Kls} {k W : Nat} {Φ : String → List D → Res M} {G : String → Option D} {bl : List String} {N : List Str} {sc : Scope}
variable {x tg iter : Expr} {xs : List Expr} {sts : List Stmt} {pos p : Pos} {a e : E} {es ms : Es} {c : Cf} {σ : L2.St} {H H' H0 : Hp} {bs : Bs}
theorem snd_japp (cx : Ctx X CX C k Φ G bl N sc) {n : Nat} {m : Str} {ap p' : Pos} (hn : nmOk N sc m n = true) (hl : (ap.endLine == p.line) = true) (hp : plainB x = true) (ha : PE X x (tEv X.K C Φ G e)) :
    PS X (.Expr (.Call (.Attribute (.Name m p') "append" ap) [x] [] p) pos) (tJ X.K C (fun g => jRun Φ G g (.app n e)) []) := by
  obtain ⟨h1, h2, h3, h4⟩ := cx.vis hn
  have few : ((backTo p (starEach [x] X.env)).all (fun x => !x.1) && (backToKw p (keywordEach [] X.env)).all (fun x => x.1.isSome) && decide (([x] : List Expr).length + ([] : List Keyword).length + (if ([] : List Keyword).isEmpty then 0 else 1) < 30)) = true := by
    rw [star_plain hp]; rfl
  refine ps_imp (ps_expr (pe_bm PySem.F.plainAttrs_list PySem.F.slot_list_append PySem.F.type_list_append mt_append (pe_var (pos := p') h1 h2 h3 h4) (pa_cons ha pa_nil (star_plain hp)) (base_plain rfl) few hl (star_plain hp) rfl) (swaps_plain rfl)) fun E σ H ⟨bs, c, env, fp, env', ok, fk, eo, run, hcl, q⟩ => ?_
  replace run : jRun Φ G c.g (.app n e) env = .ok env' := run
  rw [jRun] at run
  obtain ⟨⟨mm, T⟩, ea, run⟩ := Res.bind_eq_ok run
  split at run
  · rename_i l hT hlk
    split at run
    · rename_i hlim
      cases run
      obtain ⟨j, hj, hlen⟩ := Option.bind_eq_some_iff.mp hlk
      have hm := jLook_mem hj
      obtain ⟨v0, e0, r0⟩ := eo.val n j hm
      obtain ⟨pl, vs, rfl, el, hvl, hpl⟩ := r0.lst hlen
      refine ⟨_, e0, .inl ⟨rfl, vs, SqL.of el⟩, c, ok, ?_⟩
      rw [ea]
      intro y H1 s1 p1
      refine ⟨pl, vs, y, rfl, rfl, s1 _ _ el, by rw [hvl]; exact lim_lt hlim, ?_⟩
      obtain ⟨o1, o2, o3⟩ := eo.own n j hm pl hpl
      have el1 := s1 _ _ el
      have hk : ∀ b o, H b = some o → b ∉ fp n → upd H1 pl (.lst (vs ++ [y])) b = some o := fun b o eb hb => by
        rw [upd_ne (fun z => hb (by rw [z]; exact hpl))]; exact s1 _ _ eb
      have sp := eo.spine (σ' := σ) hm e0 hpl (fun _ _ _ => rfl) hk (ws := vs ++ [y]) upd_same
      rw [List.length_append, hvl] at sp
      refine q σ _ _ ((ok.same s1).out el1 rfl o1 o2) ((fk.st s1).out el1 rfl o1 o3) sp ⟨fun _ _ => rfl, fun b o eb hb => hk b o eb (hb n j hm), fun n' j' h => ?_⟩
      rcases List.mem_cons.mp h with h | h
      · cases h
        refine ⟨⟨j, hm⟩, fun b hb => ?_⟩
        rw [if_pos rfl] at hb
        obtain rfl : b = pl := by simpa using hb
        exact hpl
      · obtain ⟨d1, d2⟩ := jDrop_mem eo.key h
        refine ⟨⟨j', d1⟩, fun b hb => ?_⟩
        rw [if_neg d2] at hb; exact hb
    · cases run
  · cases run
theorem snd_jfor (cx : Ctx X CX C k Φ G bl N sc) (hown : PassesOwn (model X.prog X.w) X.A X.env X.xe) {n : Nat} {m : Str} {is : List Nat} {b : Js} (hn : nmOk N sc m n = true) (ht : chkT N sc (.tp is) tg = true) (hb : PSs X sts (tJ X.K C (fun g => jRuns Φ G g b) b.nms)) :
    PS X (.For tg (.Name m p) sts [] pos) (tJ X.K C (fun g => jRun Φ G g (.for n is b)) (J.nms (.for n is b))) := by
  obtain ⟨h1, h2, h3, h4⟩ := cx.vis hn
  refine ps_imp (ps_for hown cx.calm (pi_list (pe_var h1 h2 h3 h4)) (snd_tg cx ht) hb (fold_plain rfl)) fun E σ H ⟨bs, c, env, fp, env', ok, fk, eo, run, hcl, q⟩ => ?_
  replace run : jRun Φ G c.g (.for n is b) env = .ok env' := run
  rw [jRun] at run
  split at run
  · rename_i ms hlk
    split at run
    · rename_i hif
      obtain ⟨nd, hkey⟩ := hif
      obtain ⟨u, ef, run⟩ := Res.bind_eq_ok run
      cases run
      have hm := jLook_mem hlk
      obtain ⟨v0, e0, r0⟩ := eo.val n _ hm
      have own0 := eo.own n _ hm
      have nd0 := eo.nd n _ hm
      generalize hA0 : fp n = A0 at r0 own0 nd0
      cases r0 with
      | own r0 =>
      cases r0 with
      | @lst pl vs _ A el rs =>
      have haA : pl ∉ A := (List.nodup_cons.mp nd0).1
      have hlen : vs.length = ms.length := rs.length
      have ispart : ∀ i ∈ is, i ∈ J.nms (.for n is b) := fun i h => List.mem_append_left _ h
      refine ⟨_, e0, pl, rfl, ⟨vs, SqL.of el⟩, ?_⟩
      let LI : Nat → L2.St → Hp → Prop := fun i σ2 H2 => ∃ A2, Ok X.K C c σ2 H2 ∧ Fk bs c H2 ∧ RMs X.K C H2 c.S (vs.drop i) (ms.drop i) A2 ∧ A2.Nodup ∧ (∀ z ∈ A2, z ∈ A) ∧ (∀ k, k ∉ J.nms (.for n is b) → σ2[k]? = σ[k]?) ∧ (∀ z o, H z = some o → z ∉ A → H2 z = some o) ∧ jFor (jRuns Φ G c.g b) is (ms.drop i) = .ok u
      refine ⟨fun i m σ2 H2 => i + m = vs.length ∧ LI i σ2 H2, ⟨vs.length, by simp, A, ok, fk, rs, (List.nodup_cons.mp nd0).2, fun z h => h, fun _ _ => rfl, fun z o e _ => e, ef⟩, ?_⟩
      rintro i mm σ2 H2 ⟨him, A2, ok2, fk2, r2, nd2, sub2, st2, hk2, run2⟩
      have e2 := hk2 pl _ el haA
      by_cases hlt : i < vs.length
      · have hlt' : i < ms.length := by omega
        rw [List.drop_eq_getElem_cons hlt, List.drop_eq_getElem_cons hlt'] at r2
        rw [List.drop_eq_getElem_cons hlt'] at run2
        generalize hvi : vs[i] = vi at r2
        generalize ms[i] = mi at r2 run2
        cases r2 with
        | @cons _ _ _ _ A1 A3 r t =>
        cases mi <;> first | (simp [jFor] at run2; done) | skip
        rename_i msi
        cases r with
        | @tup ba vsi _ _ sq ri =>
        rw [jFor] at run2
        split at run2
        · rename_i hl2
          obtain ⟨envb, eb, run3⟩ := Res.bind_eq_ok run2
          obtain ⟨n1, n2, n3⟩ := List.nodup_append.mp nd2
          refine .inr ⟨⟨vs, vs[i], SqL.of e2, List.getElem?_eq_getElem hlt⟩, fun σ' H' => (i + 1) + (mm - 1) = vs.length ∧ LI (i + 1) σ' H', fun σ' H' w => ⟨mm - 1, by omega, w⟩, ?_⟩
          rintro y H' ⟨eH, hy⟩
          subst H'
          have := hy vs (SqL.of e2)
          rw [List.getElem?_eq_getElem hlt, hvi] at this
          cases this
          have ownA : ∀ z ∈ A1, ¬ c.S z ∧ (∀ i, z ∉ c.fp i) ∧ bs.H0 z = none := fun z hz => own0 z (List.mem_cons_of_mem _ (sub2 z (List.mem_append_left _ hz)))
          refine .inl ⟨ba, vsi, rfl, sq, by rw [ri.length, hl2], gNs_all (by rw [ri.length, hl2]) ?_⟩
          obtain ⟨fpb, eob, sb⟩ := env_zip (bs := bs) (σ := σ2) ri nd hl2 n1 ownA (fun k hk => by rw [← ok2.len]; exact (hkey k (List.mem_append_left _ hk)).2)
          refine ⟨bs, c, _, fpb, envb, ok2.setAll fun k hk => hcl k (ispart k hk), fk2, eob, eb, fun k hk => hcl k (List.mem_append_right _ hk), fun σ4 H4 fp4 ok4 fk4 _ fr => ?_⟩
          have keep : ∀ z o, H2 z = some o → z ∉ A1 → H4 z = some o := fun z o e hz => fr.hp z o e fun n' j' h' w => hz (sb n' j' h' z w)
          have kp := kp_of (fun z hz => ri.live z hz) keep
          refine ⟨by omega, A3, ok4, fk4, t.mono (fun _ z => z) kp (fun z hz w => (ownA z w).1 hz) (fun z hz w => n3 z w z hz rfl), n2, fun z hz => sub2 z (List.mem_append_right _ hz), fun k hk => ?_, fun z o e hz => keep z o (hk2 z o e hz) fun w => hz (sub2 z (List.mem_append_left _ w)), run3⟩
          have hk' : k ∉ is ∧ k ∉ b.nms := by
            have : k ∉ is ++ b.nms := hk
            rw [List.mem_append, not_or] at this
            exact this
          rw [fr.st k hk'.2, setAll_ne hk'.1, st2 k hk]
        · cases run2
      · have ei : i = vs.length := by omega
        subst ei
        have keys : ∀ m l, (m, l) ∈ env → σ2[m]? = σ[m]? := fun m l h => st2 m fun z => (hkey m z).1 (List.mem_map.mpr ⟨_, h, rfl⟩)
        have hplf : pl ∈ fp n := by rw [hA0]; simp
        have sp := eo.spine (σ' := σ2) (H' := H2) hm e0 hplf keys (fun z o e hz => hk2 z o e fun w => hz (by rw [hA0]; exact List.mem_cons_of_mem _ w)) e2
        rw [hlen] at sp
        refine .inl ⟨⟨vs, SqL.of e2, Nat.le_refl _⟩, q σ2 H2 _ ok2 fk2 sp ⟨st2, fun z o e h => hk2 z o e fun w => h n _ hm (by rw [hA0]; exact List.mem_cons_of_mem _ w), fun n' j' h => ?_⟩⟩
        rcases List.mem_cons.mp h with h | h
        · cases h
          refine ⟨⟨_, hm⟩, fun z hz => ?_⟩
          rw [if_pos rfl] at hz
          obtain rfl : z = pl := by simpa using hz
          exact hplf
        · obtain ⟨d1, d2⟩ := jDrop_mem eo.key h
          refine ⟨⟨j', d1⟩, fun z hz => ?_⟩
          rw [if_neg d2] at hz; exact hz
    · cases run
  · cases run
mutual
theorem sJ (hown : PassesOwn (model X.prog X.w) X.A X.env X.xe) (cx : Ctx X CX C k Φ G bl N sc) : ∀ (j : J) {st : Stmt}, chkJ N bl C.n sc j st = true → PS X st (tJ X.K C (fun g => jRun Φ G g j) j.nms)
  | .app n e, st, h => by
    cases st <;> first | (simp [chkJ] at h; done) | skip
    rename_i x pos
    rw [chkJ] at h
    cases h1 : asMeth x with
    | none => rw [h1] at h; cases h
    | some q =>
      obtain ⟨m, f, ap, xs, p⟩ := q
      rw [h1] at h
      obtain ⟨p', rfl⟩ := asMeth_eq h1
      match xs, h with
      | [y], h =>
        simp only [Bool.and_eq_true, decide_eq_true_eq] at h
        obtain ⟨⟨⟨⟨rfl, h5⟩, h2⟩, h3⟩, h4⟩ := h
        exact snd_japp cx h5 h2 h3 (sE e cx h4)
      | [], h => simp at h
      | _ :: _ :: _, h => simp at h
  | .for n is b, st, h => by
    cases st <;> first | (simp [chkJ] at h; done) | skip
    rename_i tg x xs ys pos
    rw [chkJ] at h
    cases h1 : asName x with
    | none => rw [h1] at h; cases h
    | some m =>
      rw [h1] at h
      obtain ⟨p', rfl⟩ := asName_eq h1
      simp only [Bool.and_eq_true, List.isEmpty_iff] at h
      obtain ⟨⟨⟨g1, rfl⟩, g2⟩, g3⟩ := h
      exact snd_jfor cx hown g1 g2 (sJs hown cx b g3)
termination_by j => sizeOf j
theorem sJs (hown : PassesOwn (model X.prog X.w) X.A X.env X.xe) (cx : Ctx X CX C k Φ G bl N sc) : ∀ (j : Js) {st : List Stmt}, chkJs N bl C.n sc j st = true → PSs X st (tJ X.K C (fun g => jRuns Φ G g j) j.nms)
  | .nil, st, h => by
    cases st with
    | cons _ _ => simp [chkJs] at h
    | nil =>
      refine pss_imp pss_nil fun E σ H ⟨bs, c, env, fp, env', ok, fk, eo, run, hcl, q⟩ => ?_
      replace run : jRuns Φ G c.g .nil env = .ok env' := run
      rw [jRuns] at run
      cases run
      exact q σ H fp ok fk eo .refl
  | .cons j r, st, h => by
    cases st with
    | nil => simp [chkJs] at h
    | cons x xs =>
      simp only [chkJs, Bool.and_eq_true] at h
      refine pss_imp (pss_cons (sJ hown cx j h.1) (sJs hown cx r h.2)) fun E σ H ⟨bs, c, env, fp, env', ok, fk, eo, run, hcl, q⟩ => ?_
      replace run : jRuns Φ G c.g (.cons j r) env = .ok env' := run
      rw [jRuns] at run
      obtain ⟨env1, e1, e2⟩ := Res.bind_eq_ok run
      exact ⟨bs, c, env, fp, env1, ok, fk, eo, e1, fun k hk => hcl k (List.mem_append_left _ hk), fun σ1 H1 fp1 ok1 fk1 eo1 fr1 => ⟨bs, c, env1, fp1, env', ok1, fk1, eo1, e2, fun k hk => hcl k (List.mem_append_right _ hk), fun σ2 H2 fp2 ok2 fk2 eo2 fr2 => q σ2 H2 fp2 ok2 fk2 eo2 (fr1.trans fr2)⟩⟩
termination_by j => sizeOf j
end
/-- the first statements of a suite -/
theorem sTake (hown : PassesOwn (model X.prog X.w) X.A X.env X.xe) (cx : Ctx X CX C k Φ G bl N sc) {tr : TS} : ∀ (j : Js) {st rest : List Stmt}, takeJs N bl C.n sc j st = some rest → PSs X rest tr → PSs X st (fun E => tJ X.K C (fun g => jRuns Φ G g j) j.nms { E with nx := tr E })
  | .nil, st, rest, h, hr => by
    rw [takeJs] at h
    cases h
    refine pss_imp hr fun E σ H ⟨bs, c, env, fp, env', ok, fk, eo, run, hcl, q⟩ => ?_
    replace run : jRuns Φ G c.g .nil env = .ok env' := run
    rw [jRuns] at run
    cases run
    exact q σ H fp ok fk eo .refl
  | .cons j r, st, rest, h, hr => by
    cases st with
    | nil => simp [takeJs] at h
    | cons x xs =>
      rw [takeJs] at h
      split at h
      · rename_i hc
        refine pss_imp (pss_cons (sJ hown cx j hc) (sTake hown cx r h hr)) fun E σ H ⟨bs, c, env, fp, env', ok, fk, eo, run, hcl, q⟩ => ?_
        replace run : jRuns Φ G c.g (.cons j r) env = .ok env' := run
        rw [jRuns] at run
        obtain ⟨env1, e1, e2⟩ := Res.bind_eq_ok run
        exact ⟨bs, c, env, fp, env1, ok, fk, eo, e1, fun k hk => hcl k (List.mem_append_left _ hk), fun σ1 H1 fp1 ok1 fk1 eo1 fr1 => ⟨bs, c, env1, fp1, env', ok1, fk1, eo1, e2, fun k hk => hcl k (List.mem_append_right _ hk), fun σ2 H2 fp2 ok2 fk2 eo2 fr2 => q σ2 H2 fp2 ok2 fk2 eo2 (fr1.trans fr2)⟩⟩
      · cases h
theorem clrG_len : ∀ {is : List Nat} {g : Gm}, (clrG is g).length = g.length
  | [], g => rfl
  | i :: is, g => by rw [clrG, clrG_len, List.length_set]
theorem clrG_get : ∀ {is : List Nat} {g : Gm} {k : Nat} {m : M}, (clrG is g)[k]? = some (some m) → k ∉ is ∧ g[k]? = some (some m)
  | [], g, k, m, h => ⟨by simp, h⟩
  | i :: is, g, k, m, h => by
    rw [clrG] at h
    obtain ⟨h1, h2⟩ := clrG_get h
    have hk : k ≠ i := fun z => by
      subst z
      by_cases hl : k < g.length
      · rw [List.getElem?_set_self hl] at h2; cases h2
      · rw [List.getElem?_eq_none (by rw [List.length_set]; omega)] at h2; cases h2
    rw [List.getElem?_set_ne (Ne.symm hk)] at h2
    exact ⟨by rw [List.mem_cons, not_or]; exact ⟨hk, h1⟩, h2⟩
theorem snd_wrk (hown : PassesOwn (model X.prog X.w) X.A X.env X.xe) (cx : Ctx X CX C k Φ G bl N sc) {n : Nat} {js : Js} {r : Ss} {st rest : List Stmt} (h : takeJs N bl C.n sc js st = some rest) (hr : PSs X rest (tBv X.K C Φ G W r)) : PSs X st (tBv X.K C Φ G W (.wrk n js r)) := by
  refine pss_imp (sTake hown cx js h hr) fun E σ H ⟨bs, c, ok, fk, q⟩ => ?_
  rw [evSs] at q
  split at q
  · rename_i m hg
    obtain ⟨env', e1, q⟩ := q.bind
    obtain ⟨v, ev1, rv⟩ := ok.slot n m hg
    have ok' : Ok X.K C (c.bd (n :: js.nms) (clrG (n :: js.nms) c.g)) σ H := by
      refine ok.bd (by rw [clrG_len]; exact ok.len) fun j m' e => ?_
      obtain ⟨hj, e'⟩ := clrG_get e
      obtain ⟨w, ew, rw'⟩ := ok.slot j m' e'
      exact ⟨w, ew, by show RM _ _ _ _ _ _ (if j ∈ n :: js.nms then [] else c.fp j); rw [if_neg hj]; exact rw'⟩
    have fk' : Fk bs (c.bd (n :: js.nms) (clrG (n :: js.nms) c.g)) H := fk.bd
    refine ⟨bs, _, [(n, .own m)], fun _ => c.fp n, env', ok', fk', ⟨by simp, fun n' j' h' => ?_, fun n' j' h' a ha => ⟨(ok.own n a ha).2, fun i z => ?_, fk.own n a ha⟩, fun n' j' h' => ok.nd n, fun n1 n2 j1 j2 a h1 h2 _ _ => ?_⟩, e1, fun k hk m' e => ?_, fun σ' H' fp' ok2 fk2 _ _ => ⟨bs, _, ok2, fk2, q⟩⟩
    · simp only [List.mem_singleton, Prod.mk.injEq] at h'
      obtain ⟨rfl, rfl⟩ := h'
      exact ⟨v, ev1, .own rv⟩
    · have z' : a ∈ (if i ∈ n :: js.nms then [] else c.fp i) := z
      split at z'
      · simp at z'
      · rename_i hi
        have := ok.dj n i a ha z'
        exact hi (by rw [← this]; simp)
    · simp only [List.mem_singleton, Prod.mk.injEq] at h1 h2
      rw [h1.1, h2.1]
    · exact (clrG_get e).1 (List.mem_cons_of_mem _ hk)
  · exact q.elim
/-! ### a tuple appended, its parts moved along -/
theorem snd_appM (cx : Ctx X CX C k Φ G bl N sc) {i : Nat} {n : Str} {k1 : Nat} {p1 ap p' : Pos} (hn : nmOk N sc n i = true) (hl : (ap.endLine == p.line) = true) (hln : es.len < 1000) (hs : PA X xs (tMv X.K C Φ G es)) :
    PS X (.Expr (.Call (.Attribute (.Name n p') "append" ap) [.Tuple xs k1 p1] [] p) pos) (tSv X.K C Φ G W (.appM i es)) := by
  obtain ⟨h1, h2, h3, h4⟩ := cx.vis hn
  have few : ((backTo p (starEach [.Tuple xs k1 p1] X.env)).all (fun x => !x.1) && (backToKw p (keywordEach [] X.env)).all (fun x => x.1.isSome) && decide (([.Tuple xs k1 p1] : List Expr).length + ([] : List Keyword).length + (if ([] : List Keyword).isEmpty then 0 else 1) < 30)) = true := by
    rw [star_plain rfl]; rfl
  refine ps_imp (ps_expr (pe_bm PySem.F.plainAttrs_list PySem.F.slot_list_append PySem.F.type_list_append mt_append (pe_var (pos := p') h1 h2 h3 h4) (pa_cons (pe_tup hs) pa_nil (star_plain rfl)) (base_plain rfl) few hl (star_plain rfl) rfl) (swaps_plain rfl)) fun E σ H ⟨bs, c, ok, fk, q⟩ => ?_
  rw [evS] at q
  obtain ⟨⟨mm, T⟩, ea, q1⟩ := q.bind
  have key : ∃ l pl vs A, i ∉ T ∧ l.length < lim ∧ σ[i]? = some (some (.ref pl)) ∧ c.fp i = pl :: A ∧ H pl = some (.lst vs) ∧ RMs X.K C H c.S vs l A ∧ ROut X.K C bs (.ok (.nx ((clrG T c.g).set i (some (.lst (l ++ [.tup mm])))))) E := by
    unfold appMR at q1
    split at q1
    · rename_i l hg
      split at q1
      · rename_i hif
        obtain ⟨v0, e0, r0⟩ := ok.slot i _ hg
        generalize hA0 : c.fp i = A0 at r0
        cases r0 with
        | @lst pl vs _ A el rs => exact ⟨l, pl, vs, A, hif.1, hif.2, e0, rfl, el, rs, q1⟩
      · exact q1.elim
    · rename_i hg
      split at q1
      · rename_i hif
        obtain ⟨v0, e0, r0⟩ := ok.slot i _ hg
        obtain ⟨pl, vs, rfl, ef, el, rs⟩ := r0.fl'
        obtain rfl := rs.nil_of
        exact ⟨[], pl, [], [], hif, by unfold lim; simp, e0, ef, el, .nil, q1⟩
      · exact q1.elim
    · exact q1.elim
  obtain ⟨l, pl, vs, A, hiT, hlim, e0, hA0, el, rs, q2⟩ := key
  refine ⟨_, e0, .inl ⟨rfl, vs, SqL.of el⟩, c, ok, ?_⟩
  rw [ea]
  intro ws H1 s1 ⟨S, B, P⟩
  refine ⟨?_, fun tp np => ?_⟩
  · rw [P.rs.length, evM_length es ea]; exact Nat.le_of_lt (Nat.lt_trans hln (Nat.lt_of_lt_of_le (by decide) lim_size))
  have s2 := same_upd (o := HO.tup ws) np
  have s12 := s1.trans s2
  have hlen : vs.length = l.length := rs.length
  have el2 := s12 _ _ el
  refine ⟨pl, vs, .ref tp, rfl, rfl, el2, by rw [hlen]; exact lim_lt hlim, ?_⟩
  have nd : (pl :: A).Nodup := hA0 ▸ ok.nd i
  have memi : ∀ a ∈ pl :: A, a ∈ c.fp i := fun a h => by rw [hA0]; exact h
  have lvH : ∀ j a, a ∈ c.fp j → H a ≠ none := fun j a h => by
    obtain ⟨⟨o, e, _⟩, _⟩ := ok.own j a h
    rw [e]; simp
  have nSf : ∀ j a, a ∈ c.fp j → ¬ S a := fun j a h z => (P.sub a z).elim (ok.own j a h).2 (lvH j a h)
  have hB : ∀ j a, a ∈ B → a ∈ c.fp j → j ∈ T := fun j a h z => by
    rcases (P.own a h).1 with ⟨i', hi', y⟩ | y
    · exact (ok.dj i' j a y z) ▸ hi'
    · exact absurd y (lvH j a z)
  have htp : tp ≠ pl := fun z => by
    subst z
    have := s1 _ _ el
    rw [np] at this; cases this
  have hAB : ∀ a ∈ pl :: A, a ∉ B := fun a h z => hiT (hB i a z (memi a h))
  have hkp : Kp (fun a => a ≠ pl) (upd H1 tp (.tup ws)) (upd (upd H1 tp (.tup ws)) pl (.lst (vs ++ [.ref tp]))) := Kp.upd el2 rfl fun z => z rfl
  have up : ∀ a o, a ≠ pl → H1 a = some o → upd (upd H1 tp (.tup ws)) pl (.lst (vs ++ [.ref tp])) a = some o := fun a o h e => by rw [upd_ne h]; exact s2 _ _ e
  have plS : ¬ S pl := nSf i pl (memi pl (by simp))
  have rs1 : RMs X.K C (upd (upd H1 tp (.tup ws)) pl (.lst (vs ++ [.ref tp]))) S vs l A := ((rs.sub P.base).same s12).mono (fun _ z => z) hkp (fun a z e => plS (e ▸ z)) fun a z e => (List.nodup_cons.mp nd).1 (e ▸ z)
  have ry1 : RM X.K C (upd (upd H1 tp (.tup ws)) pl (.lst (vs ++ [.ref tp]))) S (.ref tp) (.tup mm) B := by
    refine .tup (.inl (.inl ?_)) ((P.rs.same s2).mono (fun _ z => z) hkp (fun a z e => plS (e ▸ z)) fun a z e => hAB pl (by simp) (e ▸ z))
    rw [upd_ne htp]; exact upd_same
  let fq : Nat → List Addr := fun j => if j = i then pl :: (A ++ B) else if j ∈ T then [] else c.fp j
  have fqc : ∀ j a, a ∈ fq j → (j = i ∧ a ∈ pl :: (A ++ B)) ∨ (j ≠ i ∧ j ∉ T ∧ a ∈ c.fp j) := fun j a h => by
    have h' : a ∈ (if j = i then pl :: (A ++ B) else if j ∈ T then [] else c.fp j) := h
    by_cases hj : j = i
    · rw [if_pos hj] at h'; exact .inl ⟨hj, h'⟩
    · rw [if_neg hj] at h'
      by_cases hT : j ∈ T
      · rw [if_pos hT] at h'; simp at h'
      · rw [if_neg hT] at h'; exact .inr ⟨hj, hT, h'⟩
  have spl : ∀ a, a ∈ pl :: (A ++ B) → a ∈ c.fp i ∨ a ∈ B := fun a h => by
    rcases List.mem_cons.mp h with h | h
    · exact .inl (memi a (by simp [h]))
    · rcases List.mem_append.mp h with h | h
      · exact .inl (memi a (List.mem_cons_of_mem _ h))
      · exact .inr h
  have ok' : Ok X.K C ⟨S, fq, (clrG T c.g).set i (some (.lst (l ++ [.tup mm])))⟩ σ (upd (upd H1 tp (.tup ws)) pl (.lst (vs ++ [.ref tp]))) := by
    refine ⟨by simp [clrG_len, ok.len], fun j m' e' => ?_, fun a z => ?_, fun j a h => ?_, fun j => ?_, fun j j2 a h h2 => ?_⟩
    · have e2 : ((clrG T c.g).set i (some (.lst (l ++ [.tup mm]))))[j]? = some (some m') := e'
      show ∃ v, _ ∧ RM X.K C _ S v m' (if j = i then pl :: (A ++ B) else if j ∈ T then [] else c.fp j)
      by_cases hj : j = i
      · subst hj
        have hlt : j < (clrG T c.g).length := by
          have := (List.getElem?_eq_some_iff.mp e2).1
          simpa using this
        rw [List.getElem?_set_self hlt] at e2
        cases e2
        rw [if_pos rfl]
        exact ⟨_, e0, .lst upd_same (rs1.snoc ry1)⟩
      · rw [List.getElem?_set_ne (Ne.symm hj)] at e2
        obtain ⟨hjT, e3⟩ := clrG_get e2
        obtain ⟨w, ew, rw'⟩ := ok.slot j m' e3
        refine ⟨w, ew, ?_⟩
        rw [if_neg hj, if_neg hjT]
        exact ((rw'.sub P.base).same s12).mono (fun _ z => z) hkp (fun a z e => plS (e ▸ z)) fun a z e => hj (ok.dj j i a z (memi a (by rw [e]; simp)))
    · by_cases ha : a = pl
      · rw [ha, upd_same]; simp
      · rw [upd_ne ha]
        exact fun y => P.live a z (s2.free y)
    · have live2 : ∀ a o, isObj o = true → H1 a = some o → ∃ o, upd (upd H1 tp (.tup ws)) pl (.lst (vs ++ [.ref tp])) a = some o ∧ isObj o = true := fun a o io e => by
        by_cases ha : a = pl
        · subst ha; exact ⟨_, upd_same, rfl⟩
        · exact ⟨o, up a o ha e, io⟩
      have own1 : ∀ j a, a ∈ c.fp j → (∃ o, upd (upd H1 tp (.tup ws)) pl (.lst (vs ++ [.ref tp])) a = some o ∧ isObj o = true) ∧ ¬ S a := fun j a h => by
        obtain ⟨⟨o, e, io⟩, _⟩ := ok.own j a h
        exact ⟨live2 a o io (s1 _ _ e), nSf j a h⟩
      rcases fqc j a h with ⟨_, w⟩ | ⟨_, _, w⟩
      · rcases spl a w with w | w
        · exact own1 i a w
        · obtain ⟨o, e, io⟩ := P.rs.live a w
          exact ⟨live2 a o io e, (P.own a w).2⟩
      · exact own1 j a w
    · show (if j = i then pl :: (A ++ B) else if j ∈ T then [] else c.fp j).Nodup
      split
      · refine List.nodup_cons.mpr ⟨fun z => ?_, List.nodup_append.mpr ⟨(List.nodup_cons.mp nd).2, P.nd, fun a h1 b h2 e => hAB a (List.mem_cons_of_mem _ h1) (e ▸ h2)⟩⟩
        rcases List.mem_append.mp z with z | z
        · exact (List.nodup_cons.mp nd).1 z
        · exact hAB pl (by simp) z
      · split
        · exact .nil
        · exact ok.nd j
    · have two : ∀ j a, a ∈ pl :: (A ++ B) → j ≠ i → j ∉ T → a ∈ c.fp j → False := fun j a h hj hT h2 => by
        rcases spl a h with h | h
        · exact hj (ok.dj j i a h2 h)
        · exact hT (hB j a h h2)
      rcases fqc j a h with ⟨e1, w⟩ | ⟨hj, hT, w⟩ <;> rcases fqc j2 a h2 with ⟨e2, w2⟩ | ⟨hj2, hT2, w2⟩
      · exact e1.trans e2.symm
      · exact (two j2 a w hj2 hT2 w2).elim
      · exact (two j a w2 hj hT w).elim
      · exact ok.dj j j2 a w w2
  have h0 : bs.H0 pl = none := fk.own i pl (memi pl (by simp))
  have fk' : Fk bs ⟨S, fq, (clrG T c.g).set i (some (.lst (l ++ [.tup mm])))⟩ (upd (upd H1 tp (.tup ws)) pl (.lst (vs ++ [.ref tp]))) := by
    refine ⟨fun a x e => ?_, fun a z => ?_, fun j a h => ?_, fun a z => P.base a (fk.base a z), (fk.kp.trans (Kp.of_same s12)).trans (Kp.upd el2 rfl fun z => plS (P.base pl (fk.base pl z)))⟩
    · rw [upd_ne (fun z => by subst z; rw [h0] at e; cases e)]
      exact s12 _ _ (fk.same a x e)
    · rcases P.sub a z with z | z
      · exact fk.sub a z
      · exact .inr (fk.same.free z)
    · rcases fqc j a h with ⟨_, w⟩ | ⟨_, _, w⟩
      · rcases spl a w with w | w
        · exact fk.own _ a w
        · rcases (P.own a w).1 with ⟨i', _, y⟩ | y
          · exact fk.own i' a y
          · exact fk.same.free y
      · exact fk.own j a w
  exact q2 _ σ _ rfl ok' fk'
end
end Ev

set_option maxRecDepth 100000
set_option maxHeartbeats 8000000
/-! Statements, defs, the whole program. -/
namespace Ev
open PySem PySem.Spec PyProof.Rows L2
section
variable {X : Cx} {CX : CXT} {C : Kls} {k W : Nat} {Φ : String → List D → Res M} {G : String → Option D} {bl : List String} {N : List Str} {sc : Scope}
theorem swaps_lc {y : Expr} {gs : List Comprehension} {scope : Scope} {pos p : Pos} {n : Str} {l : Nat} {env : Env} : swapsWith (.ListComp y gs scope pos) (some (.Name n p)) l env =
    pure (env.blockKind == .function && env.kindOf n == some .local && p.line == pos.line && !(scope.names.any fun (m, k) => m == n && (k == .local || k == .cell))) := rfl
theorem tAsg_imp {st : Stmt} {t t' : TE} {g : TG} (h : PS X st (tAsg t g)) (hh : ∀ σ H Q, t' σ H Q → t σ H Q) : PS X st (tAsg t' g) := ps_imp h fun D σ H q => hh _ _ _ q
theorem snd_compS (cx : Ctx X CX C k Φ G bl N sc) {elt : E} {t : Tg} {it : It} {c : Eo} {i : Nat} {n : Str} {p' pos : Pos} {x : Expr} (hn : stOk N sc n i = true) (h : chkE N bl C.n (.comp elt t it c) sc x = true) :
    PS X (.Assign [.Name n p'] x pos) (tAsg (tEv X.K C Φ G (.comp elt t it c)) (gName i)) := by
  obtain ⟨n1, n2, n3⟩ := cx.st hn
  cases x <;> first | (simp [chkE] at h; done) | skip
  rename_i y gs scope cpos
  match gs, h with
  | [⟨tg, iter, ifs, as⟩], h =>
    simp only [chkE, Bool.and_eq_true, decide_eq_true_eq] at h
    obtain ⟨⟨⟨⟨⟨⟨rfl, h1⟩, h2⟩, h3⟩, h4⟩, h5⟩, h6⟩ := h
    have gen : ∀ {tt : TT}, (∀ (s : Shared) (H : Hp) (Ca : Addr) (cl : List (Str × Addr)) (fp : List Addr), PTs (X.blk s H scope (compEnvC scope cl Ca X.env) fp) ifs tt) →
        PS X (.Assign [.Name n p'] (.ListComp y [⟨tg, iter, ifs, 0⟩] scope cpos) pos) (tAsg (tLc (tIc X.K C Φ G it) (tgR X.K t) tt (tEv X.K C Φ G elt) t.ix) (gName i)) := fun {tt} ht => by
      have hsw := swaps_lc (y := y) (gs := [⟨tg, iter, ifs, 0⟩]) (scope := scope) (pos := cpos) (p := p') (n := n) (l := pos.line) (env := X.env)
      have ix := own_ix h4
      rw [← ix]
      by_cases hb : (X.env.blockKind == .function && X.env.kindOf n == some .local && p'.line == cpos.line && !(scope.names.any fun (m, k) => m == n && (k == .local || k == .cell))) = true
      · rw [hb] at hsw
        simp only [Bool.and_eq_true] at hb
        have hl : X.env.scope.names.lookup n = some .local := by
          have := hb.1.1.2
          simpa [Env.kindOf] using this
        exact ps_setLc cx.calm cx.nd' n1 hl hsw (sItC it cx h2) (blkOk_of cx h3) (fun s H Ca cl fp => snd_tg (cx.blk (blkOk_by h3).kind s H Ca cl fp) h4) ht (fun s H Ca cl fp => sE elt (cx.blk (blkOk_by h3).kind s H Ca cl fp) h5) (fold_plain h1)
      · rw [Bool.eq_false_iff.mpr hb] at hsw
        exact ps_set cx.nd' n1 n2 (pe_lc cx.calm cx.nd' (sItC it cx h2) (blkOk_of cx h3) (fun s H Ca cl fp => snd_tg (cx.blk (blkOk_by h3).kind s H Ca cl fp) h4) ht (fun s H Ca cl fp => sE elt (cx.blk (blkOk_by h3).kind s H Ca cl fp) h5) (fold_plain h1)) hsw n3
    cases ifs with
    | nil =>
      have hc : c = .no := by cases c with
        | no => rfl
        | yes _ => simp [chkEo] at h6
      subst hc
      exact tAsg_imp (gen (tt := tYes) fun s H Ca cl fp => pts_nil) fun σ H Q q => comp_imp (c := .no) (tt := tYes) (fun cf σ H Q ok q => by rw [tvo] at q; exact q H (Same.refl H)) q
    | cons z zs =>
     cases zs with
     | cons _ _ => simp at h6
     | nil =>
      exact tAsg_imp (gen (tt := tTo X.K C Φ G c) fun s H Ca cl fp => pts_one (sTo c (cx.blk (blkOk_by h3).kind s H Ca cl fp) h6)) fun σ H Q q => comp_imp (c := c) (tt := tTo X.K C Φ G c) (fun cf σ H Q ok q => ⟨cf, ok, q⟩) q
  | [], h => simp [chkE] at h
  | _ :: _ :: _, h => simp [chkE] at h
theorem snd_compOS (cx : Ctx X CX C k Φ G bl N sc) {elt : E} {t : Tg} {it : It} {i : Nat} {n : Str} {p' pos : Pos} {x : Expr} (hn : stOk N sc n i = true) (h : chkE N bl C.n (.compO elt t it) sc x = true) :
    PS X (.Assign [.Name n p'] x pos) (tAsg (tEv X.K C Φ G (.compO elt t it)) (gName i)) := by
  obtain ⟨n1, n2, n3⟩ := cx.st hn
  cases x <;> first | (simp [chkE] at h; done) | skip
  rename_i y gs scope cpos
  match gs, h with
  | [⟨tg, iter, ifs, as⟩], h =>
    simp only [chkE, Bool.and_eq_true, decide_eq_true_eq, List.isEmpty_iff] at h
    obtain ⟨⟨⟨⟨⟨⟨rfl, rfl⟩, h1⟩, h2⟩, h3⟩, h4⟩, h5⟩ := h
    have gen : PS X (.Assign [.Name n p'] (.ListComp y [⟨tg, iter, [], 0⟩] scope cpos) pos) (tAsg (tLc (tIc X.K C Φ G it) (tgR X.K t) tYes (tEv X.K C Φ G elt) t.ix) (gName i)) := by
      have hsw := swaps_lc (y := y) (gs := [⟨tg, iter, [], 0⟩]) (scope := scope) (pos := cpos) (p := p') (n := n) (l := pos.line) (env := X.env)
      have ix := own_ix h4
      rw [← ix]
      by_cases hb : (X.env.blockKind == .function && X.env.kindOf n == some .local && p'.line == cpos.line && !(scope.names.any fun (m, k) => m == n && (k == .local || k == .cell))) = true
      · rw [hb] at hsw
        simp only [Bool.and_eq_true] at hb
        have hl : X.env.scope.names.lookup n = some .local := by
          have := hb.1.1.2
          simpa [Env.kindOf] using this
        exact ps_setLc cx.calm cx.nd' n1 hl hsw (sItC it cx h2) (blkOk_of cx h3) (fun s H Ca cl fp => snd_tg (cx.blk (blkOk_by h3).kind s H Ca cl fp) h4) (fun s H Ca cl fp => pts_nil) (fun s H Ca cl fp => sE elt (cx.blk (blkOk_by h3).kind s H Ca cl fp) h5) (fold_plain h1)
      · rw [Bool.eq_false_iff.mpr hb] at hsw
        exact ps_set cx.nd' n1 n2 (pe_lc cx.calm cx.nd' (sItC it cx h2) (blkOk_of cx h3) (fun s H Ca cl fp => snd_tg (cx.blk (blkOk_by h3).kind s H Ca cl fp) h4) (fun s H Ca cl fp => pts_nil) (fun s H Ca cl fp => sE elt (cx.blk (blkOk_by h3).kind s H Ca cl fp) h5) (fold_plain h1)) hsw n3
    exact tAsg_imp gen fun σ H Q q => compO_imp q
  | [], h => simp [chkE] at h
  | _ :: _ :: _, h => simp [chkE] at h
/-- name = {..} on one line, the name a local -/
theorem ps_setDc {i : Nat} {y : Str} {py : Pos} {kx vx tg iter : Expr} {ifs : List Expr} {scope : Scope} {own : List (Str × Nat)} {pos spos : Pos} {wi : TI} {g : TG} {tt : TT} {tk tv : TE} (hc : X.calm = true) (hN : X.N.Nodup) (hy : X.N[i]? = some y) (hyl : X.env.scope.names.lookup y = some .local)
    (hsw : swapsWith (.DictComp kx vx [⟨tg, iter, ifs, 0⟩] scope pos) (some (.Name y py)) spos.line X.env = pure true) (hi : PI X tg iter wi) (ok : BlkOk X.N X.env.scope scope own)
    (hg : ∀ (s : Shared) (H : Hp) (C : Addr) (cl : List (Str × Addr)) (fp : List Addr), PG (X.blk s H scope (compEnvC scope cl C X.env) fp) tg g) (ht : ∀ (s : Shared) (H : Hp) (C : Addr) (cl : List (Str × Addr)) (fp : List Addr), PTs (X.blk s H scope (compEnvC scope cl C X.env) fp) ifs tt)
    (hk : ∀ (s : Shared) (H : Hp) (C : Addr) (cl : List (Str × Addr)) (fp : List Addr), PE (X.blk s H scope (compEnvC scope cl C X.env) fp) kx tk)
    (he : ∀ (s : Shared) (H : Hp) (C : Addr) (cl : List (Str × Addr)) (fp : List Addr), PE (X.blk s H scope (compEnvC scope cl C X.env) fp) vx tv) (hs : ∀ x, foldedSetIterable iter X.env x = pure x) :
    PS X (.Assign [.Name y py] (.DictComp kx vx [⟨tg, iter, ifs, 0⟩] scope pos) spos) (tAsg (tDc wi g tt tk tv (own.map (·.2))) (gName i)) := by
  refine ⟨fun pins s σ H D I h => ?_⟩
  rw [exec_Assign_Name_used _ _ _ _ hsw]
  refine wpAny_bind (wpAny_standAt (wpAny_bind ?_))
  show wpAny _ X.A (do let _ ← comprehension (.DictComp kx vx [⟨tg, iter, ifs, 0⟩] scope pos) scope X.env (firstIterPos [⟨tg, iter, ifs, 0⟩] pos) newDict false (eval iter X.env) (some (assign (.Name y py) X.env))) _ _ s
  have h : tDc wi g tt tk tv (own.map (·.2)) σ H (fun x H1 => gName i x σ H1 D.nx) := h
  refine wpAny_bind (thn (dc_core (Qf := fun _ s' => SP X pins D .next s') hc hN I hi ok hg ht hk he hs h fun L C s' m H' I' q hn f => ?_) fun _ s' hq => wpAny_pure (wpAny_pure hq))
  show wpAny _ _ (assign (.Name y py) X.env (.ref L)) _ _ _
  refine wpAny_assign_Name (store_ok2 (v := V.ref L) I' hN hy (.inl hyl) rfl (fun s2 I2 ⟨a, sb, ha⟩ => ?_) (.inr hyl))
  obtain ⟨f0, f1, f2, f3, f4, f5⟩ := f
  have haC : C ≠ a := by
    rcases ha with z | z
    · rw [z]; exact f1
    · exact fun e => f4 y a z e.symm
  refine ⟨m, hn.sameBut sb haC, fun h3 sb3 => ?_⟩
  exact ⟨_, H', I2.turned (t' := s2.toks) (fun b o hb e => (sb3.2 b hb).trans e) f0 f1 f3 f4 f5, q⟩
theorem snd_dcS (cx : Ctx X CX C k Φ G bl N sc) {kx vx : E} {t : Tg} {it : It} {i : Nat} {n : Str} {p' cpos pos : Pos} {x1 x2 tg iter : Expr} {scope : Scope}
    (h : (stOk N sc n i && plainB iter && chkIt N bl C.n it sc iter && blkC N sc scope (ownOf t tg) && chkT N scope t tg && chkE N bl C.n kx scope x1 && chkE N bl C.n vx scope x2) = true) :
    PS X (.Assign [.Name n p'] (.DictComp x1 x2 [⟨tg, iter, [], 0⟩] scope cpos) pos) (tAsg (tDcE X.K C Φ G it t kx vx) (gName i)) := by
  simp only [Bool.and_eq_true] at h
  obtain ⟨⟨⟨⟨⟨⟨h0, h1⟩, h2⟩, h3⟩, h4⟩, h5⟩, h6⟩ := h
  obtain ⟨n1, n2, n3⟩ := cx.st h0
  have hsw : swapsWith (.DictComp x1 x2 [⟨tg, iter, [], 0⟩] scope cpos) (some (.Name n p')) pos.line X.env = pure (X.env.blockKind == .function && X.env.kindOf n == some .local && p'.line == cpos.line && !(scope.names.any fun (m, k) => m == n && (k == .local || k == .cell))) := rfl
  have ix := own_ix h4
  unfold tDcE
  rw [← ix]
  by_cases hb : (X.env.blockKind == .function && X.env.kindOf n == some .local && p'.line == cpos.line && !(scope.names.any fun (m, k) => m == n && (k == .local || k == .cell))) = true
  · rw [hb] at hsw
    simp only [Bool.and_eq_true] at hb
    have hl : X.env.scope.names.lookup n = some .local := by
      have := hb.1.1.2
      simpa [Env.kindOf] using this
    exact ps_setDc cx.calm cx.nd' n1 hl hsw (sItC it cx h2) (blkOk_of cx h3) (fun s H Ca cl fp => snd_tg (cx.blk (blkOk_by h3).kind s H Ca cl fp) h4) (fun s H Ca cl fp => pts_nil) (fun s H Ca cl fp => sE kx (cx.blk (blkOk_by h3).kind s H Ca cl fp) h5) (fun s H Ca cl fp => sE vx (cx.blk (blkOk_by h3).kind s H Ca cl fp) h6) (fold_plain h1)
  · rw [Bool.eq_false_iff.mpr hb] at hsw
    exact ps_set cx.nd' n1 n2 (pe_dc cx.calm cx.nd' (sItC it cx h2) (blkOk_of cx h3) (fun s H Ca cl fp => snd_tg (cx.blk (blkOk_by h3).kind s H Ca cl fp) h4) (fun s H Ca cl fp => pts_nil) (fun s H Ca cl fp => sE kx (cx.blk (blkOk_by h3).kind s H Ca cl fp) h5) (fun s H Ca cl fp => sE vx (cx.blk (blkOk_by h3).kind s H Ca cl fp) h6) (fold_plain h1)) hsw n3
theorem snd_par (cx : Ctx X CX C k Φ G bl N sc) {i j : Nat} {n m : Str} {x1 x2 : Expr} {a b : E} {p1 p2 pt1 pt2 pos : Pos} {k1 k2 : Nat} (g1 : N[i]? = some n) (g2 : N[j]? = some m) (g3 : sc.names.lookup n = some .local) (g4 : sc.names.lookup m = some .local) (hl : p1.line = p2.line)
    (g5 : n ≠ m) (g6 : i ≠ j) (g7 : plainB x1 = true) (g8 : plainB x2 = true) (g9 : (foldedForSure 8 x1 && foldedForSure 8 x2) = false) (g10 : (constantsAlone 8 x1 && constantsAlone 8 x2) = false) (ha : PE X x1 (tEv X.K C Φ G a)) (hb : PE X x2 (tEv X.K C Φ G b)) :
    PS X (.Assign [.Tuple [.Name n p1, .Name m p2] k1 pt1] (.Tuple [x1, x2] k2 pt2) pos) (tSv X.K C Φ G W (.par i j a b)) := by
  have hsw : swappedStores [.Tuple [.Name n p1, .Name m p2] k1 pt1] (.Tuple [x1, x2] k2 pt2) X.env = pure (some [n, m]) := by
    have e1 : X.env.blockKind = .function := by unfold Env.blockKind; rw [cx.kind]; rfl
    have e2 : X.env.kindOf n = some .local := cx.loc n g3
    have e3 : X.env.kindOf m = some .local := cx.loc m g4
    have e4 : (m == n) = false := by simp [Ne.symm g5]
    unfold swappedStores
    simp only [List.length_cons, List.length_nil, e1, List.any_cons, List.any_nil, List.head?_cons, Option.map_some, Option.getD_some, List.filterMap_cons, List.filterMap_nil, e2, e3, Expr.pos, hl, List.all_cons, List.all_nil, Bool.and_true, g9, g10]
    have hd : [n, m].eraseDups.length = 2 := by
      simp [List.eraseDups_cons, e4, Ne.symm g5]
    simp [hd]
    intro h
    rcases h with h | h
    · cases x1 <;> first | (exact absurd h (by decide)) | (exact absurd h Bool.false_ne_true) | (simp [plainB] at g7)
    · cases x2 <;> first | (exact absurd h (by decide)) | (exact absurd h Bool.false_ne_true) | (simp [plainB] at g8)
  refine ps_imp (ps_par cx.calm cx.nd' (by rw [cx.hN]; exact g1) (by rw [cx.hN]; exact g2) g6 (cx.loc n g3) (cx.loc m g4) (pa_cons ha (pa_cons hb pa_nil (star_plain g8)) (star_plain g7)) hsw rfl) fun E σ H ⟨bs, c, ok, fk, q⟩ => ?_
  rw [evS] at q
  obtain ⟨⟨ma, Ta⟩, ea, q1⟩ := q.bind
  obtain ⟨⟨mb, Tb⟩, eb, q2⟩ := q1.bind
  refine ⟨c, ok, ?_⟩
  rw [ea]
  intro v H1 s1 p1
  refine ⟨c, ok.same s1, ?_⟩
  rw [eb]
  intro w H2 s2 p2
  refine ⟨v, w, rfl, ?_⟩
  have t1 : EPost X.K C c H H2 v (.frz ma.toD) (nrm (.frz ma.toD, Ta)) := by
    obtain ⟨S, g, r⟩ := (p1.right s2).rd
    exact EPost.nrm (.of_rd g r)
  have t2 : EPost X.K C c H H2 w (.frz mb.toD) (nrm (.frz mb.toD, Tb)) := by
    obtain ⟨S, g, r⟩ := (p2.left s1).rd
    exact EPost.nrm (.of_rd g r)
  have s12 := s1.trans s2
  obtain ⟨S1, gg1, r1⟩ := t1.rd
  obtain ⟨S2, gg2, r2⟩ := t2.rd
  have gg := gg1.or gg2
  have ok1 := ok.fz s12 gg
  have fk1 := fk.fz s12 gg
  have ok2 := ok1.st (i := i) (m := .frz ma.toD) (.frz (r1.sub fun a z => .inr (.inr (.inl z)))) .nil fun a ha => by simp at ha
  have ok3 := ok2.st (i := j) (m := .frz mb.toD) (.frz (r2.sub fun a z => .inr (.inr (.inr z)))) .nil fun a ha => by simp at ha
  exact q2 _ _ H2 rfl ok3 ((fk1.stt fun a ha => by simp at ha).stt fun a ha => by simp at ha)
mutual
theorem sS (hst : X.stack = X.env :: X.outer ∧ X.env.frame = some X.env.locals) (hown : PassesOwn (model X.prog X.w) X.A X.env X.xe) (cx : Ctx X CX C k Φ G bl N sc) : ∀ (s : S) {st : Stmt}, chkS N bl C.n sc s st = true → PS X st (tSv X.K C Φ G W s)
  | .set t e, st, h => by
    cases st <;> first | (simp [chkS] at h; done) | skip
    rename_i ts x pos
    rw [chkS] at h
    cases h1 : asOne ts with
    | none => rw [h1] at h; cases h
    | some y =>
      rw [h1] at h
      obtain rfl := asOne_eq h1
      cases t with
      | nm i =>
        simp only at h
        cases h2 : asName y with
        | none => rw [h2] at h; cases h
        | some n =>
          rw [h2] at h
          obtain ⟨p', rfl⟩ := asName_eq h2
          simp only [Bool.and_eq_true] at h
          have hmk := h.2.1
          replace h := And.intro h.1 h.2.2
          by_cases hc : plainC x = true
          · exact snd_setE cx h.1 hc (sE e cx h.2)
          · have h3 := h.2
            cases e <;> first | (exact snd_set (snd_compS cx h.1 h.2)) | (exact snd_set (snd_compOS cx h.1 h.2)) | skip
            all_goals (cases x <;> first | (exact absurd rfl hc) | skip)
            all_goals first | (simp [notMk] at hmk; done) | (simp [chkE] at h3; done) | (rename_i d _ _ _; cases d <;> simp [chkE, chkC] at h3; done) | (rename_i d _ _ _ _; cases d <;> simp [chkE, chkC] at h3; done)
      | tp is =>
        simp only [Bool.and_eq_true] at h
        obtain ⟨⟨h1, h2⟩, h3⟩ := h
        cases y <;> first | (simp [chkT] at h1; done) | skip
        exact snd_setT cx h1 h2 (sE e cx h3)
  | .par i j a b, st, h => by
    cases st <;> first | (simp [chkS] at h; done) | skip
    rename_i ts x pos
    rw [chkS] at h
    cases h1 : asTwo ts with
    | none => rw [h1] at h; cases h
    | some q =>
      obtain ⟨n, m⟩ := q
      cases h2 : asPair x with
      | none => rw [h1, h2] at h; cases h
      | some r =>
        obtain ⟨x1, x2⟩ := r
        rw [h1, h2] at h
        obtain ⟨p1, p2, k1, pt1, rfl, hl⟩ := asTwo_eq h1
        obtain ⟨k2, pt2, rfl⟩ := asPair_eq h2
        simp only [Bool.and_eq_true, decide_eq_true_eq, Bool.not_eq_true'] at h
        obtain ⟨⟨⟨⟨⟨⟨⟨⟨⟨⟨⟨g1, g2⟩, g3⟩, g4⟩, g5⟩, g6⟩, g7⟩, g8⟩, g9⟩, g10⟩, g11⟩, g12⟩ := h
        exact snd_par cx g1 g2 g3 g4 hl g5 g6 g7 g8 g9 g10 (sE a cx g11) (sE b cx g12)
  | .app i e, st, h => by
    cases st <;> first | (simp [chkS] at h; done) | skip
    rename_i x pos
    rw [chkS] at h
    cases h1 : asMeth x with
    | none => rw [h1] at h; cases h
    | some q =>
      obtain ⟨n, f, ap, xs, p⟩ := q
      rw [h1] at h
      obtain ⟨p', rfl⟩ := asMeth_eq h1
      match xs, h with
      | [y], h =>
        simp only [Bool.and_eq_true, decide_eq_true_eq] at h
        obtain ⟨⟨⟨⟨rfl, h5⟩, h2⟩, h3⟩, h4⟩ := h
        exact snd_app cx h5 h2 h3 (sE e cx h4)
      | [], h => simp at h
      | _ :: _ :: _, h => simp at h
  | .popL i, st, h => by
    cases st <;> first | (simp [chkS] at h; done) | skip
    rename_i x pos
    rw [chkS] at h
    cases h1 : asMeth x with
    | none => rw [h1] at h; cases h
    | some q =>
      obtain ⟨n, f, ap, xs, p⟩ := q
      rw [h1] at h
      obtain ⟨p', rfl⟩ := asMeth_eq h1
      simp only [Bool.and_eq_true, decide_eq_true_eq, List.isEmpty_iff] at h
      obtain ⟨⟨⟨rfl, h5⟩, h2⟩, rfl⟩ := h
      exact snd_popL cx h5 h2
  | .seti i a e, st, h => by
    cases st <;> first | (simp [chkS] at h; done) | skip
    rename_i ts x pos
    rw [chkS] at h
    cases h1 : asOne ts with
    | none => rw [h1] at h; cases h
    | some y =>
      rw [h1] at h
      obtain rfl := asOne_eq h1
      simp only at h
      cases h2 : asSub y with
      | none => rw [h2] at h; cases h
      | some q =>
        obtain ⟨n, x1⟩ := q
        rw [h2] at h
        obtain ⟨p', p2, rfl⟩ := asSub_eq h2
        simp only [Bool.and_eq_true] at h
        obtain ⟨⟨⟨h1, h2⟩, h4⟩, h5⟩ := h
        exact snd_seti cx h1 h2 (sE a cx h4) (sE e cx h5)
  | .dset i t it kx vx, st, h => by
    cases st <;> first | (simp [chkS] at h; done) | skip
    rename_i ts x pos
    rw [chkS] at h
    cases h1 : asOne ts with
    | none => rw [h1] at h; cases h
    | some y =>
      rw [h1] at h
      obtain rfl := asOne_eq h1
      simp only at h
      cases h2 : asName y with
      | none => rw [h2] at h; cases h
      | some n =>
        rw [h2] at h
        obtain ⟨p', rfl⟩ := asName_eq h2
        cases h3 : asDc x with
        | none => rw [h3] at h; cases h
        | some q =>
          obtain ⟨x1, x2, tg, iter, scope⟩ := q
          rw [h3] at h
          obtain ⟨cp, rfl⟩ := asDc_eq h3
          exact snd_dset (snd_dcS cx h)
  | .setO is e, st, h => by
    cases st <;> first | (simp [chkS] at h; done) | skip
    rename_i ts x pos
    rw [chkS] at h
    cases h1 : asOne ts with
    | none => rw [h1] at h; cases h
    | some y =>
      rw [h1] at h
      obtain rfl := asOne_eq h1
      simp only [Bool.and_eq_true] at h
      obtain ⟨⟨h1, h2⟩, h3⟩ := h
      cases y <;> first | (simp [chkT] at h1; done) | skip
      exact snd_setO cx h1 h2 (sE e cx h3)
  | .set2 i a b e, st, h => by
    cases st <;> first | (simp [chkS] at h; done) | skip
    rename_i ts x pos
    rw [chkS] at h
    cases h1 : asOne ts with
    | none => rw [h1] at h; cases h
    | some y =>
      rw [h1] at h
      obtain rfl := asOne_eq h1
      simp only at h
      cases h2 : asSub2 y with
      | none => rw [h2] at h; cases h
      | some q =>
        obtain ⟨n, x1, x2⟩ := q
        rw [h2] at h
        obtain ⟨p', p2, p3, rfl⟩ := asSub2_eq h2
        simp only [Bool.and_eq_true] at h
        obtain ⟨⟨⟨⟨⟨h1, h2⟩, h3⟩, h4⟩, h5⟩, h6⟩ := h
        exact snd_set2 cx h1 h2 h3 (sE a cx h4) (sE b cx h5) (sE e cx h6)
  | .appO i e, st, h => by
    cases st <;> first | (simp [chkS] at h; done) | skip
    rename_i x pos
    rw [chkS] at h
    cases h1 : asMeth x with
    | none => rw [h1] at h; cases h
    | some q =>
      obtain ⟨n, f, ap, xs, p⟩ := q
      rw [h1] at h
      obtain ⟨p', rfl⟩ := asMeth_eq h1
      match xs, h with
      | [y], h =>
        simp only [Bool.and_eq_true, decide_eq_true_eq] at h
        obtain ⟨⟨⟨⟨rfl, h2⟩, h3⟩, h4⟩, h5⟩ := h
        exact snd_appO cx h2 h3 h4 (sE e cx h5)
      | [], h => simp at h
      | _ :: _ :: _, h => simp at h
  | .retT es, st, h => by
    cases st <;> first | (simp [chkS] at h; done) | skip
    rename_i o pos
    cases o with
    | none => simp [chkS] at h
    | some x =>
      cases x <;> first | (simp [chkS] at h; done) | skip
      simp only [chkS, Bool.and_eq_true, decide_eq_true_eq] at h
      exact snd_retT h.1 (sMs es cx h.2)
  | .appT i a b, st, h => by
    cases st <;> first | (simp [chkS] at h; done) | skip
    rename_i x pos
    rw [chkS] at h
    cases h1 : asPopS x with
    | none => rw [h1] at h; cases h
    | some q =>
      obtain ⟨n, x1, f, ap, x2, p⟩ := q
      rw [h1] at h
      obtain ⟨p1, p2, rfl⟩ := asPopS_eq h1
      simp only [Bool.and_eq_true, decide_eq_true_eq] at h
      obtain ⟨⟨⟨⟨⟨⟨rfl, g1⟩, g2⟩, g3⟩, g4⟩, g5⟩, g6⟩ := h
      exact snd_appT cx g1 g2 g3 g4 (sE a cx g5) (sE b cx g6)
  | .ext _ _, st, h => by cases st <;> simp [chkS] at h
  | .popA _ _, st, h => by cases st <;> simp [chkS] at h
  | .popB i a b, st, h => by
    cases st <;> first | (simp [chkS] at h; done) | skip
    rename_i x pos
    rw [chkS] at h
    cases h1 : asPopS x with
    | none => rw [h1] at h; cases h
    | some q =>
      obtain ⟨n, x1, f, ap, x2, p⟩ := q
      rw [h1] at h
      obtain ⟨p1, p2, rfl⟩ := asPopS_eq h1
      simp only [Bool.and_eq_true, decide_eq_true_eq] at h
      obtain ⟨⟨⟨⟨⟨⟨rfl, g1⟩, g2⟩, g3⟩, g4⟩, g5⟩, g6⟩ := h
      exact snd_popB cx g1 g2 g3 g4 (sE a cx g5) (sE b cx g6)
  | .expr e, st, h => by
    cases st <;> first | (simp [chkS] at h; done) | skip
    simp only [chkS, Bool.and_eq_true] at h
    exact snd_expr h.1 (sE e cx h.2)
  | .ret e, st, h => by
    cases st <;> first | (simp [chkS] at h; done) | skip
    rename_i o pos
    cases o with
    | none => simp [chkS] at h
    | some x =>
      rw [chkS] at h
      by_cases hn : notSlot e = true
      · exact snd_ret hn (sE e cx h)
      · cases e <;> first | (exact absurd rfl hn) | skip
        cases x <;> first | (simp [chkE] at h; done) | skip
        exact snd_retS cx (by simpa [chkE] using h)
  | .retN, st, h => by
    cases st <;> first | (simp [chkS] at h; done) | skip
    rename_i o pos
    cases o with
    | none => exact snd_retN
    | some x => simp [chkS] at h
  | .ite c a b, st, h => by
    cases st <;> first | (simp [chkS] at h; done) | skip
    simp only [chkS, Bool.and_eq_true] at h
    exact snd_iteS (sT c cx h.1.1) (sB hst hown cx a h.1.2) (sB hst hown cx b h.2)
  | .for t it b, st, h => by
    cases st <;> first | (simp [chkS] at h; done) | skip
    simp only [chkS, Bool.and_eq_true, List.isEmpty_iff] at h
    obtain ⟨⟨⟨⟨h1, rfl⟩, h2⟩, h3⟩, h4⟩ := h
    exact snd_for cx hown (sItF it cx h2) h3 (fold_plain h1) (sB hst hown cx b h4)
  | .while c b, st, h => by
    cases st <;> first | (simp [chkS] at h; done) | skip
    simp only [chkS, Bool.and_eq_true, List.isEmpty_iff] at h
    obtain ⟨⟨rfl, h1⟩, h2⟩ := h
    exact snd_while hown (sT c cx h1) (sB hst hown cx b h2)
  | .brk, st, h => by
    cases st <;> first | (simp [chkS] at h; done) | skip
    exact snd_brk
  | .cont, st, h => by
    cases st <;> first | (simp [chkS] at h; done) | skip
    exact snd_cont
  | .pass, st, h => by
    cases st <;> first | (simp [chkS] at h; done) | skip
    exact snd_pass
  | .raiseN, st, h => snd_raiseN
  | .tryX i b, st, h => snd_tryX cx hst h
  | .appM i es, st, h => by
    cases st <;> first | (simp [chkS] at h; done) | skip
    rename_i x pos
    rw [chkS] at h
    cases h1 : asMeth x with
    | none => rw [h1] at h; cases h
    | some q =>
      obtain ⟨n, f, ap, xs, p⟩ := q
      rw [h1] at h
      obtain ⟨p', rfl⟩ := asMeth_eq h1
      simp only at h
      split at h
      · simp only [Bool.and_eq_true, decide_eq_true_eq] at h
        obtain ⟨⟨⟨⟨rfl, h2⟩, h3⟩, h4⟩, h5⟩ := h
        exact snd_appM cx h2 h3 h4 (sMs es cx h5)
      · cases h
  | .newO i f es ms, st, h => by
    cases st <;> first | (simp [chkS] at h; done) | skip
    rename_i ts x pos
    rw [chkS] at h
    cases h1 : asOne ts with
    | none => rw [h1] at h; cases h
    | some y =>
      rw [h1] at h
      obtain rfl := asOne_eq h1
      simp only at h
      cases h2 : asName y with
      | none => rw [h2] at h; cases h
      | some n =>
        rw [h2] at h
        obtain ⟨p', rfl⟩ := asName_eq h2
        cases h3 : asCl x with
        | none => rw [h3] at h; cases h
        | some q =>
          obtain ⟨m, z, zs⟩ := q
          rw [h3] at h
          obtain ⟨p, pos', rfl⟩ := asCl_eq h3
          simp only [Bool.and_eq_true] at h
          obtain ⟨⟨⟨⟨⟨g1, g2⟩, g3⟩, g4⟩, g5⟩, g6⟩ := h
          exact snd_newO cx g1 g2 g3 g4 g5 g6
termination_by s => sizeOf s
theorem sB (hst : X.stack = X.env :: X.outer ∧ X.env.frame = some X.env.locals) (hown : PassesOwn (model X.prog X.w) X.A X.env X.xe) (cx : Ctx X CX C k Φ G bl N sc) : ∀ (s : Ss) {st : List Stmt}, chkB N bl C.n sc s st = true → PSs X st (tBv X.K C Φ G W s)
  | .nil, st, h => by
    cases st with
    | nil => exact snd_bnil
    | cons _ _ => simp [chkB] at h
  | .cons s r, st, h => by
    cases st with
    | nil => simp [chkB] at h
    | cons x xs =>
      simp only [chkB, Bool.and_eq_true] at h
      exact snd_bcons (sS hst hown cx s h.1) (sB hst hown cx r h.2)
  | .wrk n js r, st, h => by
    rw [chkB] at h
    cases h1 : takeJs N bl C.n sc js st with
    | none => rw [h1] at h; cases h
    | some rest =>
      rw [h1] at h
      exact snd_wrk hown cx h1 (sB hst hown cx r h)
  | .ali i j a c e r, st, h => by
    match st, h with
    | [], h => simp [chkB] at h
    | [_], h => simp [chkB] at h
    | x :: y :: xs, h =>
      rw [chkB, Bool.and_eq_true] at h
      obtain ⟨h1, h2⟩ := h
      cases h3 : asAli x y with
      | none => rw [h3] at h1; cases h1
      | some q =>
        obtain ⟨m, n, x1, y1, m1, f1, ap1, y2, p1, m2, f2, ap2, p2⟩ := q
        rw [h3] at h1
        obtain ⟨q1, q2, q3, q4, q5, q6, q7, q8, q9, rfl, rfl⟩ := asAli_eq h3
        simp only [Bool.and_eq_true, decide_eq_true_eq] at h1
        obtain ⟨⟨⟨⟨⟨⟨⟨⟨⟨⟨⟨⟨⟨g1, g2⟩, g3⟩, g4⟩, g5⟩, rfl⟩, rfl⟩, g8⟩, g9⟩, g10⟩, g11⟩, g12⟩, g13⟩, g14⟩ := h1
        exact snd_ali cx g1 g2 g3 g4 g8 g9 g10 g11 (sE a cx g12) (sT c cx g13) (sE e cx g14) (sB hst hown cx r h2)
termination_by s => sizeOf s
end
end
end Ev

set_option maxRecDepth 100000
set_option maxHeartbeats 8000000
/-! Defs, and a table of them. -/
namespace Ev
open PySem PySem.Spec PyProof.Rows L2
section
variable {P : Program} {w : World} {K : PySem.W.Frag} {mg : Str → Option Value} {base : Heap} {C : Kls} {k W : Nat} {Φ : String → List D → Res M} {G : String → Option D} {bl : List String} {N ps : List Str}

theorem ok_entry {H : Hp} {Se : Addr → Prop} {vs : List V} {ds : List D} (r : RDs K C H Se vs ds) (live : ∀ a, Se a → H a ≠ none) (hl : ds.length ≤ N.length) :
    Ok K C ⟨Se, fun _ => [], ds.map (fun d => some (.frz d)) ++ List.replicate (N.length - ds.length) none⟩ (L2.start N vs) H := by
  have hlen := r.length
  refine ⟨by simp [L2.start, hlen], fun i m e => ?_, live, fun i a h => by simp at h, fun i => by simp, fun i j a h => by simp at h⟩
  have e' : (ds.map (fun d => some (M.frz d)) ++ List.replicate (N.length - ds.length) none)[i]? = some (some m) := e
  by_cases hi : i < ds.length
  · rw [List.getElem?_append_left (by simpa using hi), List.getElem?_map, List.getElem?_eq_getElem hi] at e'
    cases e'
    obtain ⟨v, ev, rv⟩ := r.get (List.getElem?_eq_getElem hi)
    refine ⟨v, ?_, .frz rv⟩
    rw [L2.start, List.getElem?_append_left (by rw [List.length_map, hlen]; exact hi), List.getElem?_map, ev]; rfl
  · rw [List.getElem?_append_right (by simpa using hi), List.getElem?_replicate] at e'
    split at e' <;> cases e'
/-- a def of the text that passes the look keeps its promise -/
theorem def_ok {x qual : Str} {params : Arguments} {body : List Stmt} {scope : Scope} {f : Addr} {fd : FuncData} (F : FunD K x qual params body scope [] [] f fd) (S : FnScope N ps scope) (wd : Wd P w K mg base CX0 C k Φ G bl)
    {b : Ss} (hc : chkB N bl C.n scope b body = true) (hN : ps.length ≤ N.length) : FnOk P w K mg base CX0 (k + 1) f fd ps (spF K C (evD Φ G W ps.length N.length b)) := by
  refine F.ok S (fun vs H Q E h => ?_) fun cdv A outer s H vs Q E hr h => ?_
  · obtain ⟨Se, ds, m, r, _, e, _⟩ := h
    unfold evD at e
    split at e
    · rename_i hl; rw [r.length, hl]
    · cases e
  · obtain ⟨Se, ds, m, r, live, e, q⟩ := h
    refine ⟨tBv K C Φ G W b, PSs.nox ?_, ?_⟩
    · exact sB (X := (cxOf CX0 P w K mg base N qual scope f cdv A outer s H E).nox) ⟨rfl, rfl⟩ PassesOwn.never ⟨wd, rfl, S.nd, rfl, hr, fun Y _ _ => pass0, fun x h => h, fun x h => h, fun x h => .inl h, fun x h => h, fun x h => rfl, S.kind⟩ b hc
    · unfold evD at e
      split at e
      · rename_i hl
        refine ⟨⟨H, Se, Se, H⟩, _, ok_entry r live (by rw [hl]; exact hN), ⟨Same.refl H, fun a z => .inl z, fun i a z => by simp at z, fun a z => z, Kp.of_same (Same.refl H)⟩, ?_⟩
        show ROut K C _ (evSs Φ G W b (ds.map (fun d => some (.frz d)) ++ List.replicate (N.length - ds.length) none)) _
        rw [hl]
        obtain ⟨o, eo, e2⟩ := Res.bind_eq_ok e
        rw [eo]
        cases o with
        | rt m' =>
          cases e2
          exact fun v H' ⟨S', A', s', r', nd, hA, hS, hL⟩ => q v H' S' A' s' r' nd hA hS hL
        | nx g =>
          cases e2
          exact fun c σ H' _ _ fk => q .non H' (fun _ => False) [] fk.same (.frz .non) .nil (fun a z => by simp at z) (fun a z => z.elim) fun a z => z.elim
        | bk g => cases e2
        | ct g => cases e2
      · cases e
end


/-! ### where a def raises -/
def chkG (N : List Str) (bl : List String) (nC : Nat) (sc : Scope) (c : E) (st : List Stmt) : Bool := match asGd st with
  | some (x, n) => glOk sc n "NotAllowed" && chkE N bl nC c sc x
  | none => false
/-- what the raised class must say -/
structure RaiseOk (K : PySem.W.Frag) (NA : Addr) : Prop where
  xP : PySem.W.excIn K NA [.type "ValueError", .type "Exception", .type "BaseException", .type "object"] "ValueError.__new__" = true
  kP : PySem.W.keepIn K (.ref NA) = true
  bP : PySem.W.subIn K (.ref NA) (.type "BaseException") = some true
  tP : PySem.W.typeIn K (.ref NA) = some (.type "type")
section
variable {P : Program} {w : World} {K : PySem.W.Frag} {mg : Str → Option Value} {base : Heap} {C : Kls} {k W : Nat} {Φ : String → List D → Res M} {G : String → Option D} {bl : List String} {N ps : List Str}
theorem guard_ok {x qual : Str} {params : Arguments} {body : List Stmt} {scope : Scope} {f NA : Addr} {fd : FuncData} (F : FunD K x qual params body scope [] [] f fd) (S : FnScope N ps scope) (wd : Wd P w K mg base CX0 C k Φ G bl)
    {c : E} (hn : notSlot c = true) (ht : testE c = true) (hc : chkG N bl C.n scope c body = true) (hN : ps.length ≤ N.length) (er : ErrOk K mg NA) (ro : RaiseOk K NA) : FnOk P w K mg base (L2.CX P w) (k + 1) f fd ps (spX K C NA (evD Φ G W ps.length N.length (.cons (.ret c) .nil))) := by
  refine F.ok S (fun vs H Q E h => ?_) fun cdv A outer s H vs Q E hr h => ?_
  · obtain ⟨Se, ds, r, _, e, _⟩ := h
    unfold evD at e
    split at e
    · rename_i hl; rw [r.length, hl]
    · cases e
  · obtain ⟨Se, ds, r, live, e, q⟩ := h
    unfold chkG at hc
    cases h3 : asGd body with
    | none => rw [h3] at hc; cases hc
    | some q3 =>
      obtain ⟨y, n⟩ := q3
      rw [h3] at hc
      obtain ⟨p1, msg, j, p2, p3, p4, p5, rest, rfl⟩ := asGd_eq h3
      simp only [Bool.and_eq_true] at hc
      have cx : Ctx (cxOf (L2.CX P w) P w K mg base N qual scope f cdv A outer s H E) CX0 C k Φ G bl N scope := ⟨wd, rfl, S.nd, rfl, hr, fun Y _ _ => pass0, fun x h => h, fun x h => h, fun x h => .inl h, fun x h => h, fun x h => rfl, S.kind⟩
      obtain ⟨rfl, hgl, hdb⟩ := cx.gl hc.1
      have rz := pmk_own (X := cxOf (L2.CX P w) P w K mg base N qual scope f cdv A outer s H E) (m := msg) (j := j) (p := p1) (p2 := p2) (pos := p3) PySem.F.excBase_ValueError ro.xP er.na.1 ro.kP (raises_own ro.bP ro.tP) hgl hdb
      refine ⟨_, pss_cons (ps_if (sT c cx hc.2) (pss_one (ps_raise rfl (takes_of rfl rfl rfl rfl) rz)) pss_nil) pss_never, ?_⟩
      unfold evD at e
      split at e
      · rename_i hl
        obtain ⟨o, eo, e2⟩ := Res.bind_eq_ok e
        rw [evSs] at eo
        obtain ⟨o1, eo1, eo⟩ := Res.bind_eq_ok eo
        rw [evS_ret hn] at eo1
        obtain ⟨⟨m, T⟩, em, eo1⟩ := Res.bind_eq_ok eo1
        cases eo1
        simp only at eo
        cases eo
        cases e2
        refine ⟨_, ok_entry r live (by rw [hl]; exact hN), ?_⟩
        show RTv (tv Φ G c (ds.map (fun d => some (.frz d)) ++ List.replicate (N.length - ds.length) none) (ev Φ G c (ds.map (fun d => some (.frz d)) ++ List.replicate (N.length - ds.length) none))) _ H _
        rw [tv_test ht, hl, em]
        intro H1 s1
        exact q H1 s1
      · cases e
end

/-! ### __init__ -/
section
variable {P : Program} {w : World} {K : PySem.W.Frag} {mg : Str → Option Value} {base : Heap} {C : Kls} {k W : Nat} {Φ : String → List D → Res M} {G : String → Option D} {bl : List String} {N ps : List Str}
theorem fsOf_nodup : ∀ c, (fsOf c).Nodup
  | 0 => by decide +kernel
  | 1 => by decide +kernel
  | 2 => by decide +kernel
  | _ + 3 => List.nodup_nil
theorem fsOf_len : ∀ c, (fsOf c).length < 1000
  | 0 => by decide
  | 1 => by decide
  | 2 => by decide
  | _ + 3 => by simp [fsOf]
theorem putF_new {f : Str} {v : V} : ∀ {fs : List (Str × V)}, f ∉ fs.map (·.1) → putF f v fs = fs ++ [(f, v)]
  | [], _ => rfl
  | (g, x) :: r, h => by
    simp only [List.map_cons, List.mem_cons, not_or] at h
    rw [putF, if_neg (Ne.symm h.1), putF_new h.2]; rfl
def evF (Φ : String → List D → Res M) (G : String → Option D) : List E → Gm → Res (List D)
  | [], _ => .ok []
  | e :: es, g => (ev Φ G e g).bind fun r => (evF Φ G es (frzG (nrm r) g)).bind fun ds => .ok (r.1.toD :: ds)
/-- a class's __init__: the new instance -/
def evI (Φ : String → List D → Res M) (G : String → Option D) (c np n : Nat) (es : List E) (ds : List D) : Res M :=
  if ds.length = np then (evF Φ G es (none :: (ds.map (fun d => some (.frz d)) ++ List.replicate (n - (np + 1)) none))).bind fun fs => .ok (.frz (.obj c fs)) else .no
def asFldT : List Expr → Option (Str × Str)
  | [.Attribute (.Name n _) f _] => some (n, f)
  | _ => none
theorem asFldT_eq {x : List Expr} {n f : Str} (h : asFldT x = some (n, f)) : ∃ p1 p2, x = [.Attribute (.Name n p1) f p2] := by
  unfold asFldT at h
  split at h
  · cases h; exact ⟨_, _, rfl⟩
  · cases h
def chkI (N : List Str) (bl : List String) (nC : Nat) (sc : Scope) (c : Nat) : Nat → List E → List Stmt → Bool
  | i, [], [] => i == (fsOf c).length
  | i, e :: es, .Assign ts x _ :: sts => (match asFldT ts with
    | some (n, f) => nmOk N sc n 0 && decide ((fsOf c)[i]? = some f) && chkE N bl nC e sc x
    | none => false) && chkI N bl nC sc c (i + 1) es sts
  | _, _, _ => false
theorem swaps_attr {e : Expr} {a : Expr} {f : Str} {pos : Pos} {l : Nat} {env : Env} : swapsWith e (some (.Attribute a f pos)) l env = pure false := by
  cases e <;> rfl
def tIv (K : PySem.W.Frag) (C : Kls) (Φ : String → List D → Res M) (G : String → Option D) (cc i : Nat) (es : List E) : TS := fun E σ H => ∃ (c : Cf) (x dx : Addr) (fs : List (Str × V)) (ds0 ds : List D),
  Ok K C c σ H ∧ (∀ j, c.fp j = []) ∧ c.g[0]? = some none ∧ σ[0]? = some (some (.ref x)) ∧ H x = some (.ins (C.at_ cc) dx fs) ∧ fs.map (·.1) = (fsOf cc).take i ∧ RDs K C H c.S (fs.map (·.2)) ds0 ∧ ¬ c.S x ∧ evF Φ G es c.g = .ok ds ∧
  ∀ σ' H' S' fs', (∀ a o, a ≠ x → H a = some o → H' a = some o) → H' x = some (.ins (C.at_ cc) dx fs') → fs'.map (·.1) = fsOf cc → RDs K C H' S' (fs'.map (·.2)) (ds0 ++ ds) → (∀ a, S' a → c.S a ∨ H a = none) → (∀ a, S' a → H' a ≠ none) → E.nx σ' H'
theorem sI {X : Cx} {CX : CXT} {sc : Scope} {cc : Nat} (hcc : cc < C.n) (cx : Ctx X CX C k Φ G bl N sc) : ∀ (es : List E) (i : Nat) {sts : List Stmt}, chkI N bl C.n sc cc i es sts = true → PSs X sts (tIv X.K C Φ G cc i es)
  | [], i, sts, h => by
    cases sts with
    | cons _ _ => simp [chkI] at h
    | nil =>
      simp only [chkI, beq_iff_eq] at h
      refine pss_imp pss_nil fun E σ H ⟨c, x, dx, fs, ds0, ds, ok, hfp, hg0, hs0, hx, hfs, rs, nS, er, q⟩ => ?_
      rw [evF] at er
      cases er
      rw [h, List.take_length] at hfs
      exact q σ H c.S fs (fun _ _ _ e => e) hx hfs (by rw [List.append_nil]; exact rs) (fun a z => .inl z) fun a z => ok.live a z
  | e :: es, i, sts, h => by
    cases sts with
    | nil => simp [chkI] at h
    | cons st sts =>
      cases st <;> first | (simp [chkI] at h; done) | skip
      rename_i ts xe pos
      rw [chkI, Bool.and_eq_true] at h
      obtain ⟨h1, h2⟩ := h
      cases h3 : asFldT ts with
      | none => rw [h3] at h1; cases h1
      | some q =>
        obtain ⟨n, f⟩ := q
        rw [h3] at h1
        obtain ⟨p1, p2, rfl⟩ := asFldT_eq h3
        simp only [Bool.and_eq_true, decide_eq_true_eq] at h1
        obtain ⟨⟨g1, g2⟩, g3⟩ := h1
        obtain ⟨n1, n2, n3, n4⟩ := cx.vis g1
        refine pss_imp (pss_cons (ps_fld (pe_var (pos := p1) n1 n2 n3 n4) (sE e cx g3) swaps_attr) (sI hcc cx es (i + 1) h2)) fun E σ H ⟨c, x, dx, fs, ds0, ds, ok, hfp, hg0, hs0, hx, hfs, rs, nS, er, q⟩ => ?_
        rw [evF] at er
        obtain ⟨⟨m, T⟩, ea, er⟩ := Res.bind_eq_ok er
        obtain ⟨ds', er', er⟩ := Res.bind_eq_ok er
        cases er
        refine ⟨c, ok, ?_⟩
        rw [ea]
        intro y H1 s1 pp
        obtain ⟨S5, g5, r5⟩ := pp.nrm.rd
        obtain ⟨hi, hf⟩ := List.getElem?_eq_some_iff.mp g2
        have hfl : fs.length = i := by
          have := congrArg List.length hfs
          simp only [List.length_map, List.length_take] at this
          omega
        have cl := cx.wd.cls cc hcc
        have hfm : f ∈ fsOf cc := hf ▸ List.getElem_mem hi
        refine ⟨.ref x, hs0, x, C.at_ cc, dx, fs, rfl, s1 _ _ hx, cl.1, cl.2.1 f hfm, by have := fsOf_len cc; omega, ?_⟩
        have hnew : f ∉ fs.map (·.1) := by
          rw [hfs]
          intro z
          obtain ⟨j, hj, ej⟩ := List.getElem_of_mem z
          rw [List.getElem_take] at ej
          have hji : j < i := by simp at hj; omega
          have := (List.getElem_inj (i := j) (j := i) (h₀ := by omega) (h₁ := hi) (fsOf_nodup cc)).mp (ej.trans hf.symm)
          omega
        rw [putF_new hnew]
        have ok1 := ok.fz s1 g5
        have e1 := s1 _ _ hx
        have nS5 : ¬ S5 x := fun z => by
          rcases g5.sub x z with z | ⟨j, _, z⟩ | z
          · exact nS z
          · rw [hfp j] at z; simp at z
          · rw [hx] at z; cases z
        have nS1 : ¬ (c.fz (nrm (m, T)) S5).S x := fun z => by
          rcases z with z | ⟨j, _, z⟩ | z
          · exact nS z
          · rw [hfp j] at z; simp at z
          · exact nS5 z
        have hfp1 : ∀ j, (c.fz (nrm (m, T)) S5).fp j = [] := fun j => by
          show (if j ∈ nrm (m, T) then [] else c.fp j) = []
          split
          · rfl
          · exact hfp j
        have kp : Kp (fun a => c.S a ∨ S5 a) H1 (upd H1 x (.ins (C.at_ cc) dx (fs ++ [(f, y)]))) := Kp.upd e1 rfl fun z => z.elim nS nS5
        refine ⟨c.fz (nrm (m, T)) S5, x, dx, fs ++ [(f, y)], ds0 ++ [m.toD], ds', ok1.out e1 rfl nS1 (fun j z => by rw [hfp1 j] at z; simp at z), hfp1, ?_, hs0, upd_same, ?_, ?_, nS1, er', ?_⟩
        · show (frzG (nrm (m, T)) c.g)[0]? = some none
          rw [frzG_get, hg0]
          split <;> rfl
        · rw [List.map_append, hfs, List.take_succ_eq_append_getElem hi, hf]; rfl
        · rw [List.map_append]
          refine RDs.append ((rs.same s1).mono (fun _ z => .inl z) (kp.imp fun _ z => .inl z)) (.cons (r5.mono (fun _ z => .inr (.inr z)) (kp.imp fun _ z => .inr z)) .nil)
        · intro σ' H' S' fs' hk hx' hfs' rs' hS hL
          refine q σ' H' S' fs' (fun a o ha e => hk a o ha (by rw [upd_ne ha]; exact s1 _ _ e)) hx' hfs' (by rw [List.append_assoc] at rs'; exact rs') (fun a z => ?_) hL
          rcases hS a z with z | z
          · rcases z with z | ⟨j, _, z⟩ | z
            · exact .inl z
            · rw [hfp j] at z; simp at z
            · rcases g5.sub a z with z | ⟨j, _, z⟩ | z
              · exact .inl z
              · rw [hfp j] at z; simp at z
              · exact .inr z
          · by_cases ha : a = x
            · subst ha; rw [upd_same] at z; cases z
            · rw [upd_ne ha] at z; exact .inr (s1.free z)
theorem init_ok {x qual : Str} {params : Arguments} {body : List Stmt} {scope : Scope} {f : Addr} {fd : FuncData} (F : FunD K x qual params body scope [] [] f fd) (S : FnScope N ps scope) (wd : Wd P w K mg base CX0 C k Φ G bl)
    {cc : Nat} (hcc : cc < C.n) {es : List E} (hc : chkI N bl C.n scope cc 0 es body = true) {np : Nat} (hp : ps.length = np + 1) (hN : np + 1 ≤ N.length) : FnOk P w K mg base CX0 (k + 1) f fd ps (spI K C cc (evI Φ G cc np N.length es)) := by
  refine F.ok S (fun vs H Q E h => ?_) fun cdv A outer s H vs Q E hr h => ?_
  · obtain ⟨x, dx, us, Se, ds, es', rfl, hx, r, _, _, e, _⟩ := h
    unfold evI at e
    split at e
    · rename_i hl; rw [List.length_cons, r.length, hl, hp]
    · cases e
  · obtain ⟨x, dx, us, Se, ds, es', rfl, hx, r, live, nS, e, q⟩ := h
    refine ⟨tIv K C Φ G cc 0 es, PSs.nox ?_, ?_⟩
    · exact sI (X := (cxOf CX0 P w K mg base N qual scope f cdv A outer s H E).nox) hcc ⟨wd, rfl, S.nd, rfl, hr, fun Y _ _ => pass0, fun x h => h, fun x h => h, fun x h => .inl h, fun x h => h, fun x h => rfl, S.kind⟩ es 0 hc
    · unfold evI at e
      split at e
      · rename_i hl
        obtain ⟨fs, ef, e2⟩ := Res.bind_eq_ok e
        cases e2
        have hlen := r.length
        have ok0 : Ok K C ⟨Se, fun _ => [], none :: (ds.map (fun d => some (.frz d)) ++ List.replicate (N.length - (np + 1)) none)⟩ (L2.start N (.ref x :: us)) H := by
          refine ⟨by simp [L2.start, hlen, hl], fun i m e => ?_, live, fun i a h => by simp at h, fun i => by simp, fun i j a h => by simp at h⟩
          cases i with
          | zero => simp at e
          | succ i =>
            simp only [List.getElem?_cons_succ] at e
            by_cases hi : i < ds.length
            · rw [List.getElem?_append_left (by simpa using hi), List.getElem?_map, List.getElem?_eq_getElem hi] at e
              cases e
              obtain ⟨v, ev', rv⟩ := r.get (List.getElem?_eq_getElem hi)
              refine ⟨v, ?_, .frz rv⟩
              rw [L2.start, List.getElem?_append_left (by rw [List.length_map, List.length_cons, hlen]; omega), List.getElem?_map, List.getElem?_cons_succ, ev']; rfl
            · rw [List.getElem?_append_right (by simpa using hi), List.getElem?_replicate] at e
              split at e <;> cases e
        refine ⟨_, x, dx, [], [], es', ok0, fun _ => rfl, rfl, ?_, hx, rfl, .nil, nS, ef, fun σ' H' S' fs' hk hx' hfs' rs' hS hL => q H' S' fs' hk hx' hfs' rs' hS hL⟩
        rw [L2.start]; rfl
      · cases e
/-! ### __init__ whose later parameters stay the caller's own -/
def evFO (Φ : String → List D → Res M) (G : String → Option D) : List E → Gm → Res (List D)
  | [], _ => .ok []
  | e :: es, g => (ev Φ G e g).bind fun r => match nrm r with
    | [] => (evFO Φ G es g).bind fun ds => .ok (r.1.toD :: ds)
    | _ => .no
def evIO (Φ : String → List D → Res M) (G : String → Option D) (c np k n : Nat) (es : List E) (ds : List D) : Res M :=
  if ds.length = np then (evFO Φ G es (none :: ((ds.take k).map (fun d => some (.frz d)) ++ ((ownMs (ds.drop k)).map some ++ List.replicate (n - (np + 1)) none)))).bind fun fs => .ok (.frz (.obj c fs)) else .no
def tIO (K : PySem.W.Frag) (C : Kls) (Φ : String → List D → Res M) (G : String → Option D) (cc i : Nat) (es : List E) : TS := fun E σ H => ∃ (c : Cf) (x dx : Addr) (fs : List (Str × V)) (ds0 ds : List D),
  Ok K C c σ H ∧ (∀ j, x ∉ c.fp j) ∧ c.g[0]? = some none ∧ σ[0]? = some (some (.ref x)) ∧ H x = some (.ins (C.at_ cc) dx fs) ∧ fs.map (·.1) = (fsOf cc).take i ∧ RDs K C H c.S (fs.map (·.2)) ds0 ∧ ¬ c.S x ∧ evFO Φ G es c.g = .ok ds ∧
  ∀ σ' H' S' fs', (∀ a o, a ≠ x → H a = some o → H' a = some o) → H' x = some (.ins (C.at_ cc) dx fs') → fs'.map (·.1) = fsOf cc → RDs K C H' S' (fs'.map (·.2)) (ds0 ++ ds) → (∀ a, S' a → c.S a ∨ H a = none) → (∀ a, S' a → H' a ≠ none) → E.nx σ' H'
theorem sIO {X : Cx} {CX : CXT} {sc : Scope} {cc : Nat} (hcc : cc < C.n) (cx : Ctx X CX C k Φ G bl N sc) : ∀ (es : List E) (i : Nat) {sts : List Stmt}, chkI N bl C.n sc cc i es sts = true → PSs X sts (tIO X.K C Φ G cc i es)
  | [], i, sts, h => by
    cases sts with
    | cons _ _ => simp [chkI] at h
    | nil =>
      simp only [chkI, beq_iff_eq] at h
      refine pss_imp pss_nil fun E σ H ⟨c, x, dx, fs, ds0, ds, ok, hfp, hg0, hs0, hx, hfs, rs, nS, er, q⟩ => ?_
      rw [evFO] at er
      cases er
      rw [h, List.take_length] at hfs
      exact q σ H c.S fs (fun _ _ _ e => e) hx hfs (by rw [List.append_nil]; exact rs) (fun a z => .inl z) fun a z => ok.live a z
  | e :: es, i, sts, h => by
    cases sts with
    | nil => simp [chkI] at h
    | cons st sts =>
      cases st <;> first | (simp [chkI] at h; done) | skip
      rename_i ts xe pos
      rw [chkI, Bool.and_eq_true] at h
      obtain ⟨h1, h2⟩ := h
      cases h3 : asFldT ts with
      | none => rw [h3] at h1; cases h1
      | some q =>
        obtain ⟨n, f⟩ := q
        rw [h3] at h1
        obtain ⟨p1, p2, rfl⟩ := asFldT_eq h3
        simp only [Bool.and_eq_true, decide_eq_true_eq] at h1
        obtain ⟨⟨g1, g2⟩, g3⟩ := h1
        obtain ⟨n1, n2, n3, n4⟩ := cx.vis g1
        refine pss_imp (pss_cons (ps_fld (pe_var (pos := p1) n1 n2 n3 n4) (sE e cx g3) swaps_attr) (sIO hcc cx es (i + 1) h2)) fun E σ H ⟨c, x, dx, fs, ds0, ds, ok, hfp, hg0, hs0, hx, hfs, rs, nS, er, q⟩ => ?_
        rw [evFO] at er
        obtain ⟨⟨m, T⟩, ea, er⟩ := Res.bind_eq_ok er
        split at er
        · rename_i hT
          obtain ⟨ds', er', er⟩ := Res.bind_eq_ok er
          cases er
          refine ⟨c, ok, ?_⟩
          rw [ea]
          intro y H1 s1 pp
          have pn := pp.nrm
          rw [hT] at pn
          obtain ⟨S5, g5, r5⟩ := pn.rd
          obtain ⟨hi, hf⟩ := List.getElem?_eq_some_iff.mp g2
          have hfl : fs.length = i := by
            have := congrArg List.length hfs
            simp only [List.length_map, List.length_take] at this
            omega
          have cl := cx.wd.cls cc hcc
          have hfm : f ∈ fsOf cc := hf ▸ List.getElem_mem hi
          refine ⟨.ref x, hs0, x, C.at_ cc, dx, fs, rfl, s1 _ _ hx, cl.1, cl.2.1 f hfm, by have := fsOf_len cc; omega, ?_⟩
          have hnew : f ∉ fs.map (·.1) := by
            rw [hfs]
            intro z
            obtain ⟨j, hj, ej⟩ := List.getElem_of_mem z
            rw [List.getElem_take] at ej
            have hji : j < i := by simp at hj; omega
            have := (List.getElem_inj (i := j) (j := i) (h₀ := by omega) (h₁ := hi) (fsOf_nodup cc)).mp (ej.trans hf.symm)
            omega
          rw [putF_new hnew]
          have ok1 := ok.fz s1 g5
          have e1 := s1 _ _ hx
          have nS5 : ¬ S5 x := fun z => by
            rcases g5.sub x z with z | ⟨j, w, _⟩ | z
            · exact nS z
            · simp at w
            · rw [hx] at z; cases z
          have nS1 : ¬ (c.fz [] S5).S x := fun z => by
            rcases z with z | ⟨j, w, _⟩ | z
            · exact nS z
            · simp at w
            · exact nS5 z
          have hfp1 : ∀ j, x ∉ (c.fz [] S5).fp j := fun j => by
            show x ∉ (if j ∈ [] then [] else c.fp j)
            split
            · simp
            · exact hfp j
          have kp : Kp (fun a => c.S a ∨ S5 a) H1 (upd H1 x (.ins (C.at_ cc) dx (fs ++ [(f, y)]))) := Kp.upd e1 rfl fun z => z.elim nS nS5
          refine ⟨c.fz [] S5, x, dx, fs ++ [(f, y)], ds0 ++ [m.toD], ds', ok1.out e1 rfl nS1 hfp1, hfp1, hg0, hs0, upd_same, ?_, ?_, nS1, er', ?_⟩
          · rw [List.map_append, hfs, List.take_succ_eq_append_getElem hi, hf]; rfl
          · rw [List.map_append]
            refine RDs.append ((rs.same s1).mono (fun _ z => .inl z) (kp.imp fun _ z => .inl z)) (.cons (r5.mono (fun _ z => .inr (.inr z)) (kp.imp fun _ z => .inr z)) .nil)
          · intro σ' H' S' fs' hk hx' hfs' rs' hS hL
            refine q σ' H' S' fs' (fun a o ha e => hk a o ha (by rw [upd_ne ha]; exact s1 _ _ e)) hx' hfs' (by rw [List.append_assoc] at rs'; exact rs') (fun a z => ?_) hL
            rcases hS a z with z | z
            · rcases z with z | ⟨j, w, _⟩ | z
              · exact .inl z
              · simp at w
              · rcases g5.sub a z with z | ⟨j, w, _⟩ | z
                · exact .inl z
                · simp at w
                · exact .inr z
            · by_cases ha : a = x
              · subst ha; rw [upd_same] at z; cases z
              · rw [upd_ne ha] at z; exact .inr (s1.free z)
        · cases er
theorem RMs.fpx {K : PySem.W.Frag} {C : Kls} {H : Hp} {S : Addr → Prop} : ∀ {vs : List V} {ms : List M} {A : List Addr}, RMs K C H S vs ms A → A.Nodup → ∃ fp : Nat → List Addr, (∀ (i : Nat) (m : M), ms[i]? = some m → ∃ v, vs[i]? = some v ∧ RM K C H S v m (fp i)) ∧ (∀ i, (fp i).Nodup) ∧ (∀ i a, a ∈ fp i → a ∈ A) ∧ ∀ i j a, a ∈ fp i → a ∈ fp j → i = j
  | _, _, _, .nil, _ => ⟨fun _ => [], fun i m h => by simp at h, fun _ => .nil, fun i a h => by simp at h, fun i j a h => by simp at h⟩
  | _, _, _, .cons (A := A) (B := B) r t, nd => by
    obtain ⟨n1, n2, n3⟩ := List.nodup_append.mp nd
    obtain ⟨fp, f1, f2, f3, f4⟩ := RMs.fpx t n2
    refine ⟨fun i => match i with
      | 0 => A
      | i + 1 => fp i, fun i m h => ?_, fun i => ?_, fun i a h => ?_, fun i j a h h2 => ?_⟩
    · cases i with
      | zero => simp at h; subst h; exact ⟨_, rfl, r⟩
      | succ i => exact f1 i m (by simpa using h)
    · cases i with
      | zero => exact n1
      | succ i => exact f2 i
    · cases i with
      | zero => exact List.mem_append_left _ h
      | succ i => exact List.mem_append_right _ (f3 i a h)
    · cases i with
      | zero => cases j with
        | zero => rfl
        | succ j => exact absurd rfl (n3 a h a (f3 j a h2))
      | succ i => cases j with
        | zero => exact absurd rfl (n3 a h2 a (f3 i a h))
        | succ j => rw [f4 i j a h h2]
theorem ownMs_len : ∀ (ds : List D), (ownMs ds).length = ds.length
  | [] => rfl
  | d :: ds => by rw [ownMs, List.length_cons, List.length_cons, ownMs_len ds]
theorem init_okO {x qual : Str} {params : Arguments} {body : List Stmt} {scope : Scope} {f : Addr} {fd : FuncData} (F : FunD K x qual params body scope [] [] f fd) (S : FnScope N ps scope) (wd : Wd P w K mg base CX0 C k Φ G bl)
    {cc : Nat} (hcc : cc < C.n) {es : List E} (hc : chkI N bl C.n scope cc 0 es body = true) {np kp : Nat} (hp : ps.length = np + 1) (hN : np + 1 ≤ N.length) : FnOk P w K mg base CX0 (k + 1) f fd ps (spIO K C cc kp (evIO Φ G cc np kp N.length es)) := by
  refine F.ok S (fun vs H Q E h => ?_) fun cdv A outer s H vs Q E hr h => ?_
  · obtain ⟨x, dx, us, ws, Se, ds, hs, es', AA, rfl, hx, r, hk, rm, _, _, _, _, e, _⟩ := h
    unfold evIO at e
    split at e
    · rename_i hl
      rw [List.length_append] at hl
      rw [List.length_cons, List.length_append, r.length, rm.length, ownMs_len, hl, hp]
    · cases e
  · obtain ⟨x, dx, us, ws, Se, ds, hs, es', AA, rfl, hx, r, hk, rm, nd, hA, live, nS, e, q⟩ := h
    refine ⟨tIO K C Φ G cc 0 es, PSs.nox ?_, ?_⟩
    · exact sIO (X := (cxOf CX0 P w K mg base N qual scope f cdv A outer s H E).nox) hcc ⟨wd, rfl, S.nd, rfl, hr, fun Y _ _ => pass0, fun x h => h, fun x h => h, fun x h => .inl h, fun x h => h, fun x h => rfl, S.kind⟩ es 0 hc
    · unfold evIO at e
      split at e
      · rename_i hl
        obtain ⟨fs, ef, e2⟩ := Res.bind_eq_ok e
        cases e2
        have hlr := r.length
        have hlm := rm.length
        rw [ownMs_len] at hlm
        rw [List.length_append] at hl
        rw [show (ds ++ hs).take kp = ds by rw [← hk, List.take_left], show (ds ++ hs).drop kp = hs by rw [← hk, List.drop_left]] at ef
        obtain ⟨fp, f1, f2, f3, f4⟩ := rm.fpx nd
        let g0 : Gm := none :: (ds.map (fun d => some (M.frz d)) ++ ((ownMs hs).map some ++ List.replicate (N.length - (np + 1)) none))
        let fq : Nat → List Addr := fun i => if i < ds.length + 1 then [] else fp (i - (ds.length + 1))
        have hst : L2.start N (.ref x :: (us ++ ws)) = some (.ref x) :: (us.map some ++ (ws.map some ++ List.replicate (N.length - (np + 1)) none)) := by
          have : (us ++ ws).length = np := by rw [List.length_append]; omega
          rw [L2.start, List.length_cons, this]
          simp [List.append_assoc]
        have ok0 : Ok K C ⟨Se, fq, g0⟩ (L2.start N (.ref x :: (us ++ ws))) H := by
          rw [hst]
          refine ⟨by simp [g0, ownMs_len, hlr, hlm], fun i m e => ?_, live, fun i a h => ?_, fun i => ?_, fun i j a h h2 => ?_⟩
          · have e' : g0[i]? = some (some m) := e
            cases i with
            | zero => simp [g0] at e'
            | succ i =>
              simp only [g0, List.getElem?_cons_succ] at e' ⊢
              by_cases hi : i < ds.length
              · rw [List.getElem?_append_left (by simpa using hi), List.getElem?_map, List.getElem?_eq_getElem hi] at e'
                cases e'
                obtain ⟨v, ev', rv⟩ := r.get (List.getElem?_eq_getElem hi)
                refine ⟨v, by rw [List.getElem?_append_left (by rw [List.length_map, hlr]; exact hi), List.getElem?_map, ev']; rfl, ?_⟩
                show RM K C H Se v (.frz ds[i]) (if i + 1 < ds.length + 1 then [] else fp (i + 1 - (ds.length + 1)))
                rw [if_pos (by omega)]
                exact .frz rv
              · rw [List.getElem?_append_right (by simpa using hi), List.length_map] at e'
                by_cases hj : i - ds.length < hs.length
                · rw [List.getElem?_append_left (by rw [List.length_map, ownMs_len]; exact hj), List.getElem?_map] at e'
                  cases hm : (ownMs hs)[i - ds.length]? with
                  | none => rw [hm] at e'; cases e'
                  | some m' =>
                    rw [hm] at e'
                    cases e'
                    obtain ⟨v, ev', rv⟩ := f1 _ _ hm
                    refine ⟨v, ?_, ?_⟩
                    · rw [List.getElem?_append_right (by rw [List.length_map, hlr]; omega), List.length_map, hlr, List.getElem?_append_left (by rw [List.length_map, hlm]; exact hj), List.getElem?_map, ev']; rfl
                    · show RM K C H Se v m (if i + 1 < ds.length + 1 then [] else fp (i + 1 - (ds.length + 1)))
                      rw [if_neg (by omega), show i + 1 - (ds.length + 1) = i - ds.length by omega]
                      exact rv
                · rw [List.getElem?_append_right (by rw [List.length_map, ownMs_len]; omega), List.getElem?_replicate] at e'
                  split at e' <;> cases e'
          · have h' : a ∈ (if i < ds.length + 1 then [] else fp (i - (ds.length + 1))) := h
            split at h'
            · simp at h'
            · have := f3 _ a h'
              exact ⟨rm.live a this, (hA a this).1⟩
          · show (if i < ds.length + 1 then [] else fp (i - (ds.length + 1))).Nodup
            split
            · exact .nil
            · exact f2 _
          · have h' : a ∈ (if i < ds.length + 1 then [] else fp (i - (ds.length + 1))) := h
            have h2' : a ∈ (if j < ds.length + 1 then [] else fp (j - (ds.length + 1))) := h2
            split at h'
            · simp at h'
            · split at h2'
              · simp at h2'
              · have := f4 _ _ a h' h2'
                omega
        refine ⟨_, x, dx, [], [], es', ok0, fun j z => ?_, rfl, ?_, hx, rfl, .nil, nS, ef, fun σ' H' S' fs' hk hx' hfs' rs' hS hL => q H' S' fs' hk hx' hfs' rs' hS hL⟩
        · have z' : x ∈ (if j < ds.length + 1 then [] else fp (j - (ds.length + 1))) := z
          split at z'
          · simp at z'
          · exact (hA x (f3 _ x z')).2 rfl
        · rw [L2.start]; rfl
      · cases e
end

/-- a def as data; a class: its number, the fields of its __init__ -/
structure DefI where
  np : Nat
  n : Nat
  body : Ss
  cls : Option (Nat × List E)
/-- the table's meaning, by levels of calls -/
def ph (G : String → Option D) (W : Nat) (T : String → Option DefI) : Nat → String → List D → Res M
  | 0, _, _ => .no
  | 1, f, ds => match T f with
    | some d => (match d.cls with
      | none => evD (fun _ _ => .no) G W d.np d.n d.body ds
      | some _ => .no)
    | none => .no
  | k + 2, f, ds => match T f with
    | some d => (match d.cls with
      | none => evD (ph G W T (k + 1)) G W d.np d.n d.body ds
      | some q => if knm f = true then evIO (ph G W T k) G q.1 d.np (knp f) d.n q.2 ds else evI (ph G W T k) G q.1 d.np d.n q.2 ds)
    | none => .no
theorem ph0 {G : String → Option D} {W : Nat} {T : String → Option DefI} : ph G W T 0 = fun _ _ => .no := by funext f ds; rw [ph]
theorem ph_fn {G : String → Option D} {W : Nat} {T : String → Option DefI} {f : String} {d : DefI} (h : T f = some d) (hc : d.cls = none) : ∀ k, ph G W T (k + 1) f = evD (ph G W T k) G W d.np d.n d.body
  | 0 => by funext ds; rw [ph0]; simp only [ph, h, hc]
  | k + 1 => by funext ds; simp only [ph, h, hc]
theorem ph_cl {G : String → Option D} {W : Nat} {T : String → Option DefI} {f : String} {d : DefI} {q : Nat × List E} (h : T f = some d) (hc : d.cls = some q) (k : Nat) (hk : knm f = false := by decide +kernel) : ph G W T (k + 2) f = evI (ph G W T k) G q.1 d.np d.n q.2 := by
  funext ds; simp only [ph, h, hc, hk]; rfl
theorem ph_clO {G : String → Option D} {W : Nat} {T : String → Option DefI} {f : String} {d : DefI} {q : Nat × List E} (h : T f = some d) (hc : d.cls = some q) (k : Nat) (hk : knm f = true := by decide +kernel) : ph G W T (k + 2) f = evIO (ph G W T k) G q.1 d.np (knp f) d.n q.2 := by
  funext ds; simp only [ph, h, hc, hk, if_true]
/-- where a def of the table stands -/
def DefAtX (P : Program) (w : World) (K : PySem.W.Frag) (mg : Str → Option Value) (C : Kls) (bl : List String) (f : String) (d : DefI) : Prop :=
  d.cls = none ∧ ∃ (c : E) (qual : Str) (params : Arguments) (body : List Stmt) (scope : Scope) (a : Addr) (fd : FuncData) (N ps : List Str) (NA : Addr), d.body = .cons (.ret c) .nil ∧ notSlot c = true ∧ testE c = true ∧ FunD K (Str.ofString (xnf f)) qual params body scope [] [] a fd ∧ FnScope N ps scope ∧ mg (Str.ofString (xnf f)) = some (.ref a) ∧ Binds K fd ps [] ∧
    chkG N bl C.n scope c body = true ∧ ps.length = d.np ∧ N.length = d.n ∧ d.np ≤ d.n ∧ ErrOk K mg NA ∧ RaiseOk K NA
def DefAt0 (P : Program) (w : World) (K : PySem.W.Frag) (mg : Str → Option Value) (C : Kls) (bl : List String) (f : String) (d : DefI) : Prop := match d.cls with
  | none => ∃ (qual : Str) (params : Arguments) (body : List Stmt) (scope : Scope) (a : Addr) (fd : FuncData) (N ps : List Str), FunD K (Str.ofString f) qual params body scope [] [] a fd ∧ FnScope N ps scope ∧ mg (Str.ofString f) = some (.ref a) ∧ Binds K fd ps [] ∧
    chkB N bl C.n scope d.body body = true ∧ ps.length = d.np ∧ N.length = d.n ∧ d.np ≤ d.n
  | some q => ∃ (x qual : Str) (params : Arguments) (body : List Stmt) (scope : Scope) (a : Addr) (fd : FuncData) (N ps : List Str), FunD K x qual params body scope [] [] a fd ∧ FnScope N ps scope ∧ Mk K (C.at_ q.1) a ∧ Binds K fd ps [] ∧
    chkI N bl C.n scope q.1 0 q.2 body = true ∧ ps.length = d.np + 1 ∧ N.length = d.n ∧ d.np + 1 ≤ d.n ∧ q.1 < C.n ∧ Str.ofString f = Str.ofString (clsNm q.1)
def DefAtK (P : Program) (w : World) (K : PySem.W.Frag) (mg : Str → Option Value) (C : Kls) (bl : List String) (f : String) (d : DefI) : Prop := ∃ (q : Nat × List E) (x qual : Str) (params : Arguments) (body : List Stmt) (scope : Scope) (a : Addr) (fd : FuncData) (N ps : List Str), d.cls = some q ∧ FunD K x qual params body scope [] [] a fd ∧ FnScope N ps scope ∧ Mk K (C.at_ q.1) a ∧ Binds K fd ps [] ∧
    chkI N bl C.n scope q.1 0 q.2 body = true ∧ ps.length = d.np + 1 ∧ N.length = d.n ∧ d.np + 1 ≤ d.n ∧ q.1 < C.n ∧ Str.ofString (knf f) = Str.ofString (clsNm q.1)
def DefAt (P : Program) (w : World) (K : PySem.W.Frag) (mg : Str → Option Value) (C : Kls) (bl : List String) (f : String) (d : DefI) : Prop := if knm f = true then DefAtK P w K mg C bl f d else if xnm f = true then DefAtX P w K mg C bl f d else DefAt0 P w K mg C bl f d
/-- the module's facts but for the table -/
structure Wd0 (P : Program) (w : World) (K : PySem.W.Frag) (mg : Str → Option Value) (base : Heap) (C : Kls) (G : String → Option D) (bl : List String) : Prop where
  gl : ∀ x d, G x = some d → ∃ v u, mg (Str.ofString x) = some u ∧ RelV v u ∧ ∀ H S, RD K C H S v d
  bn : ∀ x ∈ bl, x ≠ "gcd" → mg (Str.ofString x) = none
  gcd : "gcd" ∈ bl → mg (Str.ofString "gcd") = some (.builtin "math.gcd")
  cls : ∀ c, c < C.n → Cls K (C.at_ c) ∧ (∀ f ∈ fsOf c, NoAttr K (C.at_ c) f) ∧ mg (Str.ofString (clsNm c)) = some (.ref (C.at_ c)) ∧ ∀ H a dx fs, H a = some (.ins (C.at_ c) dx fs) → TyX K H (.ref a) (.ref (C.at_ c))
  kit : ∀ t d, (∀ c, t = .cls c → c < C.n) → (∀ c fs, d = .obj c fs → c < C.n) → PySem.W.kitOne K (C.tyD d) (C.tyT t) = some (isiD t d)
theorem evI_obj {Φ : String → List D → Res M} {G : String → Option D} {c np n : Nat} {es : List E} {ds : List D} {m : M} (h : evI Φ G c np n es ds = .ok m) : ∃ fs, m = .frz (.obj c fs) := by
  unfold evI at h
  split at h
  · obtain ⟨fs, _, e⟩ := Res.bind_eq_ok h
    cases e; exact ⟨_, rfl⟩
  · cases h
theorem evIO_obj {Φ : String → List D → Res M} {G : String → Option D} {c np k n : Nat} {es : List E} {ds : List D} {m : M} (h : evIO Φ G c np k n es ds = .ok m) : ∃ fs, m = .frz (.obj c fs) := by
  unfold evIO at h
  split at h
  · obtain ⟨fs, _, e⟩ := Res.bind_eq_ok h
    cases e; exact ⟨_, rfl⟩
  · cases h
theorem knm_x : ∀ {f : String}, xnm f = true → knm f = false := fun {f} h => by
  unfold xnm at h
  simp only [Bool.or_eq_true, beq_iff_eq] at h
  rcases h with (rfl | rfl) | rfl <;> decide +kernel
theorem prog_ok {P : Program} {w : World} {K : PySem.W.Frag} {mg : Str → Option Value} {base : Heap} {C : Kls} {G : String → Option D} {bl : List String} {W : Nat} {T : String → Option DefI}
    (w0 : Wd0 P w K mg base C G bl) (hT : ∀ f d, T f = some d → DefAt P w K mg C bl f d) : ∀ k, Wd P w K mg base CX0 C k (ph G W T k) G bl := by
  have step : ∀ k, Wd P w K mg base CX0 C k (ph G W T k) G bl → (∀ j, k = j + 1 → Wd P w K mg base CX0 C j (ph G W T j) G bl) → Wd P w K mg base CX0 C (k + 1) (ph G W T (k + 1)) G bl := by
    intro k ih ih2
    refine ⟨fun f hx => ?_, fun f hx => ?_, fun f hx => ?_, w0.gl, w0.bn, w0.gcd, w0.cls, w0.kit⟩
    rotate_left
    · cases hf : T f with
      | none =>
        refine .inr fun ds m h => ?_
        cases k with
        | zero => simp [ph, hf] at h
        | succ k => simp [ph, hf] at h
      | some d =>
        have dt := hT f d hf
        unfold DefAt at dt
        rw [if_neg (by rw [knm_x hx]; exact Bool.false_ne_true), if_pos hx] at dt
        obtain ⟨hcl, c, qual, params, body, scope, a, fd, N, ps, NA, hbd, hn, ht, F, S, hm, hb, hc, h1, h2, h3, er, ro⟩ := dt
        refine .inl ⟨NA, a, fd, ps, ?_, hm, F.kp, hb, er⟩
        have := guard_ok (W := W) F S ih hn ht hc (by rw [h1, h2]; exact h3) er ro
        rw [ph_fn hf hcl, ← h1, ← h2, hbd]
        exact this
    · cases hf : T f with
      | none =>
        refine .inr fun ds m h => ?_
        cases k with
        | zero => simp [ph, hf] at h
        | succ k => simp [ph, hf] at h
      | some d =>
        have dt := hT f d hf
        unfold DefAt at dt
        rw [if_pos hx] at dt
        obtain ⟨q, x, qual, params, body, scope, a, fd, N, ps, hcl, F, S, hmk, hb, hc, h1, h2, h3, h4, h5⟩ := dt
        cases k with
        | zero =>
          refine .inr fun ds m h => ?_
          simp [ph, hf, hcl] at h
        | succ k =>
          have wd := ih2 k rfl
          have := init_okO (kp := knp f) F S wd h4 hc h1 (by rw [h2]; exact h3)
          refine .inl ⟨q.1, k + 1, a, fd, ps, h4, h5, Nat.le_refl _, hmk, ?_, hb, fun ds m h => ?_⟩
          · rw [ph_clO hf hcl k hx, ← h2]; exact this
          · rw [ph_clO hf hcl k hx] at h; exact evIO_obj h
    obtain ⟨hx, hk⟩ : xnm f = false ∧ knm f = false := by
      unfold pnm at hx
      rwa [Bool.or_eq_false_iff] at hx
    cases hf : T f with
    | none =>
      refine .inr (.inr fun ds m h => ?_)
      cases k with
      | zero => simp [ph, hf] at h
      | succ k => simp [ph, hf] at h
    | some d =>
      have dt := hT f d hf
      unfold DefAt at dt
      rw [if_neg (by rw [hk]; exact Bool.false_ne_true), if_neg (by rw [hx]; exact Bool.false_ne_true)] at dt
      unfold DefAt0 at dt
      cases hcl : d.cls with
      | none =>
        rw [hcl] at dt
        obtain ⟨qual, params, body, scope, a, fd, N, ps, F, S, hm, hb, hc, h1, h2, h3⟩ := dt
        refine .inl ⟨a, fd, ps, ?_, hm, F.kp, hb⟩
        have := def_ok (W := W) F S ih hc (by rw [h1, h2]; exact h3)
        rw [ph_fn hf hcl, ← h1, ← h2]
        exact this
      | some q =>
        rw [hcl] at dt
        obtain ⟨x, qual, params, body, scope, a, fd, N, ps, F, S, hmk, hb, hc, h1, h2, h3, h4, h5⟩ := dt
        cases k with
        | zero =>
          refine .inr (.inr fun ds m h => ?_)
          simp [ph, hf, hcl] at h
        | succ k =>
          have wd := ih2 k rfl
          have := init_ok F S wd h4 hc h1 (by rw [h2]; exact h3)
          refine .inr (.inl ⟨q.1, k + 1, a, fd, ps, h4, h5, Nat.le_refl _, hmk, ?_, hb, fun ds m h => ?_⟩)
          · rw [ph_cl hf hcl k hk, ← h2]; exact this
          · rw [ph_cl hf hcl k hk] at h; exact evI_obj h
  have both : ∀ k, Wd P w K mg base CX0 C k (ph G W T k) G bl ∧ Wd P w K mg base CX0 C (k + 1) (ph G W T (k + 1)) G bl := by
    intro k
    induction k with
    | zero =>
      have z : Wd P w K mg base CX0 C 0 (ph G W T 0) G bl := ⟨fun f _ => .inr (.inr fun ds m h => (by rw [ph] at h; cases h)), fun f _ => .inr fun ds m h => (by rw [ph] at h; cases h), fun f _ => .inr fun ds m h => (by rw [ph] at h; cases h), w0.gl, w0.bn, w0.gcd, w0.cls, w0.kit⟩
      exact ⟨z, step 0 z fun j e => absurd e (by omega)⟩
    | succ k ih => exact ⟨ih.2, step (k + 1) ih.2 fun j e => by cases e; exact ih.1⟩
  exact fun k => (both k).1
end Ev

set_option maxRecDepth 100000
set_option maxHeartbeats 4000000
/-! Rows for simp: the meaning of each form. -/
namespace Ev
open PySem PySem.Spec PyProof.Rows L2
section
variable {Φ : String → List D → Res M} {G : String → Option D} {W : Nat} {g : Gm} {r : Res (M × Tn)}
@[simp] theorem lvw_cst {d} : lvw (.cst d) g r = r.bind fun r => .ok (r.1.toD, r.2) := rfl
@[simp] theorem lvw_glob {x} : lvw (.glob x) g r = r.bind fun r => .ok (r.1.toD, r.2) := rfl
@[simp] theorem lvw_tup {es} : lvw (.tup es) g r = r.bind fun r => .ok (r.1.toD, r.2) := rfl
@[simp] theorem lvw_lst {es} : lvw (.lst es) g r = r.bind fun r => .ok (r.1.toD, r.2) := rfl
@[simp] theorem lvw_bin {o a b} : lvw (.bin o a b) g r = r.bind fun r => .ok (r.1.toD, r.2) := rfl
@[simp] theorem lvw_neg {a} : lvw (.neg a) g r = r.bind fun r => .ok (r.1.toD, r.2) := rfl
@[simp] theorem lvw_cmp {o a b} : lvw (.cmp o a b) g r = r.bind fun r => .ok (r.1.toD, r.2) := rfl
@[simp] theorem lvw_chain {o p a b c} : lvw (.chain o p a b c) g r = r.bind fun r => .ok (r.1.toD, r.2) := rfl
@[simp] theorem lvw_and {a b} : lvw (.and a b) g r = r.bind fun r => .ok (r.1.toD, r.2) := rfl
@[simp] theorem lvw_or {a b} : lvw (.or a b) g r = r.bind fun r => .ok (r.1.toD, r.2) := rfl
@[simp] theorem lvw_not' {a} : lvw (.not a) g r = r.bind fun r => .ok (r.1.toD, r.2) := rfl
@[simp] theorem lvw_ite {c a b} : lvw (.ite c a b) g r = r.bind fun r => .ok (r.1.toD, r.2) := rfl
@[simp] theorem lvw_ix {a k} : lvw (.ix a k) g r = r.bind fun r => .ok (r.1.toD, r.2) := rfl
@[simp] theorem lvw_sl {a lo hi} : lvw (.sl a lo hi) g r = r.bind fun r => .ok (r.1.toD, r.2) := rfl
@[simp] theorem lvw_rev {a} : lvw (.rev a) g r = r.bind fun r => .ok (r.1.toD, r.2) := rfl
@[simp] theorem lvw_fld {a c k} : lvw (.fld a c k) g r = r.bind fun r => .ok (r.1.toD, r.2) := rfl
@[simp] theorem lvw_call {f es} : lvw (.call f es) g r = r.bind fun r => .ok (r.1.toD, r.2) := rfl
@[simp] theorem lvw_bi {b es} : lvw (.bi b es) g r = r.bind fun r => .ok (r.1.toD, r.2) := rfl
@[simp] theorem lvw_isi {a t} : lvw (.isi a t) g r = r.bind fun r => .ok (r.1.toD, r.2) := rfl
@[simp] theorem lvw_idx {a b} : lvw (.idx a b) g r = r.bind fun r => .ok (r.1.toD, r.2) := rfl
@[simp] theorem lvw_bits {a} : lvw (.bits a) g r = r.bind fun r => .ok (r.1.toD, r.2) := rfl
@[simp] theorem lvw_comp {elt t it c} : lvw (.comp elt t it c) g r = r.bind fun r => .ok (r.1.toD, r.2) := rfl
@[simp] theorem lvw_compO {elt t it} : lvw (.compO elt t it) g r = r.bind fun r => .ok (r.1.toD, r.2) := rfl
@[simp] theorem lvw_din {a i} : lvw (.din a i) g r = r.bind fun r => .ok (r.1.toD, r.2) := rfl
@[simp] theorem lvw_dat {a i} : lvw (.dat i a) g r = r.bind fun r => .ok (r.1.toD, r.2) := rfl
@[simp] theorem lvw_slot {i} : lvw (.slot i) g r = lvS g i := rfl
@[simp] theorem tv_cst {d} : tv Φ G (.cst d) g r = r.bind fun x => Res.of x.1.toD.truth := by rw [tv] <;> simp
@[simp] theorem tv_glob {x} : tv Φ G (.glob x) g r = r.bind fun x => Res.of x.1.toD.truth := by rw [tv] <;> simp
@[simp] theorem tv_tup {es} : tv Φ G (.tup es) g r = r.bind fun x => Res.of x.1.toD.truth := by rw [tv] <;> simp
@[simp] theorem tv_lst {es} : tv Φ G (.lst es) g r = r.bind fun x => Res.of x.1.toD.truth := by rw [tv] <;> simp
@[simp] theorem tv_bin {o a b} : tv Φ G (.bin o a b) g r = r.bind fun x => Res.of x.1.toD.truth := by rw [tv] <;> simp
@[simp] theorem tv_neg {a} : tv Φ G (.neg a) g r = r.bind fun x => Res.of x.1.toD.truth := by rw [tv] <;> simp
@[simp] theorem tv_cmp {o a b} : tv Φ G (.cmp o a b) g r = r.bind fun x => Res.of x.1.toD.truth := by rw [tv] <;> simp
@[simp] theorem tv_chain {o p a b c} : tv Φ G (.chain o p a b c) g r = r.bind fun x => Res.of x.1.toD.truth := by rw [tv] <;> simp
@[simp] theorem tv_ix {a k} : tv Φ G (.ix a k) g r = r.bind fun x => Res.of x.1.toD.truth := by rw [tv] <;> simp
@[simp] theorem tv_sl {a lo hi} : tv Φ G (.sl a lo hi) g r = r.bind fun x => Res.of x.1.toD.truth := by rw [tv] <;> simp
@[simp] theorem tv_rev {a} : tv Φ G (.rev a) g r = r.bind fun x => Res.of x.1.toD.truth := by rw [tv] <;> simp
@[simp] theorem tv_fld {a c k} : tv Φ G (.fld a c k) g r = r.bind fun x => Res.of x.1.toD.truth := by rw [tv] <;> simp
@[simp] theorem tv_call {f es} : tv Φ G (.call f es) g r = r.bind fun x => Res.of x.1.toD.truth := by rw [tv] <;> simp
@[simp] theorem tv_bi {b es} : tv Φ G (.bi b es) g r = r.bind fun x => Res.of x.1.toD.truth := by rw [tv] <;> simp
@[simp] theorem tv_isi {a t} : tv Φ G (.isi a t) g r = r.bind fun x => Res.of x.1.toD.truth := by rw [tv] <;> simp
@[simp] theorem tv_idx {a b} : tv Φ G (.idx a b) g r = r.bind fun x => Res.of x.1.toD.truth := by rw [tv] <;> simp
@[simp] theorem tv_bits {a} : tv Φ G (.bits a) g r = r.bind fun x => Res.of x.1.toD.truth := by rw [tv] <;> simp
@[simp] theorem tv_comp {elt t it c} : tv Φ G (.comp elt t it c) g r = r.bind fun x => Res.of x.1.toD.truth := by rw [tv] <;> simp
@[simp] theorem tv_compO {elt t it} : tv Φ G (.compO elt t it) g r = r.bind fun x => Res.of x.1.toD.truth := by rw [tv] <;> simp
@[simp] theorem tv_din {a i} : tv Φ G (.din a i) g r = r.bind fun x => Res.of x.1.toD.truth := by rw [tv] <;> simp
@[simp] theorem tv_dat {a i} : tv Φ G (.dat i a) g r = r.bind fun x => Res.of x.1.toD.truth := by rw [tv] <;> simp
@[simp] theorem tv_slot {i} : tv Φ G (.slot i) g r = (lvS g i).bind fun x => Res.of x.1.truth := by rw [tv]
@[simp] theorem tv_and {a b} : tv Φ G (.and a b) g r = (tv Φ G a g (ev Φ G a g)).bind fun v => if v then tv Φ G b g (ev Φ G b g) else .ok false := by rw [tv]
@[simp] theorem tv_or {a b} : tv Φ G (.or a b) g r = (tv Φ G a g (ev Φ G a g)).bind fun v => if v then .ok true else tv Φ G b g (ev Φ G b g) := by rw [tv]
@[simp] theorem tv_not {a} : tv Φ G (.not a) g r = (tv Φ G a g (ev Φ G a g)).bind fun v => .ok (!v) := by rw [tv]
@[simp] theorem tvo_no : tvo Φ G .no g = .ok true := by rw [tvo]
@[simp] theorem tvo_yes {e} : tvo Φ G (.yes e) g = tv Φ G e g (ev Φ G e g) := by rw [tvo]
def binR (o : Op) (x y : D × Tn) : Res (M × Tn) := match o, x.1, y.1 with
  | .add, .lst ds, .lst es => if ds.length + es.length < lim then .ok (.fl (ds ++ es), x.2 ++ y.2) else .no
  | o, d, e => (Res.of (binD o d e)).bind fun v => .ok (.frz v, [])
@[simp] theorem ev_cst {d} : ev Φ G (.cst d) g = .ok (.frz d, []) := by rw [ev]
def slR (o : Option (Option M)) (i : Nat) : Res (M × Tn) := match o with
  | some (some (.frz d)) => .ok (.frz d, [])
  | some (some m) => .ok (.frz m.toD, [i])
  | _ => .no
@[simp] theorem slR_frz {d i} : slR (some (some (.frz d))) i = .ok (.frz d, []) := rfl
@[simp] theorem slR_fl {d i} : slR (some (some (.fl d))) i = .ok (.frz (.lst d), [i]) := by simp [slR, M.toD]
def lvR (o : Option (Option M)) (i : Nat) : Res (D × Tn) := match o with
  | some (some (.frz d)) => .ok (d, [])
  | some (some (.fl ds)) => .ok (.lst ds, [])
  | some (some m) => .ok (m.toD, [i])
  | _ => .no
@[simp] theorem lvR_frz {d i} : lvR (some (some (.frz d))) i = .ok (d, []) := rfl
@[simp] theorem lvR_fl {d i} : lvR (some (some (.fl d))) i = .ok (.lst d, []) := rfl
@[simp] theorem lvS_eq {i} : lvS g i = lvR g[i]? i := rfl
@[simp] theorem ev_slot {i} : ev Φ G (.slot i) g = slR g[i]? i := by rw [ev]; rfl
@[simp] theorem ev_glob {x} : ev Φ G (.glob x) g = (Res.of (G x)).bind fun d => .ok (.frz d, []) := by rw [ev]
@[simp] theorem ev_tup {es} : ev Φ G (.tup es) g = (evs Φ G es g).bind fun r => .ok (.frz (.tup r.1), r.2) := by rw [ev]
@[simp] theorem ev_lst {es} : ev Φ G (.lst es) g = (evs Φ G es g).bind fun r => .ok (.fl r.1, r.2) := by rw [ev]
@[simp] theorem ev_bin {o a b} : ev Φ G (.bin o a b) g = (lvw a g (ev Φ G a g)).bind fun x => (lvw b g (ev Φ G b g)).bind fun y => binR o x y := by rw [ev]; rfl
def negR : D → Res (M × Tn)
  | .int i => .ok (.frz (.int (-i)), [])
  | _ => .no
@[simp] theorem negR_int {i} : negR (.int i) = .ok (.frz (.int (-i)), []) := rfl
@[simp] theorem ev_neg {a} : ev Φ G (.neg a) g = (ev Φ G a g).bind fun r => negR r.1.toD := by
  rw [ev]; first | rfl | (congr 1; first | done | (funext r; cases r.1.toD <;> rfl))
@[simp] theorem ev_cmp {o a b} : ev Φ G (.cmp o a b) g = (lvw a g (ev Φ G a g)).bind fun x => (lvw b g (ev Φ G b g)).bind fun y => (Res.of (cmpD o x.1 y.1)).bind fun v => .ok (.frz (.bl v), []) := by rw [ev]
@[simp] theorem ev_chain {o p a b c} : ev Φ G (.chain o p a b c) g = (ev Φ G a g).bind fun x => (ev Φ G b g).bind fun y => (Res.of (cmpD o x.1.toD y.1.toD)).bind fun v =>
      if v then (ev Φ G c g).bind fun z => (Res.of (cmpD p y.1.toD z.1.toD)).bind fun u => .ok (.frz (.bl u), []) else .ok (.frz (.bl false), []) := by rw [ev]
def andR (d : D) (r : Res (M × Tn)) : Res (M × Tn) := match d with
  | .bl true => r
  | .bl false => .ok (.frz (.bl false), [])
  | _ => .no
def orR (d : D) (r : Res (M × Tn)) : Res (M × Tn) := match d with
  | .bl true => .ok (.frz (.bl true), [])
  | .bl false => r
  | _ => .no
theorem andR_bl {b : Bool} : andR (.bl b) r = if b then r else .ok (.frz (.bl false), []) := by cases b <;> rfl
theorem orR_bl {b : Bool} : orR (.bl b) r = if b then .ok (.frz (.bl true), []) else r := by cases b <;> rfl
@[simp] theorem andR_t : andR (.bl true) r = r := rfl
@[simp] theorem andR_f : andR (.bl false) r = .ok (.frz (.bl false), []) := rfl
@[simp] theorem orR_t : orR (.bl true) r = .ok (.frz (.bl true), []) := rfl
@[simp] theorem orR_f : orR (.bl false) r = r := rfl
/-- where both are truth values -/
@[simp] theorem andR_ok {b c : Bool} {T : Tn} : andR (.bl b) (.ok (.frz (.bl c), [])) = .ok (.frz (.bl (b && c)), []) := by cases b <;> rfl
@[simp] theorem orR_ok {b c : Bool} : orR (.bl b) (.ok (.frz (.bl c), [])) = .ok (.frz (.bl (b || c)), []) := by cases b <;> rfl
@[simp] theorem ev_and {a b} : ev Φ G (.and a b) g = (ev Φ G a g).bind fun x => andR x.1.toD (ev Φ G b g) := by
  rw [ev]; first | rfl | (congr 1; first | done | (funext r; cases r.1.toD <;> first | rfl | (rename_i v; cases v <;> rfl)))
@[simp] theorem ev_or {a b} : ev Φ G (.or a b) g = (ev Φ G a g).bind fun x => orR x.1.toD (ev Φ G b g) := by
  rw [ev]; first | rfl | (congr 1; first | done | (funext r; cases r.1.toD <;> first | rfl | (rename_i v; cases v <;> rfl)))
def notR : D → Res (M × Tn)
  | .bl v => .ok (.frz (.bl (!v)), [])
  | _ => .no
@[simp] theorem notR_bl {v} : notR (.bl v) = .ok (.frz (.bl (!v)), []) := rfl
@[simp] theorem ev_not {a} : ev Φ G (.not a) g = (ev Φ G a g).bind fun x => notR x.1.toD := by
  rw [ev]; first | rfl | (congr 1; first | done | (funext r; cases r.1.toD <;> rfl))
@[simp] theorem ev_ite {c a b} : ev Φ G (.ite c a b) g = (tv Φ G c g (ev Φ G c g)).bind fun v => if v then ev Φ G a g else ev Φ G b g := by rw [ev]
@[simp] theorem ev_ix {a k} : ev Φ G (.ix a k) g = (lvw a g (ev Φ G a g)).bind fun x => (ev Φ G k g).bind fun y => (Res.of (ixD x.1 y.1.toD)).bind fun v => .ok (.frz v, x.2) := by rw [ev]
def slcR (x : D × Tn) (l h : Option Int) : Res (M × Tn) := match x.1 with
  | .lst ds => .ok (.fl (cutD ds l h), x.2)
  | _ => .no
@[simp] theorem slcR_lst {ds T l h} : slcR (.lst ds, T) l h = .ok (.fl (cutD ds l h), T) := rfl
@[simp] theorem ev_sl {a l h} : ev Φ G (.sl a l h) g = (lvw a g (ev Φ G a g)).bind fun x => (evo Φ G l g).bind fun u => (evo Φ G h g).bind fun v => slcR x u v := by
  rw [ev]; rfl
def revR (x : D × Tn) : Res (M × Tn) := match x.1 with
  | .lst ds => .ok (.fl ds.reverse, x.2)
  | _ => .no
@[simp] theorem revR_lst {ds T} : revR (.lst ds, T) = .ok (.fl ds.reverse, T) := rfl
@[simp] theorem ev_rev {a} : ev Φ G (.rev a) g = (lvw a g (ev Φ G a g)).bind revR := by rw [ev]; rfl
def fldR (c k : Nat) (x : D × Tn) : Res (M × Tn) := match x.1 with
  | .obj c' ds => if c' = c then (Res.of ds[k]?).bind fun v => .ok (.frz v, x.2) else .no
  | _ => .no
@[simp] theorem fldR_obj {c k ds T} : fldR c k (.obj c ds, T) = (Res.of ds[k]?).bind fun v => .ok (.frz v, T) := by simp [fldR]
@[simp] theorem ev_fld {a c k} : ev Φ G (.fld a c k) g = (lvw a g (ev Φ G a g)).bind (fldR c k) := by rw [ev]; rfl
def rfT (m : M) (t : Tn) : Tn := if m.ff then [] else t
@[simp] theorem rfT_nil {m} : rfT m [] = [] := by simp [rfT]
@[simp] theorem ev_call {f es} : ev Φ G (.call f es) g = (evs Φ G es g).bind fun r => (Φ f r.1).bind fun m => .ok (m, rfT m r.2) := by rw [ev]; rfl
@[simp] theorem ev_len {e} : ev Φ G (.bi .len (.cons e .nil)) g = (lvw e g (ev Φ G e g)).bind fun x => (Res.of (biD .len [x.1])).bind fun v => .ok (.frz v, []) := by rw [ev]
def lstR (x : D × Tn) : Res (M × Tn) := match x.1.items with
  | some ds => .ok (.fl ds, x.2)
  | none => .no
@[simp] theorem lstR_lst {ds T} : lstR (.lst ds, T) = .ok (.fl ds, T) := rfl
@[simp] theorem lstR_rol {ds T} : lstR (.rol ds, T) = .ok (.fl ds, T) := rfl
@[simp] theorem lstR_tup {ds T} : lstR (.tup ds, T) = .ok (.fl ds, T) := rfl
@[simp] theorem ev_list {e} : ev Φ G (.bi .lst (.cons e .nil)) g = (lvw e g (ev Φ G e g)).bind lstR := by rw [ev]; rfl
def tupR (x : D × Tn) : Res (M × Tn) := match x.1 with
  | .lst ds => .ok (.frz (.tup ds), x.2)
  | _ => .no
@[simp] theorem tupR_lst {ds T} : tupR (.lst ds, T) = .ok (.frz (.tup ds), T) := rfl
@[simp] theorem ev_tupB {e} : ev Φ G (.bi .tup (.cons e .nil)) g = (lvw e g (ev Φ G e g)).bind tupR := by rw [ev]; rfl
def srtR (x : D × Tn) : Res (M × Tn) := match x.1 with
  | .lst ds => (Res.of (srtD ds)).bind fun os => .ok (.fl os, x.2)
  | _ => .no
@[simp] theorem srtR_lst {ds T} : srtR (.lst ds, T) = (Res.of (srtD ds)).bind fun os => .ok (.fl os, T) := rfl
@[simp] theorem ev_sorted {e} : ev Φ G (.bi .srt (.cons e .nil)) g = (lvw e g (ev Φ G e g)).bind srtR := by rw [ev]; rfl
@[simp] theorem ev_isi {a t} : ev Φ G (.isi a t) g = (lvw a g (ev Φ G a g)).bind fun x => .ok (.frz (.bl (isiD t x.1)), []) := by rw [ev]
def idxR (x : D × Tn) (d : D) : Res (M × Tn) := match x.1 with
  | .lst ds => if (d.sc && ds.all D.sc) || (d.lay 7 && D.lays 7 ds) then (match ds.findIdx? (fun z => z.eqv d) with
      | some j => .ok (.frz (.int j), [])
      | none => .no) else .no
  | _ => .no
@[simp] theorem ev_idx {a b} : ev Φ G (.idx a b) g = (lvw a g (ev Φ G a g)).bind fun x => (ev Φ G b g).bind fun y => idxR x y.1.toD := by rw [ev]; rfl
def bitR : D → Res (M × Tn)
  | .int i => .ok (.frz (.int (Builtin.Int.intBits i : Nat)), [])
  | _ => .no
@[simp] theorem bitR_int {i} : bitR (.int i) = .ok (.frz (.int (Builtin.Int.intBits i : Nat)), []) := rfl
@[simp] theorem ev_bits {a} : ev Φ G (.bits a) g = (ev Φ G a g).bind fun x => bitR x.1.toD := by
  rw [ev]; first | rfl | (congr 1; first | done | (funext r; cases r.1.toD <;> rfl))
@[simp] theorem ev_comp {elt t it c} : ev Φ G (.comp elt t it c) g = (its Φ G it g).bind fun x => (compGo t (fun g => tvo Φ G c g) (fun g => ev Φ G elt g) x.1 (frzG x.2 g)).bind fun os => .ok (.fl os, x.2) := by rw [ev]
@[simp] theorem ev_compO {elt t it} : ev Φ G (.compO elt t it) g = (its Φ G it g).bind fun x => (compOGo t (fun g => ev Φ G elt g) x.1 (frzG x.2 g)).bind fun os => .ok (.lst os, x.2) := by rw [ev]
@[simp] theorem ev_din {a i} : ev Φ G (.din a i) g = (ev Φ G a g).bind fun x => dinR x.1.toD g[i]? := by rw [ev]
@[simp] theorem ev_dat {a i} : ev Φ G (.dat i a) g = (ev Φ G a g).bind fun x => datR x.1.toD g[i]? := by rw [ev]
@[simp] theorem dinR_dct {k ks xs} : dinR (.int k) (some (some (.frz (.dct ks xs)))) = .ok (.frz (.bl (dctAt ks xs k).isSome), []) := rfl
@[simp] theorem datR_dct {k ks xs} : datR (.int k) (some (some (.frz (.dct ks xs)))) = (Res.of (dctAt ks xs k)).bind fun v => .ok (.frz v, []) := rfl
@[simp] theorem evs_nil : evs Φ G .nil g = .ok ([], []) := by rw [evs]
@[simp] theorem evs_cons {e es} : evs Φ G (.cons e es) g = (ev Φ G e g).bind fun x => (evs Φ G es g).bind fun y => .ok (x.1.toD :: y.1, x.2 ++ y.2) := by rw [evs]
@[simp] theorem evo_no : evo Φ G .no g = .ok none := by rw [evo]
def evoR : D → Res (Option Int)
  | .int i => .ok (some i)
  | _ => .no
@[simp] theorem evoR_int {i} : evoR (.int i) = .ok (some i) := rfl
@[simp] theorem evo_yes {e} : evo Φ G (.yes e) g = (ev Φ G e g).bind fun x => evoR x.1.toD := by
  rw [evo]; first | rfl | (congr 1; first | done | (funext r; cases r.1.toD <;> rfl))
def itsR (x : D × Tn) : Res (List D × Tn) := match x.1.items with
  | some ds => .ok (ds, x.2)
  | none => match x.1 with
    | .str z => .ok (z.cps.toList.map fun c => .str ⟨#[c]⟩, [])
    | _ => .no
@[simp] theorem itsR_lst {ds T} : itsR (.lst ds, T) = .ok (ds, T) := rfl
@[simp] theorem itsR_rol {ds T} : itsR (.rol ds, T) = .ok (ds, T) := rfl
@[simp] theorem itsR_tup {ds T} : itsR (.tup ds, T) = .ok (ds, T) := rfl
@[simp] theorem itsR_str {z T} : itsR (.str z, T) = .ok (z.cps.toList.map fun c => .str ⟨#[c]⟩, []) := rfl
@[simp] theorem its_over {e} : its Φ G (.over e) g = (lvw e g (ev Φ G e g)).bind itsR := by rw [its]; rfl
@[simp] theorem itf_over {e} : itf Φ G (.over e) g = (ev Φ G e g).bind fun x => itsR (x.1.toD, x.2) := by rw [itf]; rfl
def rngR : D → Res (List D × Tn)
  | .int n => if n < 2 ^ 40 ∧ -(2 ^ 40) < n then .ok (rngD 0 n, []) else .no
  | _ => .no
def rng2R : D → D → Res (List D × Tn)
  | .int m, .int n => if (m < 2 ^ 40 ∧ -(2 ^ 40) < m) ∧ (n < 2 ^ 40 ∧ -(2 ^ 40) < n) then .ok (rngD m n, []) else .no
  | _, _ => .no
theorem rngR_int {n : Int} (h : n < 2 ^ 40 ∧ -(2 ^ 40) < n) : rngR (.int n) = .ok (rngD 0 n, []) := if_pos h
theorem rng2R_int {m n : Int} (h : (m < 2 ^ 40 ∧ -(2 ^ 40) < m) ∧ (n < 2 ^ 40 ∧ -(2 ^ 40) < n)) : rng2R (.int m) (.int n) = .ok (rngD m n, []) := if_pos h
@[simp] theorem its_rng {a} : its Φ G (.rng a) g = (ev Φ G a g).bind fun x => rngR x.1.toD := by
  rw [its]; first | rfl | (congr 1; first | done | (funext r; cases r.1.toD <;> rfl))
@[simp] theorem itf_rng {a} : itf Φ G (.rng a) g = (ev Φ G a g).bind fun x => rngR x.1.toD := by rw [itf, its_rng]
@[simp] theorem its_rng2 {a b} : its Φ G (.rng2 a b) g = (ev Φ G a g).bind fun x => (ev Φ G b g).bind fun y => rng2R x.1.toD y.1.toD := by
  rw [its]; first | rfl | (congr 1; first | done | (funext r; congr 1; first | done | (funext s; cases r.1.toD <;> cases s.1.toD <;> rfl)))
@[simp] theorem itf_rng2 {a b} : itf Φ G (.rng2 a b) g = (ev Φ G a g).bind fun x => (ev Φ G b g).bind fun y => rng2R x.1.toD y.1.toD := by rw [itf, its_rng2]
/-! ### data -/
@[simp] theorem toD_frz {d} : (M.frz d).toD = d := by rw [M.toD]
@[simp] theorem toD_fl {d} : (M.fl d).toD = .lst d := by rw [M.toD]
@[simp] theorem binR_lst {ds es T U} : binR .add (.lst ds, T) (.lst es, U) = if ds.length + es.length < lim then .ok (.fl (ds ++ es), T ++ U) else .no := rfl
@[simp] theorem binR_add {i j T U} : binR .add (.int i, T) (.int j, U) = .ok (.frz (.int (i + j)), []) := rfl
@[simp] theorem binR_sub {i j T U} : binR .sub (.int i, T) (.int j, U) = .ok (.frz (.int (i - j)), []) := rfl
def MulOk (i j : Int) : Prop := (i.natAbs < 2 ^ 60 ∨ j.natAbs < 2 ^ 60) ∨ i.natAbs.log2 + j.natAbs.log2 < 100000000
theorem binR_mul {i j : Int} {T U} (h : MulOk i j) : binR .mul (.int i, T) (.int j, U) = .ok (.frz (.int (i * j)), []) := by
  have h' : (i.natAbs < 2 ^ 60 ∨ j.natAbs < 2 ^ 60) ∨ i.natAbs.log2 + j.natAbs.log2 < 100000000 := h
  show (Res.of (if _ then _ else _)).bind _ = _
  rw [if_pos h']; rfl
theorem binR_fdiv {i j : Int} {T U} (h : j ≠ 0 ∧ j.natAbs.log2 < 9000) : binR .fdiv (.int i, T) (.int j, U) = .ok (.frz (.int (i.fdiv j)), []) := by
  have h' : j ≠ 0 ∧ (j.natAbs.log2 < 9000 ∨ i.natAbs.log2 ≤ j.natAbs.log2 + 4400) := ⟨h.1, .inl h.2⟩
  show (Res.of (if _ then _ else _)).bind _ = _
  rw [if_pos h']; rfl
theorem binR_fdiv2 {i j : Int} {T U} (h : j ≠ 0 ∧ i.natAbs.log2 ≤ j.natAbs.log2 + 4400) : binR .fdiv (.int i, T) (.int j, U) = .ok (.frz (.int (i.fdiv j)), []) := by
  have h' : j ≠ 0 ∧ (j.natAbs.log2 < 9000 ∨ i.natAbs.log2 ≤ j.natAbs.log2 + 4400) := ⟨h.1, .inr h.2⟩
  show (Res.of (if _ then _ else _)).bind _ = _
  rw [if_pos h']; rfl
theorem binR_mod {i j : Int} {T U} (h : 0 < j) : binR .mod (.int i, T) (.int j, U) = .ok (.frz (.int (i % j)), []) := by
  show (Res.of (if _ then _ else _)).bind _ = _
  rw [if_pos h]; rfl
theorem binR_pow {i j : Int} {T U} (h : 0 ≤ j ∧ j ≤ 1000 ∧ i.natAbs < 2 ^ 60) : binR .pow (.int i, T) (.int j, U) = .ok (.frz (.int (i ^ j.toNat)), []) := by
  show (Res.of (if _ then _ else _)).bind _ = _
  rw [if_pos h]; rfl
@[simp] theorem cmp_lt {i j} : cmpD .lt (.int i) (.int j) = some (decide (i < j)) := rfl
@[simp] theorem cmp_le {i j} : cmpD .le (.int i) (.int j) = some (decide (i ≤ j)) := rfl
@[simp] theorem cmp_gt {i j} : cmpD .gt (.int i) (.int j) = some (decide (j < i)) := rfl
@[simp] theorem cmp_ge {i j} : cmpD .ge (.int i) (.int j) = some (decide (j ≤ i)) := rfl
@[simp] theorem cmp_eq {i j} : cmpD .eq (.int i) (.int j) = some (i == j) := by simp [cmpD, D.sc, D.eqv]
@[simp] theorem cmp_ne {i j} : cmpD .ne (.int i) (.int j) = some (i != j) := rfl
@[simp] theorem cmp_eqb {i j} : cmpD .eq (.bl i) (.bl j) = some (i == j) := by simp [cmpD, D.sc, D.eqv]
@[simp] theorem cmp_neb {i j} : cmpD .ne (.bl i) (.bl j) = some (i != j) := rfl
@[simp] theorem truth_bl {b} : D.truth (.bl b) = some b := rfl
@[simp] theorem truth_int {i} : D.truth (.int i) = some (i != 0) := rfl
@[simp] theorem truth_lst {ds} : D.truth (.lst ds) = some (!ds.isEmpty) := rfl
@[simp] theorem ix_lst {ds i} : ixD (.lst ds) (.int i) = atI ds i := rfl
@[simp] theorem ix_rol {ds i} : ixD (.rol ds) (.int i) = atI ds i := rfl
@[simp] theorem ix_tup {ds i} : ixD (.tup ds) (.int i) = atI ds i := rfl
@[simp] theorem at_0 {α : Type} {x : α} {l : List α} : atI (x :: l) 0 = some x := atI_nat (j := 0) rfl
@[simp] theorem at_1 {α : Type} {x y : α} {l : List α} : atI (x :: y :: l) 1 = some y := atI_nat (j := 1) rfl
@[simp] theorem at_2 {α : Type} {x y z : α} {l : List α} : atI (x :: y :: z :: l) 2 = some z := atI_nat (j := 2) rfl
@[simp] theorem at_3 {α : Type} {x y z u : α} {l : List α} : atI (x :: y :: z :: u :: l) 3 = some u := atI_nat (j := 3) rfl
@[simp] theorem len_lst {ds} : biD .len [.lst ds] = some (.int ds.length) := rfl
@[simp] theorem len_rol {ds} : biD .len [.rol ds] = some (.int ds.length) := rfl
@[simp] theorem len_tup {ds} : biD .len [.tup ds] = some (.int ds.length) := rfl
@[simp] theorem ev_biint {es} : ev Φ G (.bi .int es) g = (evs Φ G es g).bind fun r => (Res.of (biD .int r.1)).bind fun v => .ok (.frz v, []) := by rw [ev] <;> simp
@[simp] theorem ev_biabs {es} : ev Φ G (.bi .abs es) g = (evs Φ G es g).bind fun r => (Res.of (biD .abs r.1)).bind fun v => .ok (.frz v, []) := by rw [ev] <;> simp
@[simp] theorem ev_bisum {es} : ev Φ G (.bi .sum es) g = (evs Φ G es g).bind fun r => (Res.of (biD .sum r.1)).bind fun v => .ok (.frz v, []) := by rw [ev] <;> simp
@[simp] theorem ev_bimin {es} : ev Φ G (.bi .min2 es) g = (evs Φ G es g).bind fun r => (Res.of (biD .min2 r.1)).bind fun v => .ok (.frz v, []) := by rw [ev] <;> simp
@[simp] theorem ev_bimax {es} : ev Φ G (.bi .max2 es) g = (evs Φ G es g).bind fun r => (Res.of (biD .max2 r.1)).bind fun v => .ok (.frz v, []) := by rw [ev] <;> simp
@[simp] theorem ev_bigcd {es} : ev Φ G (.bi .gcd es) g = (evs Φ G es g).bind fun r => (Res.of (biD .gcd r.1)).bind fun v => .ok (.frz v, []) := by rw [ev] <;> simp
@[simp] theorem bi_int {i} : biD .int [.int i] = some (.int i) := rfl
@[simp] theorem bi_intb {i} : biD .int [.bl i] = some (.int (if i then 1 else 0)) := rfl
@[simp] theorem bi_abs {i} : biD .abs [.int i] = some (.int (if i < 0 then -i else i)) := rfl
@[simp] theorem bi_min {i j} : biD .min2 [.int i, .int j] = some (.int (if j < i then j else i)) := rfl
@[simp] theorem bi_max {i j} : biD .max2 [.int i, .int j] = some (.int (if j > i then j else i)) := rfl
@[simp] theorem bi_gcd {i j} : biD .gcd [.int i, .int j] = some (.int (Nat.gcd i.natAbs j.natAbs : Nat)) := rfl
@[simp] theorem isi_ii {i} : isiD .int (.int i) = true := rfl
@[simp] theorem isi_ib {i} : isiD .int (.bl i) = true := rfl
@[simp] theorem isi_bb {i} : isiD .bool (.bl i) = true := rfl
@[simp] theorem isi_bi {i} : isiD .bool (.int i) = false := rfl
@[simp] theorem isi_ss {i} : isiD .str (.str i) = true := rfl
@[simp] theorem isi_tt {i} : isiD .tup (.tup i) = true := rfl
@[simp] theorem isi_ll {i} : isiD .lst (.lst i) = true := rfl
@[simp] theorem isi_lt {i} : isiD .lst (.tup i) = false := rfl
@[simp] theorem isi_tl {i} : isiD .tup (.lst i) = false := rfl
@[simp] theorem isi_li {i} : isiD .lst (.int i) = false := rfl
@[simp] theorem isi_ti {i} : isiD .tup (.int i) = false := rfl
@[simp] theorem isi_lb {i} : isiD .lst (.bl i) = false := rfl
@[simp] theorem isi_tb {i} : isiD .tup (.bl i) = false := rfl
@[simp] theorem isi_ls {i} : isiD .lst (.str i) = false := rfl
@[simp] theorem isi_ts {i} : isiD .tup (.str i) = false := rfl
@[simp] theorem isi_is {i} : isiD .int (.str i) = false := rfl
@[simp] theorem isi_bs {i} : isiD .bool (.str i) = false := rfl
/-! ### statements -/
@[simp] theorem store_nm {i m} : storeT (.nm i) m g = some (g.set i (some m)) := rfl
@[simp] theorem store_tt {is ds} : storeT (.tp is) (.frz (.tup ds)) g = setTs g is ds := by simp [storeT]
@[simp] theorem store_tl {is ds} : storeT (.tp is) (.fl ds) g = setTs g is ds := by simp [storeT]
@[simp] theorem setTs_nil : setTs g [] [] = some g := rfl
@[simp] theorem setTs_cons {i is d ds} : setTs g (i :: is) (d :: ds) = setTs (g.set i (some (.frz d))) is ds := rfl
@[simp] theorem bind_nm {i d} : bindT (.nm i) d g = some (g.set i (some (.frz d))) := rfl
@[simp] theorem bind_tt {is ds} : bindT (.tp is) (.tup ds) g = setTs g is ds := rfl
@[simp] theorem bind_tl {is ds} : bindT (.tp is) (.lst ds) g = setTs g is ds := rfl
@[simp] theorem evS_set {t e} : evS Φ G W (.set t e) g = (ev Φ G e g).bind fun r => (Res.of (storeT t r.1 (frzG (nrm r) g))).bind fun g' => .ok (.nx g') := by rw [evS]
@[simp] theorem evS_par {i j a b} : evS Φ G W (.par i j a b) g = (ev Φ G a g).bind fun x => (ev Φ G b g).bind fun y => .ok (.nx (((frzG (nrm (.frz x.1.toD, x.2) ++ nrm (.frz y.1.toD, y.2)) g).set i (some (.frz x.1.toD))).set j (some (.frz y.1.toD)))) := by rw [evS]
def appR (i : Nat) (g : Gm) (o : Option (Option M)) (d : D) : Res Out := match o with
  | some (some (.fl ds)) => if ds.length < lim then .ok (.nx (g.set i (some (.fl (ds ++ [d]))))) else .no
  | _ => .no
@[simp] theorem appR_fl {i ds d} : appR i g (some (some (.fl ds))) d = if ds.length < lim then .ok (.nx (g.set i (some (.fl (ds ++ [d]))))) else .no := rfl
@[simp] theorem evS_app {i e} : evS Φ G W (.app i e) g = (ev Φ G e g).bind fun r => appR i (frzG (nrm r) g) (frzG (nrm r) g)[i]? r.1.toD := by rw [evS]; rfl
def setiR (i : Nat) (g : Gm) (o : Option (Option M)) (k d : D) : Res Out := match o, k with
  | some (some (.fl ds)), .int z => (Res.of (ixN ds.length z)).bind fun j => .ok (.nx (g.set i (some (.fl (ds.set j d)))))
  | _, _ => .no
@[simp] theorem setiR_fl {i ds z d} : setiR i g (some (some (.fl ds))) (.int z) d = (Res.of (ixN ds.length z)).bind fun j => .ok (.nx (g.set i (some (.fl (ds.set j d))))) := rfl
@[simp] theorem evS_seti {i k e} : evS Φ G W (.seti i k e) g = (ev Φ G e g).bind fun r => (ev Φ G k (frzG (nrm r) g)).bind fun y => setiR i (frzG (nrm r) g) (frzG (nrm r) g)[i]? y.1.toD r.1.toD := by rw [evS]; rfl
@[simp] theorem evS_dset {i t it kx vx} : evS Φ G W (.dset i t it kx vx) g = (its Φ G it g).bind fun x => (dctGo t (fun g => ev Φ G kx g) (fun g => ev Φ G vx g) x.1 (frzG x.2 g) [] []).bind fun r => .ok (.nx ((frzG x.2 g).set i (some (.frz (.dct r.1 r.2))))) := by rw [evS]
@[simp] theorem evS_popB {i j k} : evS Φ G W (.popB i j k) g = (ev Φ G j g).bind fun y => (ev Φ G k g).bind fun w => popR i g g[i]? y.1.toD w.1.toD := by rw [evS]
@[simp] theorem evS_setO {is e} : evS Φ G W (.setO is e) g = (ev Φ G e g).bind fun r => setOR is (frzG (nrm r) g) r.1 := by rw [evS]
@[simp] theorem setOR_tup {is ms} : setOR is g (.tup ms) = (Res.of (setMs g is ms)).bind fun g' => .ok (.nx g') := rfl
@[simp] theorem setMs_nil : setMs g [] [] = some g := rfl
@[simp] theorem setMs_cons {i is m ms} : setMs g (i :: is) (m :: ms) = setMs (g.set i (some m)) is ms := rfl
@[simp] theorem evS_set2 {i k n e} : evS Φ G W (.set2 i k n e) g = (ev Φ G e g).bind fun r => (ev Φ G k (frzG (nrm r) g)).bind fun y => (ev Φ G n (frzG (nrm r) g)).bind fun w => set2R i (frzG (nrm r) g) (frzG (nrm r) g)[i]? y.1.toD w.1.toD r.1.toD := by rw [evS]
@[simp] theorem evS_appO {i e} : evS Φ G W (.appO i e) g = (ev Φ G e g).bind fun r => appOR i (frzG (nrm r) g) (frzG (nrm r) g)[i]? r.1 := by rw [evS]
@[simp] theorem appOR_lst {i ms m} : appOR i g (some (some (.lst ms))) m = if ms.length < lim then .ok (.nx (g.set i (some (.lst (ms ++ [m]))))) else .no := rfl
@[simp] theorem evSs_ali {i j k c e r} : evSs Φ G W (.ali i j k c e r) g = if g.length ≤ j ∨ i = j then .no else (ev Φ G k g).bind fun y => (aliR g[i]? y.1.toD).bind fun x => (tv Φ G c (g.set j none) (ev Φ G c (g.set j none))).bind fun v =>
      if v then (ev Φ G e (g.set j none)).bind fun d => if d.1.toD.flat ∧ x.2.2.length < lim then evSs Φ G W r ((g.set j none).set i (some (.lst (x.1.set x.2.1 (.fl (x.2.2 ++ [d.1.toD])))))) else .no
      else if x.2.2 = [] then .no else evSs Φ G W r ((g.set j none).set i (some (.lst (x.1.set x.2.1 (.fl x.2.2.dropLast))))) := by rw [evSs]
@[simp] theorem ev_tupN {es} : ev Φ G (.tupN es) g = (evP Φ G es g).bind fun ms => .ok (.tup ms, []) := by rw [ev]
@[simp] theorem evP_nil : evP Φ G .nil g = .ok [] := by rw [evP]
def evPR (r : Res (List M)) (m : M) : Tn → Res (List M)
  | [] => r.bind fun ys => .ok (m :: ys)
  | _ => .no
@[simp] theorem evPR_nil {r m} : evPR r m [] = r.bind fun ys => .ok (m :: ys) := rfl
@[simp] theorem evP_cons {e es} : evP Φ G (.cons e es) g = (ev Φ G e g).bind fun x => evPR (evP Φ G es g) x.1 (nrm x) := by rw [evP]; rfl
@[simp] theorem evS_appM {i es} : evS Φ G W (.appM i es) g = (evM Φ G es g).bind fun r => appMR i r.2 (clrG r.2 g) g[i]? r.1 := by rw [evS]
@[simp] theorem appMR_lst {i T l ms} {g' : Gm} : appMR i T g' (some (some (.lst l))) ms = if i ∉ T ∧ l.length < lim then .ok (.nx (g'.set i (some (.lst (l ++ [.tup ms]))))) else .no := rfl
@[simp] theorem appMR_nil {i T ms} {g' : Gm} : appMR i T g' (some (some (.fl []))) ms = if i ∉ T then .ok (.nx (g'.set i (some (.lst [.tup ms])))) else .no := rfl
@[simp] theorem evS_newO {i f es ms} : evS Φ G W (.newO i f es ms) g = (evs Φ G es g).bind fun x => (evM Φ G ms g).bind fun y => if x.2 = [] ∧ x.1.length = knp f ∧ cnMs y.1 = true then (Φ f (x.1 ++ M.toDs y.1)).bind fun m => .ok (.nx (g.set i (some (.frz m.toD)))) else .no := by rw [evS]
def wrkR (f : M → Res Out) : Option (Option M) → Res Out
  | some (some m) => f m
  | _ => .no
@[simp] theorem wrkR_some {f : M → Res Out} {m} : wrkR f (some (some m)) = f m := rfl
@[simp] theorem evSs_wrk {n js r} : evSs Φ G W (.wrk n js r) g = wrkR (fun m => (jRuns Φ G (clrG (n :: js.nms) g) js [(n, .own m)]).bind fun _ => evSs Φ G W r (clrG (n :: js.nms) g)) g[n]? := by rw [evSs]; rfl
@[simp] theorem clrG_nil : clrG [] g = g := rfl
@[simp] theorem clrG_cons {i is} : clrG (i :: is) g = clrG is (g.set i none) := rfl
@[simp] theorem jnms_app {n e} : J.nms (.app n e) = [] := rfl
@[simp] theorem jnms_for {n is b} : J.nms (.for n is b) = is ++ b.nms := rfl
@[simp] theorem jsnms_nil : Js.nms .nil = [] := rfl
@[simp] theorem jsnms_cons {j r} : Js.nms (.cons j r) = j.nms ++ r.nms := rfl
theorem jFor_ok {f : Je → Res Je} {is : List Nat} : ∀ {ms : List M}, (∀ m ∈ ms, ∃ ps env', m = .tup ps ∧ ps.length = is.length ∧ f (is.zip (ps.map .own)) = .ok env') → jFor f is ms = .ok ()
  | [], _ => rfl
  | m :: ms, h => by
    obtain ⟨ps, env', rfl, hl, e⟩ := h m (by simp)
    rw [jFor, if_pos hl, e]
    exact jFor_ok fun x hx => h x (by simp [hx])
@[simp] theorem ev_mk {a} : ev Φ G (.mk a) g = (ev Φ G a g).bind fun x => .ok (mkM x.1, x.2) := by rw [ev]
@[simp] theorem ev_tupO {a} : ev Φ G (.tupO a) g = (ev Φ G a g).bind fun x => (Res.of (tupM x.1)).bind fun m => .ok (m, x.2) := by rw [ev]
@[simp] theorem evS_ret_mk {a} : evS Φ G W (.ret (.mk a)) g = (ev Φ G (.mk a) g).bind fun r => .ok (.rt r.1) := by rw [evS] <;> simp
@[simp] theorem evS_ret_tupO {a} : evS Φ G W (.ret (.tupO a)) g = (ev Φ G (.tupO a) g).bind fun r => .ok (.rt r.1) := by rw [evS] <;> simp
@[simp] theorem evS_retT {es} : evS Φ G W (.retT es) g = (evM Φ G es g).bind fun r => .ok (.rt (.tup r.1)) := by rw [evS]
@[simp] theorem evS_appT {i k e} : evS Φ G W (.appT i k e) g = (ev Φ G k g).bind fun y => (ev Φ G e g).bind fun r => appTR i g g[i]? y.1.toD r.1 := by rw [evS]
@[simp] theorem evM_nil : evM Φ G .nil g = .ok ([], []) := rfl
@[simp] theorem evM_cons {e es} : evM Φ G (.cons e es) g = (evM1 Φ G e g).bind fun x => (evM Φ G es g).bind fun y => if x.2.any (fun i => decide (i ∈ y.2)) then .no else .ok (x.1 :: y.1, x.2 ++ y.2) := rfl
@[simp] theorem evS_raiseN : evS Φ G W .raiseN g = .no := by rw [evS]
@[simp] theorem evS_tryX {i b} : evS Φ G W (.tryX i b) g = (evX Φ G b g).bind fun _ => .ok (.rt (.frz (.bl true))) := by rw [evS]
def xcR (m : M) : Res Unit := match m with
  | .frz (.bl true) => .ok ()
  | _ => .no
@[simp] theorem xcR_true : xcR (.frz (.bl true)) = .ok () := rfl
@[simp] theorem evX_call {fx es} : evX Φ G (.call fx es) g = (evs Φ G es g).bind fun r => (Φ fx r.1).bind xcR := by rw [evX]; rfl
@[simp] theorem evX_ite {c a b} : evX Φ G (.ite c a b) g = (tv Φ G c g (ev Φ G c g)).bind fun v => if v then evX Φ G a g else evX Φ G b g := by rw [evX]
@[simp] theorem evS_expr {e} : evS Φ G W (.expr e) g = (ev Φ G e g).bind fun _ => .ok (.nx g) := by rw [evS]
def retR (o : Option (Option M)) : Res Out := match o with
  | some (some m) => .ok (.rt m)
  | _ => .no
@[simp] theorem retR_some {m} : retR (some (some m)) = .ok (.rt m) := rfl
@[simp] theorem evS_rets {i} : evS Φ G W (.ret (.slot i)) g = retR g[i]? := by rw [evS]; rfl
@[simp] theorem evS_ret_cst {d} : evS Φ G W (.ret (.cst d)) g = (ev Φ G (.cst d) g).bind fun r => .ok (.rt r.1) := by rw [evS] <;> simp
@[simp] theorem evS_ret_glob {x} : evS Φ G W (.ret (.glob x)) g = (ev Φ G (.glob x) g).bind fun r => .ok (.rt r.1) := by rw [evS] <;> simp
@[simp] theorem evS_ret_tup {es} : evS Φ G W (.ret (.tup es)) g = (ev Φ G (.tup es) g).bind fun r => .ok (.rt r.1) := by rw [evS] <;> simp
@[simp] theorem evS_ret_lst {es} : evS Φ G W (.ret (.lst es)) g = (ev Φ G (.lst es) g).bind fun r => .ok (.rt r.1) := by rw [evS] <;> simp
@[simp] theorem evS_ret_bin {o a b} : evS Φ G W (.ret (.bin o a b)) g = (ev Φ G (.bin o a b) g).bind fun r => .ok (.rt r.1) := by rw [evS] <;> simp
@[simp] theorem evS_ret_neg {a} : evS Φ G W (.ret (.neg a)) g = (ev Φ G (.neg a) g).bind fun r => .ok (.rt r.1) := by rw [evS] <;> simp
@[simp] theorem evS_ret_cmp {o a b} : evS Φ G W (.ret (.cmp o a b)) g = (ev Φ G (.cmp o a b) g).bind fun r => .ok (.rt r.1) := by rw [evS] <;> simp
@[simp] theorem evS_ret_chain {o p a b c} : evS Φ G W (.ret (.chain o p a b c)) g = (ev Φ G (.chain o p a b c) g).bind fun r => .ok (.rt r.1) := by rw [evS] <;> simp
@[simp] theorem evS_ret_and {a b} : evS Φ G W (.ret (.and a b)) g = (ev Φ G (.and a b) g).bind fun r => .ok (.rt r.1) := by rw [evS] <;> simp
@[simp] theorem evS_ret_or {a b} : evS Φ G W (.ret (.or a b)) g = (ev Φ G (.or a b) g).bind fun r => .ok (.rt r.1) := by rw [evS] <;> simp
@[simp] theorem evS_ret_not {a} : evS Φ G W (.ret (.not a)) g = (ev Φ G (.not a) g).bind fun r => .ok (.rt r.1) := by rw [evS] <;> simp
@[simp] theorem evS_ret_ite {c a b} : evS Φ G W (.ret (.ite c a b)) g = (ev Φ G (.ite c a b) g).bind fun r => .ok (.rt r.1) := by rw [evS] <;> simp
@[simp] theorem evS_ret_ix {a k} : evS Φ G W (.ret (.ix a k)) g = (ev Φ G (.ix a k) g).bind fun r => .ok (.rt r.1) := by rw [evS] <;> simp
@[simp] theorem evS_ret_sl {a lo hi} : evS Φ G W (.ret (.sl a lo hi)) g = (ev Φ G (.sl a lo hi) g).bind fun r => .ok (.rt r.1) := by rw [evS] <;> simp
@[simp] theorem evS_ret_rev {a} : evS Φ G W (.ret (.rev a)) g = (ev Φ G (.rev a) g).bind fun r => .ok (.rt r.1) := by rw [evS] <;> simp
@[simp] theorem evS_ret_fld {a c k} : evS Φ G W (.ret (.fld a c k)) g = (ev Φ G (.fld a c k) g).bind fun r => .ok (.rt r.1) := by rw [evS] <;> simp
@[simp] theorem evS_ret_call {f es} : evS Φ G W (.ret (.call f es)) g = (ev Φ G (.call f es) g).bind fun r => .ok (.rt r.1) := by rw [evS] <;> simp
@[simp] theorem evS_ret_bi {b es} : evS Φ G W (.ret (.bi b es)) g = (ev Φ G (.bi b es) g).bind fun r => .ok (.rt r.1) := by rw [evS] <;> simp
@[simp] theorem evS_ret_isi {a t} : evS Φ G W (.ret (.isi a t)) g = (ev Φ G (.isi a t) g).bind fun r => .ok (.rt r.1) := by rw [evS] <;> simp
@[simp] theorem evS_ret_idx {a b} : evS Φ G W (.ret (.idx a b)) g = (ev Φ G (.idx a b) g).bind fun r => .ok (.rt r.1) := by rw [evS] <;> simp
@[simp] theorem evS_ret_bits {a} : evS Φ G W (.ret (.bits a)) g = (ev Φ G (.bits a) g).bind fun r => .ok (.rt r.1) := by rw [evS] <;> simp
@[simp] theorem evS_ret_comp {elt t it c} : evS Φ G W (.ret (.comp elt t it c)) g = (ev Φ G (.comp elt t it c) g).bind fun r => .ok (.rt r.1) := by rw [evS] <;> simp
@[simp] theorem evS_ret_compO {elt t it} : evS Φ G W (.ret (.compO elt t it)) g = (ev Φ G (.compO elt t it) g).bind fun r => .ok (.rt r.1) := by rw [evS] <;> simp
@[simp] theorem evS_ret_din {a i} : evS Φ G W (.ret (.din a i)) g = (ev Φ G (.din a i) g).bind fun r => .ok (.rt r.1) := by rw [evS] <;> simp
@[simp] theorem evS_ret_dat {a i} : evS Φ G W (.ret (.dat i a)) g = (ev Φ G (.dat i a) g).bind fun r => .ok (.rt r.1) := by rw [evS] <;> simp
@[simp] theorem evS_retN : evS Φ G W .retN g = .ok (.rt (.frz .non)) := by rw [evS]
@[simp] theorem evS_ite {c a b} : evS Φ G W (.ite c a b) g = (tv Φ G c g (ev Φ G c g)).bind fun v => if v then evSs Φ G W a g else evSs Φ G W b g := by rw [evS]
@[simp] theorem evS_for {t it b} : evS Φ G W (.for t it b) g = (itf Φ G it g).bind fun x => forGo t (fun g => evSs Φ G W b g) x.1 (frzG x.2 g) := by rw [evS]
@[simp] theorem evS_while {c b} : evS Φ G W (.while c b) g = whGo (fun g => tv Φ G c g (ev Φ G c g)) (fun g => evSs Φ G W b g) W g := by rw [evS]
@[simp] theorem evS_brk : evS Φ G W .brk g = .ok (.bk g) := by rw [evS]
@[simp] theorem evS_cont : evS Φ G W .cont g = .ok (.ct g) := by rw [evS]
@[simp] theorem evS_pass : evS Φ G W .pass g = .ok (.nx g) := by rw [evS]
def seqR (f : Gm → Res Out) : Out → Res Out
  | .nx g => f g
  | o => .ok o
@[simp] theorem seqR_nx {f} : seqR f (.nx g) = f g := rfl
@[simp] theorem seqR_rt {f m} : seqR f (.rt m) = .ok (.rt m) := rfl
@[simp] theorem seqR_bk {f} : seqR f (.bk g) = .ok (.bk g) := rfl
@[simp] theorem seqR_ct {f} : seqR f (.ct g) = .ok (.ct g) := rfl
@[simp] theorem evSs_nil : evSs Φ G W .nil g = .ok (.nx g) := by rw [evSs]
@[simp] theorem evSs_cons {s r} : evSs Φ G W (.cons s r) g = (evS Φ G W s g).bind (seqR fun g => evSs Φ G W r g) := by
  rw [evSs]; first | rfl | (congr 1; first | done | (funext o; cases o <;> rfl))
def defR : Out → Res M
  | .rt m => .ok m
  | .nx _ => .ok (.frz .non)
  | _ => .no
@[simp] theorem defR_rt {m} : defR (.rt m) = .ok m := rfl
@[simp] theorem defR_nx : defR (.nx g) = .ok (.frz .non) := rfl
theorem evD_eq {np n b ds} (h : ds.length = np) : evD Φ G W np n b ds = (evSs Φ G W b (ds.map (fun d => some (.frz d)) ++ List.replicate (n - np) none)).bind defR := by
  unfold evD; rw [if_pos h]; first | rfl | (congr 1; first | done | (funext o; cases o <;> rfl))
/-- a loop by what holds behind each turn -/
theorem forGo_inv {t : Tg} {f : Gm → Res Out} (I : Nat → Gm) : ∀ (ds : List D) (i : Nat), (∀ j (hj : j < ds.length), (Res.of (bindT t ds[j] (I (i + j)))).bind f = .ok (.nx (I (i + j + 1)))) → forGo t f ds (I i) = .ok (.nx (I (i + ds.length)))
  | [], i, _ => rfl
  | d :: ds, i, h => by
    have h0 := h 0 (by simp)
    simp only [List.getElem_cons_zero, Nat.add_zero] at h0
    rw [forGo]
    cases hb : bindT t d (I i) with
    | none => rw [hb] at h0; cases h0
    | some g1 =>
      rw [hb] at h0
      simp only [Res.of_some, Res.bind_ok] at h0 ⊢
      rw [h0]
      simp only [Res.bind_ok]
      rw [forGo_inv I ds (i + 1) fun j hj => by
        have := h (j + 1) (by simp; omega)
        simp only [List.getElem_cons_succ] at this
        rw [show i + 1 + j = i + (j + 1) by omega]
        exact this]
      simp only [List.length_cons]
      rw [show i + 1 + ds.length = i + (ds.length + 1) by omega]
@[simp] theorem forGo_nil {t f} : forGo t f [] g = .ok (.nx g) := rfl
def loopR (k : Gm → Res Out) : Out → Res Out
  | .nx g => k g
  | .ct g => k g
  | .bk g => .ok (.nx g)
  | .rt m => .ok (.rt m)
@[simp] theorem loopR_nx {k} : loopR k (.nx g) = k g := rfl
@[simp] theorem loopR_ct {k} : loopR k (.ct g) = k g := rfl
@[simp] theorem loopR_bk {k} : loopR k (.bk g) = .ok (.nx g) := rfl
@[simp] theorem loopR_rt {k m} : loopR k (.rt m) = .ok (.rt m) := rfl
theorem forGo_cons {t : Tg} {f : Gm → Res Out} {d : D} {ds : List D} : forGo t f (d :: ds) g = (Res.of (bindT t d g)).bind fun g1 => (f g1).bind (loopR fun g => forGo t f ds g) := by
  rw [forGo]; first | rfl | (congr 1; first | done | (funext g1; first | rfl | (congr 1; first | done | (funext o; cases o <;> rfl))))
theorem whGo_succ {c : Gm → Res Bool} {f : Gm → Res Out} {n : Nat} : whGo c f (n + 1) g = (c g).bind fun v => if v then (f g).bind (loopR fun g => whGo c f n g) else .ok (.nx g) := by
  rw [whGo]; first | rfl | (congr 1; first | done | (funext v; cases v <;> first | rfl | (simp only [if_true]; first | rfl | (congr 1; first | done | (funext o; cases o <;> rfl)))))
end
end Ev

set_option maxRecDepth 100000
set_option maxHeartbeats 4000000
/-! The end: from the top's facts to the row. -/
namespace Ev
open PySem PySem.Spec PyProof.Rows L2

def obsX (chk : PySem.W.Frag → Bool) (fn : List He.DefD) (K : PySem.W.Frag) : He.AlD := (chk K && fn.all fun d => d.ok K, fn.map fun d => He.fnW K d.at_)
def obsXG (n : Nat) (chk : PySem.W.Frag → Bool) (fn : List He.DefD) (g : Addr → Option Obj) : He.AlD := obsX chk fn (He.frG g (He.asD g n))
def SaysX (chk : PySem.W.Frag → Bool) (fn : List He.DefD) (K : PySem.W.Frag) : Prop := obsX chk fn K = He.valD fn
def hookX (n : Nat) (chk : PySem.W.Frag → Bool) (fn : List He.DefD) : PySem.W.Hook where
  α := He.AlD
  obs := fun s => obsXG n chk fn s.heap.get?
  val := fun _ => He.valD fn
  says := fun _ h => ∃ K : PySem.W.Frag, K.In h ∧ SaysX chk fn K
  of := fun _ _ e => ⟨_, He.frG_in, e⟩
  keeps := fun _ _ _ ⟨K, hK, c⟩ k => ⟨K, PySem.W.Frag.In.keeps hK k, c⟩
theorem obsXG_eq {n : Nat} {chk : PySem.W.Frag → Bool} {fn : List He.DefD} {g : Addr → Option Obj} {s : Shared} (h : ∀ a, g a = s.heap.get? a) : obsXG n chk fn g = (hookX n chk fn).obs s := by
  have e : g = s.heap.get? := funext h
  rw [e]; rfl
section
variable {chk : PySem.W.Frag → Bool} {fn : List He.DefD} {K : PySem.W.Frag}
theorem SaysX.chk_ (c : SaysX chk fn K) : chk K = true := by
  have := congrArg Prod.fst c
  exact (Bool.and_eq_true_iff.mp this).1
theorem SaysX.def_ (c : SaysX chk fn K) (i : Nat) {d : He.DefD} (h : fn[i]? = some d) : ∃ fd, FunD K d.name d.qual d.params d.body d.scope (d.dvs K) (d.kws K) (He.fAd K d.at_) fd := by
  have h1 := congrArg Prod.fst c
  have h2 := congrArg Prod.snd c
  have h3 := (Bool.and_eq_true_iff.mp h1).2
  have hm : d ∈ fn := List.mem_of_getElem? h
  have h4 := List.all_eq_true.mp h3 d hm
  have h5 : (fn.map fun d => He.fnW K d.at_)[i]? = (fn.map He.DefD.val)[i]? := congrArg (·[i]?) h2
  rw [List.getElem?_map, List.getElem?_map, h] at h5
  exact d.funD (Option.some.inj h5) h4
end
/-- a plain def at the top -/
abbrev dd (f : String) (s : Stmt) : He.DefD := ⟨(Str.ofString f, none), Str.ofString f, Str.ofString f, defArgs s, defBody s, defScope s, [], []⟩
theorem glo_mg {K : PySem.W.Frag} {h : Heap} {mg : Str → Option Value} (X : K.In h) (G : h.Ns mainGlobals mg) {x : Str} (c : He.eqO (PySem.W.nsIn K mainGlobals x) (some (some (.ref (He.ga K x)))) = true) : mg x = some (.ref (He.ga K x)) := He.glo_ok X G c
theorem free_mg {K : PySem.W.Frag} {h : Heap} {mg : Str → Option Value} (X : K.In h) (G : h.Ns mainGlobals mg) {x : Str} (c : He.eqO (PySem.W.nsIn K mainGlobals x) (some none) = true) : mg x = none := He.free_ok X G c
theorem bi_mg {K : PySem.W.Frag} {h : Heap} {mg : Str → Option Value} (X : K.In h) (G : h.Ns mainGlobals mg) {x : Str} {v : Value} (c : He.eqO (PySem.W.nsIn K mainGlobals x) (some (some v)) = true) : mg x = some v := PySem.W.mg_of X G (He.eqO_ok c)
def gloB (K : PySem.W.Frag) (x : String) : Bool := He.eqO (PySem.W.nsIn K mainGlobals (Str.ofString x)) (some (some (.ref (He.ga K (Str.ofString x)))))
def freeB (K : PySem.W.Frag) (x : String) : Bool := He.eqO (PySem.W.nsIn K mainGlobals (Str.ofString x)) (some none)
def gcdB (K : PySem.W.Frag) : Bool := He.eqO (PySem.W.nsIn K mainGlobals (Str.ofString "gcd")) (some (some (.builtin "math.gcd")))
theorem defAt_of {P : Program} {w : World} {chk : PySem.W.Frag → Bool} {fn : List He.DefD} {K : PySem.W.Frag} {h : Heap} {mg : Str → Option Value} {C : Kls} {bl : List String} (X : K.In h) (G : h.Ns mainGlobals mg) (c : SaysX chk fn K) {f : String} {s : Stmt} {d : DefI} (hcl : d.cls = none) {N ps : List Str} (i : Nat)
    (hi : fn[i]? = some (dd f s)) (hg : gloB K f = true) (S : FnScope N ps (defScope s))
    (hb : ∀ (kV doc pm : Value) (an : Option Addr) (cdv ct : Value) (us : List Value), us.length = ps.length → bindArgs (PySem.W.fnOf (Str.ofString f) (Str.ofString f) (defArgs s) (defBody s) (defScope s) .none kV doc pm an cdv ct) ⟨us, []⟩ = pure (ps.zip us))
    (hc : chkB N bl C.n (defScope s) d.body (defBody s) = true) (h1 : ps.length = d.np) (h2 : N.length = d.n) (h3 : d.np ≤ d.n) (hx : xnm f = false := by decide +kernel) (hk : knm f = false := by decide +kernel) : DefAt P w K mg C bl f d := by
  obtain ⟨fd, F⟩ := c.def_ i hi
  unfold DefAt
  rw [if_neg (by rw [hk]; exact Bool.false_ne_true), if_neg (by rw [hx]; exact Bool.false_ne_true)]
  unfold DefAt0
  rw [hcl]
  exact ⟨_, _, _, _, _, fd, N, ps, F, S, glo_mg X G hg, FunD.bindsN F hb, hc, h1, h2, h3⟩
/-! ### classes -/
/-- the classes by their names at the top -/
def kls (K : PySem.W.Frag) (n : Nat) : Kls := ⟨fun c => He.ga K (Str.ofString (clsNm c)), n⟩
/-- the __init__ of a class at the top -/
def classBody : Stmt → List Stmt
  | .ClassDef (body := b) .. => b
  | _ => []
abbrev di (x : String) (s : Stmt) : He.DefD := ⟨(Str.ofString x, some "__init__"), "__init__", Str.ofString (x ++ ".__init__"), defArgs s, defBody s, defScope s, [], []⟩
def insB (K : PySem.W.Frag) (C : Addr) : Bool := decide (PySem.W.findIn K (.ref C) "__class__" = some (some (.builtin "object.__class__"))) && decide (PySem.W.specialIn K (.builtin "object.__class__") "__get__" = some (some (.builtin "getset_descriptor.__get__"))) &&
  decide (PySem.W.takesIn K (.builtin "object.__class__") = some true) && decide (PySem.W.mroIn K C (.type "object") = some true)
def clsB (K : PySem.W.Frag) (c : Nat) : Bool := (He.Fa.cls (Str.ofString (clsNm c))).ok K && (fsOf c).all (fun f => (He.Fa.noat (Str.ofString (clsNm c)) f).ok K) && (He.Fa.mkr (Str.ofString (clsNm c))).ok K && gloB K (clsNm c) && insB K (He.ga K (Str.ofString (clsNm c)))
def kitB (K : PySem.W.Frag) (n : Nat) : Bool := (List.range n).all fun c => (["int", "bool", "str", "list", "tuple"].all fun T => decide (PySem.W.kitOne K (.ref ((kls K n).at_ c)) (.type T) = some false)) &&
  (["NoneType", "bool", "int", "str", "list", "tuple", "dict"].all fun T => decide (PySem.W.kitOne K (.type T) (.ref ((kls K n).at_ c)) = some false)) && (List.range n).all fun c' => decide (PySem.W.kitOne K (.ref ((kls K n).at_ c)) (.ref ((kls K n).at_ c')) = some (c' == c))
theorem clsAt_of {P : Program} {w : World} {chk : PySem.W.Frag → Bool} {fn : List He.DefD} {K : PySem.W.Frag} {mg : Str → Option Value} {nC : Nat} {bl : List String} (c : SaysX chk fn K) {cc : Nat} {s : Stmt} {d : DefI} {es : List E} {N ps : List Str} (hcl : d.cls = some (cc, es)) (i : Nat)
    (hi : fn[i]? = some (di (clsNm cc) s)) (hg : clsB K cc = true) (S : FnScope N ps (defScope s))
    (hb : ∀ (kV doc pm : Value) (an : Option Addr) (cdv ct : Value) (us : List Value), us.length = ps.length → bindArgs (PySem.W.fnOf "__init__" (Str.ofString (clsNm cc ++ ".__init__")) (defArgs s) (defBody s) (defScope s) .none kV doc pm an cdv ct) ⟨us, []⟩ = pure (ps.zip us))
    (hc : chkI N bl nC (defScope s) cc 0 es (defBody s) = true) (h1 : ps.length = d.np + 1) (h2 : N.length = d.n) (h3 : d.np + 1 ≤ d.n) (h4 : cc < nC) (hx : xnm (clsNm cc) = false := by decide +kernel) (hk : knm (clsNm cc) = false := by decide +kernel) : DefAt P w K mg (kls K nC) bl (clsNm cc) d := by
  obtain ⟨fd, F⟩ := c.def_ i hi
  unfold DefAt
  rw [if_neg (by rw [hk]; exact Bool.false_ne_true), if_neg (by rw [hx]; exact Bool.false_ne_true)]
  unfold DefAt0
  rw [hcl]
  unfold clsB at hg
  simp only [Bool.and_eq_true] at hg
  have mk := He.mkr_ok hg.1.1.2
  exact ⟨_, _, _, _, _, _, fd, N, ps, F, S, mk, FunD.bindsN F hb, hc, h1, h2, h3, h4, rfl⟩
theorem clsAtK_of {P : Program} {w : World} {chk : PySem.W.Frag → Bool} {fn : List He.DefD} {K : PySem.W.Frag} {mg : Str → Option Value} {nC : Nat} {bl : List String} {f : String} (c : SaysX chk fn K) {cc : Nat} {s : Stmt} {d : DefI} {es : List E} {N ps : List Str} (hcl : d.cls = some (cc, es)) (i : Nat)
    (hi : fn[i]? = some (di (clsNm cc) s)) (hg : clsB K cc = true) (S : FnScope N ps (defScope s))
    (hb : ∀ (kV doc pm : Value) (an : Option Addr) (cdv ct : Value) (us : List Value), us.length = ps.length → bindArgs (PySem.W.fnOf "__init__" (Str.ofString (clsNm cc ++ ".__init__")) (defArgs s) (defBody s) (defScope s) .none kV doc pm an cdv ct) ⟨us, []⟩ = pure (ps.zip us))
    (hc : chkI N bl nC (defScope s) cc 0 es (defBody s) = true) (h1 : ps.length = d.np + 1) (h2 : N.length = d.n) (h3 : d.np + 1 ≤ d.n) (h4 : cc < nC) (hk : knm f = true := by decide +kernel) (hf : Str.ofString (knf f) = Str.ofString (clsNm cc) := by decide +kernel) : DefAt P w K mg (kls K nC) bl f d := by
  obtain ⟨fd, F⟩ := c.def_ i hi
  unfold DefAt
  rw [if_pos hk]
  unfold clsB at hg
  simp only [Bool.and_eq_true] at hg
  have mk := He.mkr_ok hg.1.1.2
  exact ⟨_, _, _, _, _, _, _, fd, N, ps, hcl, F, S, mk, FunD.bindsN F hb, hc, h1, h2, h3, h4, hf⟩
theorem cls_facts {K : PySem.W.Frag} {h : Heap} {mg : Str → Option Value} {n c : Nat} (X : K.In h) (G : h.Ns mainGlobals mg) (hg : clsB K c = true) :
    Cls K ((kls K n).at_ c) ∧ (∀ f ∈ fsOf c, NoAttr K ((kls K n).at_ c) f) ∧ mg (Str.ofString (clsNm c)) = some (.ref ((kls K n).at_ c)) ∧ ∀ H a dx fs, H a = some (.ins ((kls K n).at_ c) dx fs) → TyX K H (.ref a) (.ref ((kls K n).at_ c)) := by
  unfold clsB at hg
  simp only [Bool.and_eq_true] at hg
  obtain ⟨⟨⟨⟨h1, h2⟩, h3⟩, h4⟩, h5⟩ := hg
  unfold insB at h5
  simp only [Bool.and_eq_true, decide_eq_true_eq] at h5
  refine ⟨He.cls_ok h1, fun f hf => He.noat_ok (List.all_eq_true.mp h2 f hf), glo_mg X G h4, fun H a dx fs e => ?_⟩
  exact .base (.ins e (He.cls_ok h1) h5.1.1.1 h5.1.1.2 h5.1.2 h5.2)
theorem kitC {K : PySem.W.Frag} {n : Nat} (hk : kitB K n = true) : ∀ t d, (∀ c, t = Ty.cls c → c < (kls K n).n) → (∀ c fs, d = D.obj c fs → c < (kls K n).n) → PySem.W.kitOne K ((kls K n).tyD d) ((kls K n).tyT t) = some (isiD t d) := by
  intro t d h1 h2
  have all := fun c (hc : c < n) => List.all_eq_true.mp hk c (List.mem_range.mpr hc)
  cases t with
  | cls c =>
    have hc : c < n := h1 c rfl
    have a := all c hc
    simp only [Bool.and_eq_true, List.all_cons, List.all_nil, Bool.and_true, decide_eq_true_eq] at a
    obtain ⟨⟨_, b1, b2, b3, b4, b5, b6, b7⟩, _⟩ := a
    cases d with
    | obj c' fs =>
      have hc' : c' < n := h2 c' fs rfl
      have a := all c' hc'
      simp only [Bool.and_eq_true] at a
      have := List.all_eq_true.mp a.2 c (List.mem_range.mpr hc)
      have := of_decide_eq_true this
      show PySem.W.kitOne K (.ref ((kls K n).at_ c')) (.ref ((kls K n).at_ c)) = some (c == c')
      exact this
    | _ => first | exact b1 | exact b2 | exact b3 | exact b4 | exact b5 | exact b6 | exact b7
  | _ =>
    cases d <;> first
      | exact kit_ty (r := true) (by decide +kernel)
      | exact kit_ty (r := false) (by decide +kernel)
      | (rename_i c' fs
         have a := all c' (h2 c' fs rfl)
         simp only [Bool.and_eq_true, List.all_cons, List.all_nil, Bool.and_true, decide_eq_true_eq] at a
         obtain ⟨⟨⟨b1, b2, b3, b4, b5⟩, _⟩, _⟩ := a
         first | exact b1 | exact b2 | exact b3 | exact b4 | exact b5)
/-! ### errors -/
def errB (K : PySem.W.Frag) : Bool :=
  let NA := He.ga K (Str.ofString "NotAllowed")
  gloB K "NotAllowed" && gloB K "BeenError" && gloB K "BadText" && gloB K "UnknownName" &&
  PySem.W.excIn K NA [.type "ValueError", .type "Exception", .type "BaseException", .type "object"] "ValueError.__new__" && PySem.W.keepIn K (.ref NA) && decide (PySem.W.subIn K (.ref NA) (.type "BaseException") = some true) && decide (PySem.W.typeIn K (.ref NA) = some (.type "type")) &&
  decide (PySem.W.findIn K (.ref NA) "__getattribute__" = some (some (.builtin "BaseException.__getattribute__"))) && decide (PySem.W.findIn K (.ref NA) "__getattr__" = some none) && PySem.W.hasDictIn K NA && insB K NA &&
  decide (PySem.W.exmOne K (.ref NA) (.ref (He.ga K (Str.ofString "BeenError"))) = some true) && decide (PySem.W.kitOne K (.ref NA) (.ref NA) = some true) &&
  decide (PySem.W.kitOne K (.ref NA) (.ref (He.ga K (Str.ofString "BadText"))) = some false) && decide (PySem.W.kitOne K (.ref NA) (.ref (He.ga K (Str.ofString "UnknownName"))) = some false)
theorem err_ok {K : PySem.W.Frag} {h : Heap} {mg : Str → Option Value} (X : K.In h) (G : h.Ns mainGlobals mg) (hg : errB K = true) : ErrOk K mg (He.ga K (Str.ofString "NotAllowed")) ∧ RaiseOk K (He.ga K (Str.ofString "NotAllowed")) := by
  unfold errB at hg
  simp only [Bool.and_eq_true, decide_eq_true_eq] at hg
  obtain ⟨⟨⟨⟨⟨⟨⟨⟨⟨⟨⟨⟨⟨⟨⟨h1, h2⟩, h3⟩, h4⟩, h5⟩, h6⟩, h7⟩, h8⟩, h9⟩, h10⟩, h11⟩, h12⟩, h13⟩, h14⟩, h15⟩, h16⟩ := hg
  unfold insB at h12
  simp only [Bool.and_eq_true, decide_eq_true_eq] at h12
  obtain ⟨⟨⟨i1, i2⟩, i3⟩, i4⟩ := h12
  exact ⟨⟨⟨h9, h10, h7, h11, i1, i2, i3, i4⟩, ⟨_, glo_mg X G h2, h13⟩, ⟨glo_mg X G h1, h14⟩, ⟨_, glo_mg X G h3, h15⟩, ⟨_, glo_mg X G h4, h16⟩⟩, ⟨h5, h6, h7, h8⟩⟩
theorem defAtX_of {P : Program} {w : World} {chk : PySem.W.Frag → Bool} {fn : List He.DefD} {K : PySem.W.Frag} {h : Heap} {mg : Str → Option Value} {C : Kls} {bl : List String} (X : K.In h) (G : h.Ns mainGlobals mg) (c : SaysX chk fn K) {f : String} {s : Stmt} {d : DefI} {ce : E} (hcl : d.cls = none) (hbd : d.body = .cons (.ret ce) .nil)
    (hn : notSlot ce = true) (ht : testE ce = true) {N ps : List Str} (i : Nat) {g : String} (hi : fn[i]? = some (dd g s)) (hg : gloB K g = true) (S : FnScope N ps (defScope s))
    (hb : ∀ (kV doc pm : Value) (an : Option Addr) (cdv ct : Value) (us : List Value), us.length = ps.length → bindArgs (PySem.W.fnOf (Str.ofString g) (Str.ofString g) (defArgs s) (defBody s) (defScope s) .none kV doc pm an cdv ct) ⟨us, []⟩ = pure (ps.zip us))
    (hc : chkG N bl C.n (defScope s) ce (defBody s) = true) (h1 : ps.length = d.np) (h2 : N.length = d.n) (h3 : d.np ≤ d.n) (he : errB K = true) (hx : xnm f = true := by decide +kernel) (hxf : xnf f = g := by decide +kernel) : DefAt P w K mg C bl f d := by
  obtain ⟨fd, F⟩ := c.def_ i hi
  obtain ⟨er, ro⟩ := err_ok X G he
  unfold DefAt
  rw [if_neg (by rw [knm_x hx]; exact Bool.false_ne_true), if_pos hx]
  unfold DefAtX
  rw [hxf]
  exact ⟨hcl, ce, _, _, _, _, _, fd, N, ps, _, hbd, hn, ht, F, S, glo_mg X G hg, FunD.bindsN F hb, hc, h1, h2, h3, er, ro⟩
/-- constants of the top -/
theorem con_tup {K : PySem.W.Frag} {h : Heap} {mg : Str → Option Value} {C : Kls} (X : K.In h) (G : h.Ns mainGlobals mg) {x : String} {vs : List He.Dv} {ds : List D} (c : gloB K x = true) (t : He.tupB K (Str.ofString x) vs = true)
    (r : ∀ H S, RDs K C H S (vs.map (He.Dv.v K)) ds) : ∃ v u, mg (Str.ofString x) = some u ∧ RelV v u ∧ ∀ H S, RD K C H S v (.tup ds) :=
  ⟨.ref (He.ga K (Str.ofString x)), _, glo_mg X G c, rfl, fun H S => .tup (He.tupB_ok t H) (r H S)⟩
theorem con_int {K : PySem.W.Frag} {h : Heap} {mg : Str → Option Value} {C : Kls} (X : K.In h) (G : h.Ns mainGlobals mg) {x : String} {i : Int} (c : (He.Fa.int (Str.ofString x) i).ok K = true) : ∃ v u, mg (Str.ofString x) = some u ∧ RelV v u ∧ ∀ H S, RD K C H S v (.int i) := by
  obtain ⟨t, e⟩ := He.int_ok X G c
  exact ⟨.int i, _, e, ⟨t, rfl⟩, fun H S => .int i⟩
theorem con_str {K : PySem.W.Frag} {h : Heap} {mg : Str → Option Value} {C : Kls} (X : K.In h) (G : h.Ns mainGlobals mg) {x : String} {z : Str} (c : (He.Fa.str (Str.ofString x) z).ok K = true) : ∃ v u, mg (Str.ofString x) = some u ∧ RelV v u ∧ ∀ H S, RD K C H S v (.str z) := by
  obtain ⟨t, e⟩ := He.str_ok X G c
  exact ⟨.str z, _, e, ⟨t, rfl⟩, fun H S => .str z⟩
/-- built-in types alone -/
theorem kit0 {K : PySem.W.Frag} {C : Kls} (hn : C.n = 0) : ∀ t d, (∀ c, t = Ty.cls c → c < C.n) → (∀ c fs, d = D.obj c fs → c < C.n) → PySem.W.kitOne K (C.tyD d) (C.tyT t) = some (isiD t d) := by
  intro t d h1 h2
  cases t with
  | cls c => have := h1 c rfl; omega
  | _ =>
    cases d <;> first
      | exact kit_ty (r := true) (by decide +kernel)
      | exact kit_ty (r := false) (by decide +kernel)
      | (have := h2 _ _ rfl; omega)
/-- the law's promise -/
def spLaw (K : PySem.W.Frag) (C : Kls) (F : Nat → List D → Res M) : Sp := fun vs H Q E => ∃ W, spF K C (F W) vs H Q E
theorem law_sp {K : PySem.W.Frag} {C : Kls} {F : Nat → List D → Res M} {H : Hp} {a : Addr} {ns : List Int} (h : ∃ W, F W [.rol (ns.map .int)] = .ok (.frz (.bl true))) (hO : Only H) (hS : SqL K H a (ns.map V.int)) :
    spLaw K C F [.ref a] H (fun v _ => v = .bl true) fun _ _ _ => False := by
  obtain ⟨W, e⟩ := h
  have ro : RoL K H a (ns.map V.int) := by
    rcases hS with (h | h) | h
    · rcases hO a with z | ⟨o, xs, z⟩
      · rw [z] at h; cases h
      · rw [z] at h; cases h
    · exact .inl h
    · exact .inr h
  refine ⟨W, fun _ => False, _, _, .cons (.rol ro (RDs.ints ns)) .nil, fun a z => z.elim, e, fun v H' S' A _ r _ _ _ _ => ?_⟩
  exact RL.bl (.rd r.frz'.2)
end Ev

set_option maxRecDepth 100000
set_option maxHeartbeats 4000000
set_option exponentiation.threshold 200000
/-! Loops and lists: rows for the plain laws. -/
namespace Ev
open PySem PySem.Spec PyProof.Rows L2
/-- a loop by an invariant -/
theorem forGo_ind {t : Tg} {f : Gm → Res Out} (P : Nat → Gm → Prop) : ∀ (ds : List D) (i : Nat) (g : Gm), P i g →
    (∀ j (hj : j < ds.length) g, P (i + j) g → ∃ g', (Res.of (bindT t ds[j] g)).bind f = .ok (.nx g') ∧ P (i + j + 1) g') →
    ∃ g', forGo t f ds g = .ok (.nx g') ∧ P (i + ds.length) g'
  | [], i, g, h, _ => ⟨g, rfl, h⟩
  | d :: ds, i, g, h, k => by
    obtain ⟨g1, e, p⟩ := k 0 (by simp) g h
    simp only [List.getElem_cons_zero] at e
    obtain ⟨g2, e2, p2⟩ := forGo_ind P ds (i + 1) g1 p fun j hj g q => by
      have := k (j + 1) (by simp; omega) g (by rwa [show i + (j + 1) = i + 1 + j by omega])
      simp only [List.getElem_cons_succ] at this
      rwa [show i + (j + 1) + 1 = i + 1 + j + 1 by omega] at this
    refine ⟨g2, ?_, by rwa [List.length_cons, show i + (ds.length + 1) = i + 1 + ds.length by omega]⟩
    rw [forGo_cons]
    cases hb : bindT t d g with
    | none => rw [hb] at e; cases e
    | some g0 =>
      rw [hb] at e
      simp only [Res.of_some, Res.bind_ok] at e ⊢
      rw [e]
      simpa using e2
/-- a loop that may also go on by continue -/
theorem forGo_ind2 {t : Tg} {f : Gm → Res Out} (P : Nat → Gm → Prop) : ∀ (ds : List D) (i : Nat) (g : Gm), P i g →
    (∀ j (hj : j < ds.length) g, P (i + j) g → ∃ g', ((Res.of (bindT t ds[j] g)).bind f = .ok (.nx g') ∨ (Res.of (bindT t ds[j] g)).bind f = .ok (.ct g')) ∧ P (i + j + 1) g') →
    ∃ g', forGo t f ds g = .ok (.nx g') ∧ P (i + ds.length) g'
  | [], i, g, h, _ => ⟨g, rfl, h⟩
  | d :: ds, i, g, h, k => by
    obtain ⟨g1, e, p⟩ := k 0 (by simp) g h
    simp only [List.getElem_cons_zero] at e
    obtain ⟨g2, e2, p2⟩ := forGo_ind2 P ds (i + 1) g1 p fun j hj g q => by
      have := k (j + 1) (by simp; omega) g (by rwa [show i + (j + 1) = i + 1 + j by omega])
      simp only [List.getElem_cons_succ] at this
      rwa [show i + (j + 1) + 1 = i + 1 + j + 1 by omega] at this
    refine ⟨g2, ?_, by rwa [List.length_cons, show i + (ds.length + 1) = i + 1 + ds.length by omega]⟩
    rw [forGo_cons]
    cases hb : bindT t d g with
    | none => rw [hb] at e; rcases e with e | e <;> cases e
    | some g0 =>
      rw [hb] at e
      simp only [Res.of_some, Res.bind_ok] at e ⊢
      rcases e with e | e <;> rw [e] <;> simpa using e2
@[simp] theorem rngD_len {n : Int} : (rngD 0 n).length = n.toNat := by simp [rngD]
theorem rngD_get {n : Int} {j : Nat} (h : j < (rngD 0 n).length) : (rngD 0 n)[j] = .int j := by simp [rngD]
theorem rngD_get' {m n : Int} {j : Nat} (h : j < (rngD m n).length) : (rngD m n)[j] = .int (m + j) := by simp [rngD]
theorem at_nat {α : Type} {l : List α} {i : Int} {j : Nat} (e : i = j) (h : j < l.length) : atI l i = some l[j] := by
  subst e; exact atI_nat (j := j) (by simp [h])
theorem at_map {α β : Type} {f : α → β} {l : List α} {i : Int} {j : Nat} (e : i = j) (h : j < l.length) : atI (l.map f) i = some (f l[j]) := by
  rw [at_nat e (by simpa using h)]; simp
theorem p40 : (2 : Int) ^ 40 = 1099511627776 := by decide +kernel
theorem rngR_i {n : Int} (h : -1000000000 ≤ n ∧ n ≤ 1000000000) : rngR (.int n) = .ok (rngD 0 n, []) := by
  refine rngR_int ?_
  rw [p40]; omega
theorem rngR_nat {n : Nat} (h : n ≤ 1000000000) : rngR (.int n) = .ok (rngD 0 n, []) := rngR_i (by omega)
theorem rng2R_i {m n : Int} (h : -1000000000 ≤ m ∧ m ≤ 1000000000) (k : -1000000000 ≤ n ∧ n ≤ 1000000000) : rng2R (.int m) (.int n) = .ok (rngD m n, []) := by
  refine rng2R_int ?_
  rw [p40]; omega
theorem mulOk_of {i j : Int} {n m : Nat} (hi : i.natAbs < 2 ^ n) (hj : j.natAbs < 2 ^ m) (h : n + m < 100000000) : MulOk i j := by
  refine Or.inr ?_
  have a : i.natAbs.log2 ≤ n := by
    by_cases h0 : i.natAbs = 0
    · rw [h0]; simp
    · exact Nat.le_of_lt ((Nat.log2_lt h0).mpr hi)
  have b : j.natAbs.log2 ≤ m := by
    by_cases h0 : j.natAbs = 0
    · rw [h0]; simp
    · exact Nat.le_of_lt ((Nat.log2_lt h0).mpr hj)
  omega
theorem MulOk.l {i j : Int} (h : i.natAbs < 2 ^ 60) : MulOk i j := Or.inl (Or.inl h)
theorem MulOk.r {i j : Int} (h : j.natAbs < 2 ^ 60) : MulOk i j := Or.inl (Or.inr h)
theorem log_lt {j n : Nat} (h0 : j ≠ 0) (h : j < 2 ^ n) (hn : n ≤ 9000) : j.log2 < 9000 := Nat.lt_of_lt_of_le ((Nat.log2_lt h0).mpr h) hn
theorem fdiv_pos_abs (a b : Int) (h : b ∣ a) : a.fdiv b = a / b := by
  rw [Int.fdiv_eq_ediv_of_dvd h]
theorem mul_lt {a b n m : Nat} (h : a < 2 ^ n) (k : b < 2 ^ m) : a * b < 2 ^ (n + m) := by
  rw [Nat.pow_add]; exact Nat.mul_lt_mul'' h k
theorem abs_mul_lt {a b : Int} {n m : Nat} (h : a.natAbs < 2 ^ n) (k : b.natAbs < 2 ^ m) : (a * b).natAbs < 2 ^ (n + m) := by
  rw [Int.natAbs_mul]; exact mul_lt h k
theorem abs_add_lt {a b : Int} {n : Nat} (h : a.natAbs < 2 ^ n) (k : b.natAbs < 2 ^ n) : (a + b).natAbs < 2 ^ (n + 1) := by
  rw [Nat.pow_succ]; have := Int.natAbs_add_le a b; omega
theorem abs_sub_lt {a b : Int} {n : Nat} (h : a.natAbs < 2 ^ n) (k : b.natAbs < 2 ^ n) : (a - b).natAbs < 2 ^ (n + 1) := by
  rw [Nat.pow_succ]; have := Int.natAbs_sub_le a b; omega
/-! ### shared from here on -/
@[simp] theorem flat_lst {ds} : D.flat (.lst ds) = false := by simp [D.flat]
@[simp] theorem flat_int {i} : D.flat (.int i) = true := by simp [D.flat]
@[simp] theorem flat_bl {i} : D.flat (.bl i) = true := by simp [D.flat]
@[simp] theorem flat_str {i} : D.flat (.str i) = true := by simp [D.flat]
@[simp] theorem flat_non : D.flat .non = true := by simp [D.flat]
@[simp] theorem ff_frz {d} : M.ff (.frz d) = d.flat := by simp [M.ff]
@[simp] theorem ff_fl {ds} : M.ff (.fl ds) = D.flats ds := by simp [M.ff]
@[simp] theorem flat_tup {ds} : D.flat (.tup ds) = D.flats ds := by simp [D.flat]
@[simp] theorem flats_nil : D.flats [] = true := by simp [D.flats]
@[simp] theorem flats_cons {d ds} : D.flats (d :: ds) = (d.flat && D.flats ds) := by simp [D.flats]
@[simp] theorem flats_app {ds es} : D.flats (ds ++ es) = (D.flats ds && D.flats es) := by
  induction ds with
  | nil => simp
  | cons d ds ih => simp [ih, Bool.and_assoc]
theorem flats_map {α : Type} {f : α → D} {l : List α} (h : ∀ x ∈ l, (f x).flat = true) : D.flats (l.map f) = true := by
  induction l with
  | nil => simp
  | cons d ds ih => simp [h d (by simp), ih fun x hx => h x (by simp [hx])]
theorem nrm_eq {m : M} {t : Tn} : nrm (m, t) = if m.ff then [] else t := by
  cases t <;> simp [nrm]
@[simp] theorem nrm_lst {ds t} : nrm (.frz (.lst ds), t) = t := by simp [nrm_eq]
@[simp] theorem nrm_fl {ds t} : nrm (.fl ds, t) = if D.flats ds then [] else t := by simp [nrm_eq]
@[simp] theorem nrm_tup {ds t} : nrm (.frz (.tup ds), t) = if D.flats ds then [] else t := by simp [nrm_eq]
@[simp] theorem nrm_int {i t} : nrm (.frz (.int i), t) = [] := by simp [nrm_eq]
@[simp] theorem nrm_bl {i t} : nrm (.frz (.bl i), t) = [] := by simp [nrm_eq]
@[simp] theorem nrm_str {i t} : nrm (.frz (.str i), t) = [] := by simp [nrm_eq]
@[simp] theorem rfT_lst {ds t} : rfT (.frz (.lst ds)) t = t := by simp [rfT]
@[simp] theorem rfT_fl {ds t} : rfT (.fl ds) t = if D.flats ds then [] else t := by simp [rfT]
@[simp] theorem rfT_tup {ds t} : rfT (.frz (.tup ds)) t = if D.flats ds then [] else t := by simp [rfT]
@[simp] theorem rfT_int {i t} : rfT (.frz (.int i)) t = [] := by simp [rfT]
@[simp] theorem rfT_bl {i t} : rfT (.frz (.bl i)) t = [] := by simp [rfT]
@[simp] theorem rfT_str {i t} : rfT (.frz (.str i)) t = [] := by simp [rfT]
def frzR (g : Gm) (i : Nat) : Option (Option M) → Gm
  | some (some m) => g.set i (some (.frz m.toD))
  | _ => g
@[simp] theorem frzR_some {g i m} : frzR g i (some (some m)) = g.set i (some (.frz m.toD)) := rfl
@[simp] theorem frzG_cons {g i t} : frzG (i :: t) g = frzG t (frzR g i g[i]?) := rfl
/-! ### comprehensions -/
theorem compGo_eq {t : Tg} {c : Gm → Res Bool} {elt : Gm → Res (M × Tn)} {g : Gm} (p : D → Bool) (f : D → D) : ∀ ds : List D, ds.length < lim →
    (∀ d ∈ ds, ∃ g1, bindT t d g = some g1 ∧ c g1 = .ok (p d) ∧ (p d = true → ∃ m T, elt g1 = .ok (m, T) ∧ nrm (m, T) = [] ∧ m.toD = f d)) → compGo t c elt ds g = .ok ((ds.filter p).map f)
  | [], _, _ => rfl
  | d :: ds, hl, h => by
    obtain ⟨g1, e1, e2, e3⟩ := h d (by simp)
    have ih := compGo_eq (t := t) (c := c) (elt := elt) (g := g) p f ds (by simp at hl; omega) fun x hx => h x (by simp [hx])
    rw [compGo, e1]
    simp only [Res.of_some, Res.bind_ok, e2]
    cases hp : p d with
    | false => rw [if_neg (by simp), List.filter_cons_of_neg (by simp [hp])]; exact ih
    | true =>
      obtain ⟨m, T, e4, e5, e6⟩ := e3 hp
      rw [if_pos rfl, e4]
      simp only [Res.bind_ok, e5, ih]
      have : (List.map f (List.filter p ds)).length < lim := by
        rw [List.length_map]
        have := List.length_filter_le p ds
        simp at hl; omega
      rw [if_pos this, List.filter_cons_of_pos hp, List.map_cons, e6]
/-- .. of coded items -/
theorem compL {α : Type} {t : Tg} {c : Gm → Res Bool} {elt : Gm → Res (M × Tn)} {g : Gm} (l : List α) (en : α → D) (p : α → Bool) (f : α → D) (hl : l.length < lim)
    (h : ∀ x ∈ l, ∃ g1, bindT t (en x) g = some g1 ∧ c g1 = .ok (p x) ∧ (p x = true → ∃ m T, elt g1 = .ok (m, T) ∧ nrm (m, T) = [] ∧ m.toD = f x)) : compGo t c elt (l.map en) g = .ok ((l.filter p).map f) := by
  induction l with
  | nil => rfl
  | cons d ds ih =>
    obtain ⟨g1, e1, e2, e3⟩ := h d (by simp)
    have ih := ih (by simp at hl; omega) fun x hx => h x (by simp [hx])
    rw [List.map_cons, compGo, e1]
    simp only [Res.of_some, Res.bind_ok, e2]
    cases hp : p d with
    | false => rw [if_neg (by simp), List.filter_cons_of_neg (by simp [hp])]; exact ih
    | true =>
      obtain ⟨m, T, e4, e5, e6⟩ := e3 hp
      rw [if_pos rfl, e4]
      simp only [Res.bind_ok, e5, ih]
      have : (List.map f (List.filter p ds)).length < lim := by
        rw [List.length_map]
        have := List.length_filter_le p ds
        simp at hl; omega
      rw [if_pos this, List.filter_cons_of_pos hp, List.map_cons, e6]
theorem compL1 {α : Type} {t : Tg} {elt : Gm → Res (M × Tn)} {g : Gm} (l : List α) (en : α → D) (f : α → D) (hl : l.length < lim)
    (h : ∀ x ∈ l, ∃ g1, bindT t (en x) g = some g1 ∧ ∃ m T, elt g1 = .ok (m, T) ∧ nrm (m, T) = [] ∧ m.toD = f x) : compGo t (fun _ => .ok true) elt (l.map en) g = .ok (l.map f) := by
  have := compL (t := t) (c := fun _ => .ok true) (elt := elt) (g := g) l en (fun _ => true) f hl fun x hx => by
    obtain ⟨g1, h1, h2⟩ := h x hx
    exact ⟨g1, h1, rfl, fun _ => h2⟩
  rwa [List.filter_eq_self.mpr (by simp)] at this
theorem compOGo_eq {t : Tg} {elt : Gm → Res (M × Tn)} {g : Gm} (f : D → M) : ∀ ds : List D, ds.length < lim →
    (∀ d ∈ ds, ∃ g1, bindT t d g = some g1 ∧ ∃ T, elt g1 = .ok (f d, T) ∧ nrm (f d, T) = []) → compOGo t elt ds g = .ok (ds.map f)
  | [], _, _ => rfl
  | d :: ds, hl, h => by
    obtain ⟨g1, e1, T, e4, e5⟩ := h d (by simp)
    have ih := compOGo_eq (t := t) (elt := elt) (g := g) f ds (by simp at hl; omega) fun x hx => h x (by simp [hx])
    rw [compOGo, e1]
    simp only [Res.of_some, Res.bind_ok, e4, e5, ih]
    rw [if_pos (by simp at hl ⊢; omega)]; rfl
/-- a loop over numbers -/
theorem forN {i : Nat} {f : Gm → Res Out} (n : Nat) (P : Nat → Gm → Prop) {g : Gm} (h0 : P 0 g)
    (hs : ∀ j, j < n → ∀ g, P j g → ∃ g', f (g.set i (some (.frz (.int (j : Nat))))) = .ok (.nx g') ∧ P (j + 1) g') : ∃ g', forGo (.nm i) f (rngD 0 n) g = .ok (.nx g') ∧ P n g' := by
  obtain ⟨g', e, p⟩ := forGo_ind (t := .nm i) (f := f) P (rngD 0 n) 0 g h0 (by
    intro j hj g p
    have hj' : j < n := by simpa using hj
    rw [Nat.zero_add] at p ⊢
    rw [rngD_get]
    exact hs j hj' g p)
  exact ⟨g', e, by simpa using p⟩
/-- .. that may end early: by one answer -/
theorem forN_rt {i : Nat} {f : Gm → Res Out} (n : Nat) (P : Nat → Gm → Prop) (q : Nat → Bool) (m : M) {g : Gm} (h0 : P 0 g)
    (hs : ∀ j, j < n → ∀ g, P j g → if q j then f (g.set i (some (.frz (.int (j : Nat))))) = .ok (.rt m) else ∃ g', f (g.set i (some (.frz (.int (j : Nat))))) = .ok (.nx g') ∧ P (j + 1) g') :
    if (List.range n).any q then forGo (.nm i) f (rngD 0 n) g = .ok (.rt m) else ∃ g', forGo (.nm i) f (rngD 0 n) g = .ok (.nx g') ∧ P n g' := by
  have key : ∀ (k a : Nat) (g : Gm), P a g → a + k = n → if (List.range' a k).any q then forGo (.nm i) f (rngD a n) g = .ok (.rt m) else ∃ g', forGo (.nm i) f (rngD a n) g = .ok (.nx g') ∧ P n g' := by
    intro k
    induction k with
    | zero =>
      intro a g p e
      have : rngD a n = [] := by unfold rngD; rw [show ((n : Int) - a).toNat = 0 by omega]; rfl
      rw [this]
      exact ⟨g, rfl, by rwa [show n = a by omega]⟩
    | succ k ih =>
      intro a g p e
      have er : rngD a n = .int (a : Nat) :: rngD ((a + 1 : Nat) : Int) n := by
        unfold rngD
        rw [show ((n : Int) - a).toNat = k + 1 by omega, show ((n : Int) - ((a + 1 : Nat) : Int)).toNat = k by omega, List.range_succ_eq_map]
        simp only [List.map_cons, List.map_map]
        refine List.cons_eq_cons.mpr ⟨congrArg D.int (by omega), ?_⟩
        apply List.map_congr_left; intro x _; simp only [Function.comp]; exact congrArg D.int (by omega)
      rw [er, List.range'_succ, List.any_cons, forGo_cons, bind_nm, Res.of_some, Res.bind_ok]
      have h := hs a (by omega) g p
      cases hq : q a with
      | true => rw [hq, if_pos rfl] at h; rw [h]; simp
      | false =>
        rw [hq, if_neg (by simp)] at h
        obtain ⟨g1, e1, p1⟩ := h
        rw [e1, Res.bind_ok, loopR_nx, Bool.false_or]
        exact ih (a + 1) g1 p1 (by omega)
  have := key n 0 g h0 (by omega)
  rw [List.range_eq_range']
  exact this
/-- .. from a number on -/
theorem forN2 {i : Nat} {f : Gm → Res Out} (a n : Nat) (han : a ≤ n) (P : Nat → Gm → Prop) {g : Gm} (h0 : P a g)
    (hs : ∀ j, a ≤ j → j < n → ∀ g, P j g → ∃ g', f (g.set i (some (.frz (.int (j : Nat))))) = .ok (.nx g') ∧ P (j + 1) g') : ∃ g', forGo (.nm i) f (rngD (a : Nat) (n : Nat)) g = .ok (.nx g') ∧ P n g' := by
  have hl : (rngD (a : Nat) (n : Nat)).length = n - a := by unfold rngD; rw [List.length_map, List.length_range]; omega
  obtain ⟨g', e, p⟩ := forGo_ind (t := .nm i) (f := f) (fun k g => P (a + k) g) (rngD (a : Nat) (n : Nat)) 0 g h0 (by
    intro j hj g p
    rw [hl] at hj
    rw [Nat.zero_add] at p ⊢
    rw [rngD_get', bind_nm, Res.of_some, Res.bind_ok, show (a : Int) + (j : Nat) = ((a + j : Nat) : Int) by omega]
    exact hs (a + j) (by omega) (by omega) g p)
  refine ⟨g', e, ?_⟩
  rwa [hl, Nat.zero_add, show a + (n - a) = n by omega] at p
/-- a loop over coded items -/
theorem forL {α : Type} {t : Tg} {f : Gm → Res Out} (l : List α) (en : α → D) (P : Nat → Gm → Prop) {g : Gm} (h0 : P 0 g)
    (hs : ∀ j (h : j < l.length) g, P j g → ∃ g', (Res.of (bindT t (en l[j]) g)).bind f = .ok (.nx g') ∧ P (j + 1) g') : ∃ g', forGo t f (l.map en) g = .ok (.nx g') ∧ P l.length g' := by
  obtain ⟨g', e, p⟩ := forGo_ind (t := t) (f := f) P (l.map en) 0 g h0 (by
    intro j hj g p
    have hj' : j < l.length := by simpa using hj
    rw [Nat.zero_add] at p ⊢
    rw [List.getElem_map]
    exact hs j hj' g p)
  exact ⟨g', e, by simpa using p⟩
theorem forL_rt {α : Type} {t : Tg} {f : Gm → Res Out} (l : List α) (en : α → D) (P : Nat → Gm → Prop) (q : α → Bool) (m : M) {g : Gm} (h0 : P 0 g)
    (hs : ∀ j (h : j < l.length) g, P j g → if q l[j] then (Res.of (bindT t (en l[j]) g)).bind f = .ok (.rt m) else ∃ g', (Res.of (bindT t (en l[j]) g)).bind f = .ok (.nx g') ∧ P (j + 1) g') :
    if l.any q then forGo t f (l.map en) g = .ok (.rt m) else ∃ g', forGo t f (l.map en) g = .ok (.nx g') ∧ P l.length g' := by
  induction l generalizing P g with
  | nil => exact ⟨g, rfl, h0⟩
  | cons x l ih =>
    rw [List.map_cons, List.any_cons, forGo_cons]
    have h := hs 0 (by simp) g h0
    simp only [List.getElem_cons_zero] at h
    cases hb : bindT t (en x) g with
    | none =>
      rw [hb] at h
      cases hq : q x <;> simp [hq] at h
    | some g0 =>
      rw [hb] at h
      simp only [Res.of_some, Res.bind_ok] at h ⊢
      cases hq : q x with
      | true => rw [hq, if_pos rfl] at h; rw [h]; simp
      | false =>
        rw [hq, if_neg (by simp)] at h
        obtain ⟨g1, e1, p1⟩ := h
        rw [e1, Res.bind_ok, loopR_nx, Bool.false_or]
        exact ih (fun j g => P (j + 1) g) p1 fun j hj g p => hs (j + 1) (by simp; omega) g p
section
variable {Φ : String → List D → Res M} {G : String → Option D} {W : Nat}
theorem ph_at {T : String → Option DefI} {f : String} {d : DefI} {k : Nat} (h : T f = some d) (hc : d.cls = none := by rfl) : ph G W T (k + 1) f = evD (ph G W T k) G W d.np d.n d.body := ph_fn h hc k
end
end Ev

set_option maxRecDepth 100000
set_option maxHeartbeats 4000000
/-! Ev18: a leaner part of the heap for the top's facts. -/
namespace Ev
open PySem PySem.Spec PyProof.Rows L2
/-- of a global: its code; its namespace and its order -/
def pkO (o : Obj) : List Addr := match o.data with
  | .func fd => He.refV fd.code
  | .cls cd => cd.ns :: cd.mro.flatMap He.refV
  | _ => []
def pk (g : Addr → Option Obj) (a : Addr) : List Addr := match g a with
  | some o => pkO o
  | none => []
def esO (g : Addr → Option Obj) (a : Addr) : List Addr := match g a with
  | some o => (match o.data with
    | .dict es _ => es.toList.flatMap fun e => He.refV e.val
    | _ => [])
  | none => []
/-- the namespace of a class -/
def nsO (g : Addr → Option Obj) (a : Addr) : List Addr := match g a with
  | some o => (match o.data with
    | .cls cd => [cd.ns]
    | _ => [])
  | none => []
def asX (g : Addr → Option Obj) : List Addr :=
  let l1 := esO g mainGlobals
  let l3 := (l1.flatMap (nsO g)).flatMap (esO g)
  mainGlobals :: (l1 ++ (l1.flatMap (pk g) ++ (l3 ++ l3.flatMap (pk g))))
def obsYG (chk : PySem.W.Frag → Bool) (fn : List He.DefD) (g : Addr → Option Obj) : He.AlD := obsX chk fn (He.frG g (asX g))
def hookY (chk : PySem.W.Frag → Bool) (fn : List He.DefD) : PySem.W.Hook where
  α := He.AlD
  obs := fun s => obsYG chk fn s.heap.get?
  val := fun _ => He.valD fn
  says := fun _ h => ∃ K : PySem.W.Frag, K.In h ∧ SaysX chk fn K
  of := fun _ _ e => ⟨_, He.frG_in, e⟩
  keeps := fun _ _ _ ⟨K, hK, c⟩ k => ⟨K, PySem.W.Frag.In.keeps hK k, c⟩
theorem obsYG_eq {chk : PySem.W.Frag → Bool} {fn : List He.DefD} {g : Addr → Option Obj} {s : Shared} (h : ∀ a, g a = s.heap.get? a) : obsYG chk fn g = (hookY chk fn).obs s := by
  have e : g = s.heap.get? := funext h
  rw [e]; rfl
end Ev

set_option maxRecDepth 100000
set_option maxHeartbeats 4000000
/-! the law otherhow_k14_mixes_judged -/
namespace Ev
open PySem PySem.Spec PyProof.Rows L2
abbrev RR : PySem.W.OpenRow := PySem.W.OpenLaw.row PySem.Challenge.rw_otherhow_k14_mixes_judged
def topS (i : Nat) : Stmt := PySem.Challenge.pw_otherhow_k14_mixes_judged.main.body.getD i (.Pass ⟨0, 0, 0, 0⟩)
def bl : List String := ["len", "range", "int", "abs", "list", "tuple", "sum", "min", "max", "isinstance", "bool", "str", "gcd"]
def clS (i m : Nat) : Stmt := (classBody (topS i)).getD m (.Pass ⟨0, 0, 0, 0⟩)
abbrev KC (K : PySem.W.Frag) : Kls := kls K 2
def fnL : List He.DefD := [dd "ratio" (topS 4), dd "add" (topS 5), dd "less" (topS 6), dd "at_most" (topS 7), dd "added" (topS 8), dd "size" (topS 10), dd "place" (topS 11), dd "row_at" (topS 12), dd "heard_bounds" (topS 16), dd "way_count" (topS 17), dd "way_at" (topS 19), dd "all_ways" (topS 20), dd "outcome" (topS 21), dd "rows_apart" (topS 23), dd "never_allows" (topS 24), dd "allows" (topS 25), dd "row_bounds" (topS 27), dd "row_of" (topS 28), dd "copy_table" (topS 29), dd "ways_left" (topS 30), dd "is_mix" (topS 33), dd "row_chances" (topS 34), dd "agrees" (topS 35), dd "_law_is_integer" (topS 37), dd "_law_row" (topS 38), dd "_law_gcd" (topS 39), dd "_law_lowest" (topS 40), dd "_law_add" (topS 41), dd "_law_less" (topS 42), dd "_law_rows" (topS 43), dd "_law_place" (topS 44), dd "_law_size" (topS 45), dd "_law_count_ways" (topS 46), dd "_law_shape" (topS 47), dd "_law_plain" (topS 48), dd "_law_made" (topS 49), dd "_law_bounds" (topS 50), dd "_law_way_sizes" (topS 51), dd "_law_ways" (topS 52), dd "_law_outcome" (topS 53), dd "_law_setting" (topS 54), dd "_law_seen" (topS 55), dd "_law_sentence" (topS 56), dd "_law_allows" (topS 57), dd "_law_mix" (topS 58), dd "_law_row_chances" (topS 59), dd "_law_same" (topS 60), dd "_law_is_mix" (topS 61), dd "_law_within" (topS 62), dd "_law_agrees" (topS 63), dd "_law_table" (topS 64), dd "_law_changed" (topS 65), dd "law" (topS 66), di "House" (clS 15 0), di "Data" (clS 31 0)]
def factL (K : PySem.W.Frag) : List Bool := [gloB K "ratio",
  gloB K "add",
  gloB K "less",
  gloB K "at_most",
  gloB K "added",
  gloB K "size",
  gloB K "place",
  gloB K "row_at",
  gloB K "heard_bounds",
  gloB K "way_count",
  gloB K "way_at",
  gloB K "all_ways",
  gloB K "outcome",
  gloB K "rows_apart",
  gloB K "never_allows",
  gloB K "allows",
  gloB K "row_bounds",
  gloB K "row_of",
  gloB K "copy_table",
  gloB K "ways_left",
  gloB K "is_mix",
  gloB K "row_chances",
  gloB K "agrees",
  gloB K "_law_is_integer",
  gloB K "_law_row",
  gloB K "_law_gcd",
  gloB K "_law_lowest",
  gloB K "_law_add",
  gloB K "_law_less",
  gloB K "_law_rows",
  gloB K "_law_place",
  gloB K "_law_size",
  gloB K "_law_count_ways",
  gloB K "_law_shape",
  gloB K "_law_plain",
  gloB K "_law_made",
  gloB K "_law_bounds",
  gloB K "_law_way_sizes",
  gloB K "_law_ways",
  gloB K "_law_outcome",
  gloB K "_law_setting",
  gloB K "_law_seen",
  gloB K "_law_sentence",
  gloB K "_law_allows",
  gloB K "_law_mix",
  gloB K "_law_row_chances",
  gloB K "_law_same",
  gloB K "_law_is_mix",
  gloB K "_law_within",
  gloB K "_law_agrees",
  gloB K "_law_table",
  gloB K "_law_changed",
  gloB K "law",
  freeB K "len",
  freeB K "range",
  freeB K "int",
  freeB K "abs",
  freeB K "list",
  freeB K "tuple",
  freeB K "sum",
  freeB K "min",
  freeB K "max",
  freeB K "isinstance",
  freeB K "bool",
  freeB K "str",
  gcdB K,
  gloB K "ZERO",
  He.tupB K (Str.ofString "ZERO") [.int 0, .int 1],
  gloB K "ONE",
  He.tupB K (Str.ofString "ONE") [.int 1, .int 1],
  (He.Fa.int (Str.ofString "MOST_WAYS") (512)).ok K,
  clsB K 0,
  clsB K 1,
  kitB K 2]
def chkK (K : PySem.W.Frag) : Bool := (factL K).all id
theorem fact {K : PySem.W.Frag} (h : chkK K = true) (i : Nat) {b : Bool} (e : (factL K)[i]? = some b) : b = true := by
  have := List.all_eq_true.mp h b (List.mem_of_getElem? e)
  exact this
abbrev hk : PySem.W.Hook := hookY chkK fnL
def ob (s : PySem.W.SharedT) : He.AlD := obsYG chkK fnL (HandSHeadRun.getT s)
theorem ob_eq (s : PySem.W.SharedT) : ob s = hk.obs s.abs := obsYG_eq (HandSHeadRun.getT_eq s)
def looseL : List Str := (["ZERO", "ONE", "ratio", "add", "less", "at_most", "added", "size", "place", "row_at", "MOST_WAYS", "House", "heard_bounds", "way_count", "way_at", "all_ways", "outcome", "rows_apart", "never_allows", "allows", "row_bounds", "row_of", "copy_table", "ways_left", "Data", "is_mix", "row_chances", "agrees", "_law_is_integer", "_law_row"] : List Str) ++ (["_law_gcd", "_law_lowest", "_law_add", "_law_less", "_law_rows", "_law_place", "_law_size", "_law_count_ways", "_law_shape", "_law_plain", "_law_made", "_law_bounds", "_law_way_sizes", "_law_ways", "_law_outcome", "_law_setting", "_law_seen", "_law_sentence", "_law_allows", "_law_mix", "_law_row_chances", "_law_same", "_law_is_mix", "_law_within", "_law_agrees", "_law_table", "_law_changed"] : List Str)
set_option maxHeartbeats 0 in
theorem run (w : World) : HandSHeadRun.RunEqI RR (PySem.W.view RR.prog [0, 66]) hk ob 40000 looseL w := by
  unfold HandSHeadRun.RunEqI
  kernel_rfl
end Ev

set_option maxRecDepth 100000
set_option maxHeartbeats 4000000
namespace Ev
open PySem PySem.Spec PyProof.Rows L2
/-- ratio(p, q); names: 0 p, 1 q, 2 common -/
def ir_ratio : Ss := (.cons (.set (.nm 2) (.bi .gcd (.cons (.slot 0) (.cons (.slot 1) .nil)))) (.cons (.ite (.cmp .lt (.slot 1) (.cst (.int 0))) (.cons (.set (.nm 2) (.neg (.slot 2))) .nil) .nil) (.cons (.ret (.tup (.cons (.bin .fdiv (.slot 0) (.slot 2)) (.cons (.bin .fdiv (.slot 1) (.slot 2)) .nil)))) .nil)))
def d_ratio : DefI := ⟨2, 3, ir_ratio, none⟩
/-- add(a, b); names: 0 a, 1 b -/
def ir_add : Ss := (.cons (.ret (.call "ratio" (.cons (.bin .add (.bin .mul (.ix (.slot 0) (.cst (.int 0))) (.ix (.slot 1) (.cst (.int 1)))) (.bin .mul (.ix (.slot 1) (.cst (.int 0))) (.ix (.slot 0) (.cst (.int 1))))) (.cons (.bin .mul (.ix (.slot 0) (.cst (.int 1))) (.ix (.slot 1) (.cst (.int 1)))) .nil)))) .nil)
def d_add : DefI := ⟨2, 2, ir_add, none⟩
/-- sub(a, b); names: 0 a, 1 b -/
def ir_sub : Ss := (.cons (.ret (.call "ratio" (.cons (.bin .sub (.bin .mul (.ix (.slot 0) (.cst (.int 0))) (.ix (.slot 1) (.cst (.int 1)))) (.bin .mul (.ix (.slot 1) (.cst (.int 0))) (.ix (.slot 0) (.cst (.int 1))))) (.cons (.bin .mul (.ix (.slot 0) (.cst (.int 1))) (.ix (.slot 1) (.cst (.int 1)))) .nil)))) .nil)
def d_sub : DefI := ⟨2, 2, ir_sub, none⟩
/-- mul(a, b); names: 0 a, 1 b -/
def ir_mul : Ss := (.cons (.ret (.call "ratio" (.cons (.bin .mul (.ix (.slot 0) (.cst (.int 0))) (.ix (.slot 1) (.cst (.int 0)))) (.cons (.bin .mul (.ix (.slot 0) (.cst (.int 1))) (.ix (.slot 1) (.cst (.int 1)))) .nil)))) .nil)
def d_mul : DefI := ⟨2, 2, ir_mul, none⟩
/-- div(a, b); names: 0 a, 1 b -/
def ir_div : Ss := (.cons (.ret (.call "ratio" (.cons (.bin .mul (.ix (.slot 0) (.cst (.int 0))) (.ix (.slot 1) (.cst (.int 1)))) (.cons (.bin .mul (.ix (.slot 0) (.cst (.int 1))) (.ix (.slot 1) (.cst (.int 0)))) .nil)))) .nil)
def d_div : DefI := ⟨2, 2, ir_div, none⟩
/-- neg(a); names: 0 a -/
def ir_neg : Ss := (.cons (.ret (.tup (.cons (.neg (.ix (.slot 0) (.cst (.int 0)))) (.cons (.ix (.slot 0) (.cst (.int 1))) .nil)))) .nil)
def d_neg : DefI := ⟨1, 1, ir_neg, none⟩
/-- less(a, b); names: 0 a, 1 b -/
def ir_less : Ss := (.cons (.ret (.cmp .lt (.bin .mul (.ix (.slot 0) (.cst (.int 0))) (.ix (.slot 1) (.cst (.int 1)))) (.bin .mul (.ix (.slot 1) (.cst (.int 0))) (.ix (.slot 0) (.cst (.int 1)))))) .nil)
def d_less : DefI := ⟨2, 2, ir_less, none⟩
/-- at_most(a, b); names: 0 a, 1 b -/
def ir_at_most : Ss := (.cons (.ret (.cmp .le (.bin .mul (.ix (.slot 0) (.cst (.int 0))) (.ix (.slot 1) (.cst (.int 1)))) (.bin .mul (.ix (.slot 1) (.cst (.int 0))) (.ix (.slot 0) (.cst (.int 1)))))) .nil)
def d_at_most : DefI := ⟨2, 2, ir_at_most, none⟩
def ir_added_b1 : Ss := (.cons (.set (.nm 1) (.call "add" (.cons (.slot 1) (.cons (.slot 2) .nil)))) .nil)
/-- added(numbers); names: 0 numbers, 1 total, 2 x -/
def ir_added : Ss := (.cons (.set (.nm 1) (.glob "ZERO")) (.cons (.for (.nm 2) (.over (.slot 0)) ir_added_b1) (.cons (.ret (.slot 1)) .nil)))
def d_added : DefI := ⟨1, 3, ir_added, none⟩
def ir_dot_b1 : Ss := (.cons (.ite (.and (.cmp .ne (.ix (.slot 0) (.slot 3)) (.glob "ZERO")) (.cmp .ne (.ix (.slot 1) (.slot 3)) (.glob "ZERO"))) (.cons (.set (.nm 2) (.call "add" (.cons (.slot 2) (.cons (.call "mul" (.cons (.ix (.slot 0) (.slot 3)) (.cons (.ix (.slot 1) (.slot 3)) .nil))) .nil)))) .nil) .nil) .nil)
/-- dot(a, b); names: 0 a, 1 b, 2 total, 3 k -/
def ir_dot : Ss := (.cons (.set (.nm 2) (.glob "ZERO")) (.cons (.for (.nm 3) (.rng (.bi .len (.cons (.slot 0) .nil))) ir_dot_b1) (.cons (.ret (.slot 2)) .nil)))
def d_dot : DefI := ⟨2, 4, ir_dot, none⟩
end Ev

set_option maxRecDepth 100000
set_option maxHeartbeats 4000000
set_option exponentiation.threshold 200000
/-! The module of fractions: what its defs answer, over the rational numbers. -/
namespace Ev
open PySem PySem.Spec PyProof.Rows L2
/-- a fraction -/
def encQ (x : Rat) : D := .tup [.int x.num, .int x.den]
@[simp] theorem ix_Q0 {x} : ixD (encQ x) (.int 0) = some (.int x.num) := by simp [encQ]
@[simp] theorem ix_Q1 {x} : ixD (encQ x) (.int 1) = some (.int x.den) := by simp [encQ]
@[simp] theorem isi_Qt {x} : isiD .tup (encQ x) = true := rfl
@[simp] theorem isi_Ql {x} : isiD .lst (encQ x) = false := rfl
@[simp] theorem len_Q {x} : biD .len [encQ x] = some (.int 2) := by simp [encQ]
@[simp] theorem items_Q {x} : (encQ x).items = some [.int x.num, .int x.den] := rfl
@[simp] theorem lay_Q {x n} : (encQ x).lay (n + 1) = true := by simp [encQ, D.lay, D.lays]
@[simp] theorem eqv_Q {x y} : (encQ x).eqv (encQ y) = decide (x = y) := by
  simp only [encQ, D.eqv, D.eqvs]
  rw [Bool.eq_iff_iff]
  simp only [Bool.and_eq_true, beq_iff_eq, decide_eq_true_eq, and_true]
  constructor
  · rintro ⟨h, k⟩; exact Rat.ext h (by exact_mod_cast k)
  · rintro rfl; exact ⟨rfl, rfl⟩
@[simp] theorem cmp_Qeq {x y} : cmpD .eq (encQ x) (encQ y) = some (decide (x = y)) := by simp [cmpD]
@[simp] theorem cmp_Qne {x y} : cmpD .ne (encQ x) (encQ y) = some (!decide (x = y)) := by simp [cmpD]
/-- both integers are short -/
def Bd (n : Nat) (x : Rat) : Prop := x.num.natAbs < 2 ^ n ∧ x.den < 2 ^ n
theorem Bd.divInt {p q : Int} {n : Nat} (hq : q ≠ 0) (hp : p.natAbs < 2 ^ n) (k : q.natAbs < 2 ^ n) : Bd n (Rat.divInt p q) := by
  constructor
  · rw [Rat.num_divInt]
    refine Nat.lt_of_le_of_lt ?_ hp
    rw [Int.natAbs_ediv_of_dvd (Int.dvd_trans (Int.gcd_dvd_right ..) (Int.dvd_mul_left ..)), Int.natAbs_mul, Int.natAbs_sign_of_ne_zero hq, Nat.one_mul]
    exact Nat.div_le_self _ _
  · rw [Rat.den_divInt, if_neg hq]
    exact Nat.lt_of_le_of_lt (Nat.div_le_self _ _) k
theorem Bd.mono {n m : Nat} {x : Rat} (h : Bd n x) (k : n ≤ m) : Bd m x :=
  ⟨Nat.lt_of_lt_of_le h.1 (Nat.pow_le_pow_right (by decide) k), Nat.lt_of_lt_of_le h.2 (Nat.pow_le_pow_right (by decide) k)⟩
theorem den_ne (x : Rat) : (x.den : Int) ≠ 0 := by have := x.den_nz; omega
theorem add_divInt (x y : Rat) : Rat.divInt (x.num * y.den + y.num * x.den) (x.den * y.den) = x + y := by
  conv => rhs; rw [← Rat.num_divInt_den x, ← Rat.num_divInt_den y]
  rw [Rat.divInt_add_divInt _ _ (den_ne x) (den_ne y)]
theorem sub_divInt (x y : Rat) : Rat.divInt (x.num * y.den - y.num * x.den) (x.den * y.den) = x - y := by
  conv => rhs; rw [← Rat.num_divInt_den x, ← Rat.num_divInt_den y]
  rw [Rat.divInt_sub_divInt _ _ (den_ne x) (den_ne y)]
theorem mul_divInt (x y : Rat) : Rat.divInt (x.num * y.num) (x.den * y.den) = x * y := by
  conv => rhs; rw [← Rat.num_divInt_den x, ← Rat.num_divInt_den y]
  rw [Rat.divInt_mul_divInt]
theorem div_divInt (x y : Rat) : Rat.divInt (x.num * y.den) (x.den * y.num) = x / y := by
  rw [Rat.div_def, Rat.inv_def]
  conv => rhs; rw [← Rat.num_divInt_den x]
  rw [Rat.divInt_mul_divInt]
theorem Bd.add {n m : Nat} {x y : Rat} (h : Bd n x) (k : Bd m y) : Bd (n + m + 1) (x + y) := by
  rw [← add_divInt]
  have hd : ((x.den : Int) * y.den).natAbs < 2 ^ (n + m) := abs_mul_lt (n := n) (m := m) (by simpa using h.2) (by simpa using k.2)
  refine Bd.divInt (Int.mul_ne_zero (den_ne x) (den_ne y)) ?_ (Nat.lt_of_lt_of_le hd (Nat.pow_le_pow_right (by decide) (by omega)))
  exact abs_add_lt (abs_mul_lt h.1 (by simpa using k.2)) (by rw [Nat.add_comm]; exact abs_mul_lt k.1 (by simpa using h.2))
theorem Bd.sub {n m : Nat} {x y : Rat} (h : Bd n x) (k : Bd m y) : Bd (n + m + 1) (x - y) := by
  rw [← sub_divInt]
  have hd : ((x.den : Int) * y.den).natAbs < 2 ^ (n + m) := abs_mul_lt (n := n) (m := m) (by simpa using h.2) (by simpa using k.2)
  refine Bd.divInt (Int.mul_ne_zero (den_ne x) (den_ne y)) ?_ (Nat.lt_of_lt_of_le hd (Nat.pow_le_pow_right (by decide) (by omega)))
  exact abs_sub_lt (abs_mul_lt h.1 (by simpa using k.2)) (by rw [Nat.add_comm]; exact abs_mul_lt k.1 (by simpa using h.2))
theorem Bd.mul {n m : Nat} {x y : Rat} (h : Bd n x) (k : Bd m y) : Bd (n + m) (x * y) := by
  rw [← mul_divInt]
  exact Bd.divInt (Int.mul_ne_zero (den_ne x) (den_ne y)) (abs_mul_lt h.1 k.1) (abs_mul_lt (n := n) (m := m) (by simpa using h.2) (by simpa using k.2))
theorem Bd.neg {n : Nat} {x : Rat} (h : Bd n x) : Bd n (-x) := ⟨by simpa using h.1, by simpa using h.2⟩
theorem Bd.zero {n : Nat} (h : 0 < n) : Bd n 0 := ⟨by simpa using Nat.two_pow_pos n, by simpa using Nat.one_lt_two_pow (by omega)⟩
theorem num_ne {y : Rat} (h : y ≠ 0) : y.num ≠ 0 := fun e => h (by rwa [Rat.num_eq_zero] at e)
theorem Bd.div {n m : Nat} {x y : Rat} (h : Bd n x) (k : Bd m y) (hy : y ≠ 0) : Bd (n + m) (x / y) := by
  rw [← div_divInt]
  exact Bd.divInt (Int.mul_ne_zero (den_ne x) (num_ne hy)) (abs_mul_lt h.1 (by simpa using k.2)) (abs_mul_lt (n := n) (m := m) (by simpa using h.2) k.1)
/-! ### what each def promises -/
def S_ratio (F : List D → Res M) : Prop := ∀ p q : Int, q ≠ 0 → q.natAbs < 2 ^ 8900 → F [.int p, .int q] = .ok (.frz (encQ (Rat.divInt p q)))
def S_op (op : Rat → Rat → Rat) (F : List D → Res M) : Prop := ∀ x y : Rat, Bd 4000 x → Bd 4000 y → F [encQ x, encQ y] = .ok (.frz (encQ (op x y)))
abbrev S_add := S_op (· + ·)
abbrev S_sub := S_op (· - ·)
abbrev S_mul := S_op (· * ·)
def S_div (F : List D → Res M) : Prop := ∀ x y : Rat, Bd 4000 x → Bd 4000 y → y ≠ 0 → F [encQ x, encQ y] = .ok (.frz (encQ (x / y)))
def S_neg (F : List D → Res M) : Prop := ∀ x : Rat, F [encQ x] = .ok (.frz (encQ (-x)))
def S_less (F : List D → Res M) : Prop := ∀ x y : Rat, Bd 4000 x → Bd 4000 y → F [encQ x, encQ y] = .ok (.frz (.bl (decide (x < y))))
def S_at_most (F : List D → Res M) : Prop := ∀ x y : Rat, Bd 4000 x → Bd 4000 y → F [encQ x, encQ y] = .ok (.frz (.bl (decide (x ≤ y))))
section
variable {Φ : String → List D → Res M} {G : String → Option D} {W : Nat}
theorem s_ratio : S_ratio (evD Φ G W 2 3 ir_ratio) := by
  intro p q hq hl
  have hg : (Nat.gcd p.natAbs q.natAbs) ≠ 0 := by
    intro e; exact hq (Int.natAbs_eq_zero.mp (Nat.eq_zero_of_gcd_eq_zero_right e))
  have hgl : (Nat.gcd p.natAbs q.natAbs).log2 < 9000 := log_lt hg (Nat.lt_of_le_of_lt (Nat.gcd_le_right _ (by omega)) hl) (by decide)
  have h1 : ((Nat.gcd p.natAbs q.natAbs : Nat) : Int) ≠ 0 ∧ ((Nat.gcd p.natAbs q.natAbs : Nat) : Int).natAbs.log2 < 9000 := ⟨by omega, by simpa using hgl⟩
  have h2 : (-((Nat.gcd p.natAbs q.natAbs : Nat) : Int)) ≠ 0 ∧ (-((Nat.gcd p.natAbs q.natAbs : Nat) : Int)).natAbs.log2 < 9000 := ⟨by omega, by simpa using hgl⟩
  have e : encQ (Rat.divInt p q) = .tup [.int (q.sign * p / q.gcd p), .int ((q.natAbs / q.gcd p : Nat) : Int)] := by
    rw [encQ, Rat.num_divInt, Rat.den_divInt, if_neg hq]
  have gc : q.gcd p = Nat.gcd p.natAbs q.natAbs := by rw [Int.gcd_comm]; rfl
  have dp : ((Nat.gcd p.natAbs q.natAbs : Nat) : Int) ∣ p := Int.ofNat_dvd_left.mpr (Nat.gcd_dvd_left _ _)
  have dq : ((Nat.gcd p.natAbs q.natAbs : Nat) : Int) ∣ q := Int.ofNat_dvd_left.mpr (Nat.gcd_dvd_right _ _)
  rw [evD_eq (by rfl), e, gc]
  generalize hG : Nat.gcd p.natAbs q.natAbs = c at *
  by_cases hs : q < 0
  · simp [ir_ratio, hs, hG, binR_fdiv h2, Int.sign_eq_neg_one_of_neg hs]
    rw [Int.fdiv_eq_ediv_of_dvd (Int.neg_dvd.mpr dp), Int.fdiv_eq_ediv_of_dvd (Int.neg_dvd.mpr dq)]
    refine ⟨by rw [Int.ediv_neg, Int.neg_ediv_of_dvd dp], ?_⟩
    rw [Int.ediv_neg, ← Int.neg_ediv_of_dvd dq]
    congr 1; omega
  · simp [ir_ratio, hs, hG, binR_fdiv h1, Int.sign_eq_one_of_pos (show 0 < q by omega)]
    rw [Int.fdiv_eq_ediv_of_dvd dp, Int.fdiv_eq_ediv_of_dvd dq]
    refine ⟨rfl, ?_⟩
    congr 1; omega
theorem den_lt {x : Rat} {n : Nat} (h : Bd n x) : ((x.den : Int)).natAbs < 2 ^ n := by simpa using h.2
theorem s_add (hr : S_ratio (Φ "ratio")) : S_add (evD Φ G W 2 2 ir_add) := by
  intro x y hx hy
  rw [evD_eq (by rfl)]
  have h3 := hr (x.num * y.den + y.num * x.den) (x.den * y.den) (Int.mul_ne_zero (den_ne x) (den_ne y)) (Nat.lt_of_lt_of_le (abs_mul_lt (den_lt hx) (den_lt hy)) (Nat.pow_le_pow_right (by decide) (by decide)))
  rw [add_divInt] at h3
  simp [ir_add, binR_mul (mulOk_of hx.1 (den_lt hy) (by decide)), binR_mul (mulOk_of hy.1 (den_lt hx) (by decide)), binR_mul (mulOk_of (den_lt hx) (den_lt hy) (by decide)), h3]
theorem s_sub (hr : S_ratio (Φ "ratio")) : S_sub (evD Φ G W 2 2 ir_sub) := by
  intro x y hx hy
  rw [evD_eq (by rfl)]
  have h3 := hr (x.num * y.den - y.num * x.den) (x.den * y.den) (Int.mul_ne_zero (den_ne x) (den_ne y)) (Nat.lt_of_lt_of_le (abs_mul_lt (den_lt hx) (den_lt hy)) (Nat.pow_le_pow_right (by decide) (by decide)))
  rw [sub_divInt] at h3
  simp [ir_sub, binR_mul (mulOk_of hx.1 (den_lt hy) (by decide)), binR_mul (mulOk_of hy.1 (den_lt hx) (by decide)), binR_mul (mulOk_of (den_lt hx) (den_lt hy) (by decide)), h3]
theorem s_mul (hr : S_ratio (Φ "ratio")) : S_mul (evD Φ G W 2 2 ir_mul) := by
  intro x y hx hy
  rw [evD_eq (by rfl)]
  have h3 := hr (x.num * y.num) (x.den * y.den) (Int.mul_ne_zero (den_ne x) (den_ne y)) (Nat.lt_of_lt_of_le (abs_mul_lt (den_lt hx) (den_lt hy)) (Nat.pow_le_pow_right (by decide) (by decide)))
  rw [mul_divInt] at h3
  simp [ir_mul, binR_mul (mulOk_of hx.1 hy.1 (by decide)), binR_mul (mulOk_of (den_lt hx) (den_lt hy) (by decide)), h3]
theorem s_div (hr : S_ratio (Φ "ratio")) : S_div (evD Φ G W 2 2 ir_div) := by
  intro x y hx hy h0
  rw [evD_eq (by rfl)]
  have h3 := hr (x.num * y.den) (x.den * y.num) (Int.mul_ne_zero (den_ne x) (num_ne h0)) (Nat.lt_of_lt_of_le (abs_mul_lt (den_lt hx) hy.1) (Nat.pow_le_pow_right (by decide) (by decide)))
  rw [div_divInt] at h3
  simp [ir_div, binR_mul (mulOk_of hx.1 (den_lt hy) (by decide)), binR_mul (mulOk_of (den_lt hx) hy.1 (by decide)), h3]
theorem s_neg : S_neg (evD Φ G W 1 1 ir_neg) := by
  intro x
  rw [evD_eq (by rfl)]
  simp [ir_neg]
  simp [encQ]
theorem s_less : S_less (evD Φ G W 2 2 ir_less) := by
  intro x y hx hy
  rw [evD_eq (by rfl)]
  simp [ir_less, binR_mul (mulOk_of hx.1 (den_lt hy) (by decide)), binR_mul (mulOk_of hy.1 (den_lt hx) (by decide)), Rat.lt_iff]
theorem s_at_most : S_at_most (evD Φ G W 2 2 ir_at_most) := by
  intro x y hx hy
  rw [evD_eq (by rfl)]
  simp [ir_at_most, binR_mul (mulOk_of hx.1 (den_lt hy) (by decide)), binR_mul (mulOk_of hy.1 (den_lt hx) (by decide)), Rat.le_iff]
/-! ### sums -/
theorem sum_take_succ {xs : List Rat} {j : Nat} (h : j < xs.length) : (xs.take (j + 1)).sum = (xs.take j).sum + xs[j] := by
  rw [List.take_succ_eq_append_getElem h, List.sum_append]; simp [Rat.add_zero]
def Sums (xs : List Rat) : Prop := (∀ x ∈ xs, Bd 4000 x) ∧ ∀ k, Bd 4000 (xs.take k).sum
def S_added (F : List D → Res M) : Prop := ∀ xs : List Rat, Sums xs → F [.lst (xs.map encQ)] = .ok (.frz (encQ xs.sum))
theorem s_added (hG : G "ZERO" = some (encQ 0)) (ha : S_add (Φ "add")) : S_added (evD Φ G W 1 3 ir_added) := by
  intro xs h
  rw [evD_eq (by rfl)]
  obtain ⟨g', e, x, hx⟩ := forGo_ind (t := .nm 2) (f := fun g => evSs Φ G W ir_added_b1 g)
    (fun i g => ∃ x, g = [some (.frz (.lst (xs.map encQ))), some (.frz (encQ (xs.take i).sum)), x]) (xs.map encQ) 0 [some (.frz (.lst (xs.map encQ))), some (.frz (encQ 0)), none] ⟨none, by simp⟩ (by
      rintro j hj g ⟨x, rfl⟩
      have hj' : j < xs.length := by simpa using hj
      have := ha (xs.take j).sum xs[j] (h.2 _) (h.1 _ (List.getElem_mem ..))
      simp only [Nat.zero_add]
      refine ⟨_, ?_, some (.frz (encQ xs[j])), rfl⟩
      simp [ir_added_b1, this, sum_take_succ hj'])
  subst hx
  simp only [List.length_map, Nat.zero_add, List.take_length] at e
  simp [ir_added, hG, e]
def S_dot (F : List D → Res M) : Prop := ∀ xs ys : List Rat, xs.length = ys.length → xs.length < 1000000 → (∀ x ∈ xs, Bd 4000 x) → (∀ x ∈ ys, Bd 4000 x) → Sums (List.zipWith (· * ·) xs ys) → F [.lst (xs.map encQ), .lst (ys.map encQ)] = .ok (.frz (encQ (List.zipWith (· * ·) xs ys).sum))
theorem s_dot (hG : G "ZERO" = some (encQ 0)) (ha : S_add (Φ "add")) (hm : S_mul (Φ "mul")) : S_dot (evD Φ G W 2 4 ir_dot) := by
  intro xs ys hl hn h1 h2 h
  rw [evD_eq (by rfl)]
  generalize hp : List.zipWith (· * ·) xs ys = ps at *
  have hpl : ps.length = xs.length := by rw [← hp]; simp; omega
  obtain ⟨g', e, x, hx⟩ := forGo_ind (t := .nm 3) (f := fun g => evSs Φ G W ir_dot_b1 g)
    (fun i g => ∃ x, g = [some (.frz (.lst (xs.map encQ))), some (.frz (.lst (ys.map encQ))), some (.frz (encQ (ps.take i).sum)), x]) (rngD 0 xs.length) 0 [some (.frz (.lst (xs.map encQ))), some (.frz (.lst (ys.map encQ))), some (.frz (encQ 0)), none] ⟨none, by simp⟩ (by
      rintro j hj g ⟨x, rfl⟩
      have hj' : j < xs.length := by simpa using hj
      have hj2 : j < ys.length := by omega
      have hj3 : j < ps.length := by omega
      have e3 : ps[j] = xs[j] * ys[j] := by subst hp; simp
      have a1 := hm xs[j] ys[j] (h1 _ (List.getElem_mem ..)) (h2 _ (List.getElem_mem ..))
      have a2 := ha (ps.take j).sum (ps[j]) (h.2 _) (h.1 _ (List.getElem_mem ..))
      rw [rngD_get]
      simp only [bind_nm, Res.of_some, Res.bind_ok, List.set_cons_succ, List.set_cons_zero, Nat.zero_add]
      refine ⟨_, ?_, some (.frz (.int j)), rfl⟩
      rw [sum_take_succ hj3]
      by_cases b1 : xs[j] = 0
      · simp [ir_dot_b1, hG, at_map (f := encQ) rfl hj', b1, e3, Rat.zero_mul, Rat.add_zero, at_map (f := encQ) rfl hj2]
      · by_cases b2 : ys[j] = 0
        · simp [ir_dot_b1, hG, at_map (f := encQ) rfl hj', b1, b2, e3, Rat.mul_zero, Rat.add_zero, at_map (f := encQ) rfl hj2]
        · rw [e3] at a2
          simp [ir_dot_b1, hG, at_map (f := encQ) rfl hj', b1, b2, e3, at_map (f := encQ) rfl hj2, a1, a2])
  subst hx
  rw [rngD_len, Int.toNat_natCast, Nat.zero_add, List.take_of_length_le (by omega)] at e
  have hr : rngR (.int xs.length) = .ok (rngD 0 xs.length, []) := rngR_nat (by omega)
  simp -implicitDefEqProofs [ir_dot, hG, hr, e]
end
end Ev

set_option maxRecDepth 100000
set_option maxHeartbeats 4000000
namespace Ev
open PySem PySem.Spec PyProof.Rows L2
/-- _law_is_integer(_law_x); names: 0 _law_x -/
def ir_law_is_integer : Ss := (.cons (.ret (.and (.isi (.slot 0) (.int)) (.not (.isi (.slot 0) (.bool))))) .nil)
def d_law_is_integer : DefI := ⟨1, 1, ir_law_is_integer, none⟩
def ir_law_row_b1 : Ss := (.cons (.ite (.cmp .gt (.slot 4) (.cst (.int 0))) (.cons (.app 5 (.bin .mod (.bi .int (.cons (.slot 4) .nil)) (.cst (.int 1000)))) (.cons (.set (.nm 4) (.bin .fdiv (.slot 4) (.cst (.int 1000)))) .nil)) (.cons (.set (.nm 7) (.bin .mod (.bi .int (.cons (.bin .add (.bin .add (.bin .mul (.slot 3) (.cst (.int 48271))) (.bin .mul (.slot 6) (.cst (.int 69621)))) (.cst (.int 12345))) .nil)) (.cst (.int 2147483647)))) (.cons (.set (.nm 7) (.bin .mod (.bi .int (.cons (.bin .add (.bin .add (.bin .mul (.slot 7) (.slot 7)) (.bin .mul (.slot 7) (.cst (.int 16807)))) (.bin .mul (.slot 6) (.cst (.int 40692)))) .nil)) (.cst (.int 2147483399)))) (.cons (.app 5 (.bin .mod (.bin .fdiv (.slot 7) (.cst (.int 64))) (.cst (.int 1000)))) .nil)))) .nil)
/-- _law_row(_law_script, _law_place, _law_many); names: 0 _law_script, 1 _law_place, 2 _law_many, 3 _law_cell, 4 _law_rest, 5 _law_row_here, 6 _law_k, 7 _law_mixed -/
def ir_law_row : Ss := (.cons (.set (.nm 3) (.bin .add (.bin .mul (.cst (.int 7919)) (.slot 1)) (.cst (.int 5)))) (.cons (.ite (.cmp .lt (.slot 1) (.bi .len (.cons (.slot 0) .nil))) (.cons (.set (.nm 3) (.ix (.slot 0) (.slot 1))) .nil) .nil) (.cons (.set (.nm 4) (.bin .sub (.slot 3) (.bin .pow (.cst (.int 10)) (.cst (.int 18))))) (.cons (.set (.nm 5) (.lst .nil)) (.cons (.for (.nm 6) (.rng (.slot 2)) ir_law_row_b1) (.cons (.ret (.slot 5)) .nil))))))
def d_law_row : DefI := ⟨3, 8, ir_law_row, none⟩
end Ev

set_option maxRecDepth 100000
set_option maxHeartbeats 4000000
/-! The laws' small helpers. -/
namespace Ev
open PySem PySem.Spec PyProof.Rows L2
/-- natural numbers as data -/
def encN (r : List Nat) : List D := r.map fun (n : Nat) => D.int n
@[simp] theorem encN_len {r} : (encN r).length = r.length := by simp [encN]
theorem encN_at {r : List Nat} {i : Int} {j : Nat} (e : i = j) (h : j < r.length) : atI (encN r) i = some (.int (r[j] : Nat)) := by
  unfold encN; rw [at_map e h]
@[simp] theorem flats_N {r} : D.flats (encN r) = true := flats_map fun _ _ => by simp
theorem encN_snoc {r : List Nat} {n : Nat} : encN r ++ [.int n] = encN (r ++ [n]) := by simp [encN]
theorem rngD_N {n : Nat} : rngD 0 n = encN (List.range n) := by simp [rngD, encN]
/-- a comprehension over natural numbers -/
theorem compN {i : Nat} {c : Gm → Res Bool} {elt : Gm → Res (M × Tn)} {g : Gm} (l : List Nat) (p : Nat → Bool) (f : Nat → D) (hl : l.length < lim)
    (h : ∀ n ∈ l, c (g.set i (some (.frz (.int (n : Nat))))) = .ok (p n) ∧ (p n = true → ∃ m T, elt (g.set i (some (.frz (.int (n : Nat))))) = .ok (m, T) ∧ nrm (m, T) = [] ∧ m.toD = f n)) :
    compGo (.nm i) c elt (encN l) g = .ok ((l.filter p).map f) := by
  rw [compGo_eq (fun d => match d with | .int n => p n.toNat | _ => false) (fun d => match d with | .int n => f n.toNat | _ => .non) (encN l) (by simpa using hl)]
  · congr 1
    unfold encN
    rw [List.filter_map, List.map_map]
    rfl
  · intro d hd
    simp only [encN, List.mem_map] at hd
    obtain ⟨n, hn, rfl⟩ := hd
    obtain ⟨h1, h2⟩ := h n hn
    exact ⟨_, rfl, h1, h2⟩
theorem compN1 {i : Nat} {elt : Gm → Res (M × Tn)} {g : Gm} (l : List Nat) (f : Nat → D) (hl : l.length < lim)
    (h : ∀ n ∈ l, ∃ m T, elt (g.set i (some (.frz (.int (n : Nat))))) = .ok (m, T) ∧ nrm (m, T) = [] ∧ m.toD = f n) :
    compGo (.nm i) (fun _ => .ok true) elt (encN l) g = .ok (l.map f) := by
  rw [compN l (fun _ => true) f hl fun n hn => ⟨rfl, fun _ => h n hn⟩, List.filter_eq_self.mpr (by simp)]
theorem compON {i : Nat} {elt : Gm → Res (M × Tn)} {g : Gm} (l : List Nat) (f : Nat → M) (hl : l.length < lim)
    (h : ∀ n ∈ l, ∃ T, elt (g.set i (some (.frz (.int (n : Nat))))) = .ok (f n, T) ∧ nrm (f n, T) = []) :
    compOGo (.nm i) elt (encN l) g = .ok (l.map f) := by
  rw [compOGo_eq (fun d => match d with | .int n => f n.toNat | _ => .frz .non) (encN l) (by simpa using hl)]
  · congr 1
    unfold encN
    rw [List.map_map]
    rfl
  · intro d hd
    simp only [encN, List.mem_map] at hd
    obtain ⟨n, hn, rfl⟩ := hd
    obtain ⟨T, e⟩ := h n hn
    exact ⟨_, rfl, T, e⟩
def S_row (F : List D → Res M) : Prop := ∀ (ns : List Int) (p m : Nat), p < 1000 → m < 1000000 → ∃ r : List Nat, r.length = m ∧ (∀ x ∈ r, x < 1000) ∧ F [.rol (ns.map .int), .int p, .int m] = .ok (.fl (encN r))
def S_int (F : List D → Res M) : Prop := ∀ i : Int, F [.int i] = .ok (.frz (.bl true))
section
variable {Φ : String → List D → Res M} {G : String → Option D} {W : Nat}
theorem s_law_int : S_int (evD Φ G W 1 1 ir_law_is_integer) := by
  intro i; rw [evD_eq (by rfl)]; simp [ir_law_is_integer]
theorem s_law_row : S_row (evD Φ G W 3 8 ir_law_row) := by
  intro ns p m hp hm
  have loop : ∀ cell rest0 : Int, ∃ (rest : Int) (r : List Nat) (x y : Option M), r.length = m ∧ (∀ x ∈ r, x < 1000) ∧
      forGo (.nm 6) (fun g => evSs Φ G W ir_law_row_b1 g) (rngD 0 m) [some (.frz (.rol (ns.map .int))), some (.frz (.int p)), some (.frz (.int m)), some (.frz (.int cell)), some (.frz (.int rest0)), some (.fl []), none, none]
      = .ok (.nx [some (.frz (.rol (ns.map .int))), some (.frz (.int p)), some (.frz (.int m)), some (.frz (.int cell)), some (.frz (.int rest)), some (.fl (encN r)), x, y]) := by
    intro cell rest0
    obtain ⟨g', e, rest, r, x, y, hx, h1, h2⟩ := forGo_ind (t := .nm 6) (f := fun g => evSs Φ G W ir_law_row_b1 g)
      (fun i g => ∃ (rest : Int) (r : List Nat) (x y : Option M), g = [some (.frz (.rol (ns.map .int))), some (.frz (.int p)), some (.frz (.int m)), some (.frz (.int cell)), some (.frz (.int rest)), some (.fl (encN r)), x, y] ∧ r.length = i ∧ ∀ x ∈ r, x < 1000)
      (rngD 0 m) 0 [some (.frz (.rol (ns.map .int))), some (.frz (.int p)), some (.frz (.int m)), some (.frz (.int cell)), some (.frz (.int rest0)), some (.fl []), none, none]
      ⟨rest0, [], none, none, by simp [encN]⟩ (by
        rintro j hj g ⟨rest, r, x, y, rfl, h1, h2⟩
        have hj' : j < m := by simpa using hj
        have hr : r.length < lim := by unfold lim; omega
        rw [rngD_get]
        by_cases hs : 0 < rest
        · refine ⟨_, ?_, rest.fdiv 1000, r ++ [(rest % 1000).toNat], some (.frz (.int j)), y, rfl, by simp [h1], ?_⟩
          · simp [ir_law_row_b1, hs, binR_mod, hr, binR_fdiv (show (1000 : Int) ≠ 0 ∧ (1000 : Int).natAbs.log2 < 9000 by decide)]
            rw [show (D.int (rest % 1000)) = .int ((rest % 1000).toNat : Nat) by congr 1; omega, encN_snoc]
          · intro z hz
            rcases List.mem_append.mp hz with hz | hz
            · exact h2 z hz
            · simp at hz; omega
        · generalize hu : (cell * 48271 + (j : Int) * 69621 + 12345) % 2147483647 = u
          generalize hv : (u * u + u * 16807 + (j : Int) * 40692) % 2147483399 = v
          refine ⟨_, ?_, rest, r ++ [(v.fdiv 64 % 1000).toNat], some (.frz (.int j)), some (.frz (.int v)), rfl, by simp [h1], ?_⟩
          · have a1 : MulOk u u := MulOk.l (by omega)
            simp [ir_law_row_b1, hs, binR_mod, hr, binR_fdiv (show (64 : Int) ≠ 0 ∧ (64 : Int).natAbs.log2 < 9000 by decide), binR_mul (MulOk.r (i := cell) (j := 48271) (by decide)),
              binR_mul (MulOk.r (i := (j : Int)) (j := 69621) (by decide)), binR_mul (MulOk.r (i := (j : Int)) (j := 40692) (by decide)), hu, binR_mul a1, binR_mul (MulOk.r (i := u) (j := 16807) (by decide)), hv]
            generalize Int.fdiv _ 64 = q
            rw [show (D.int (q % 1000)) = .int ((q % 1000).toNat : Nat) by congr 1; omega, encN_snoc]
          · intro z hz
            rcases List.mem_append.mp hz with hz | hz
            · exact h2 z hz
            · simp only [List.mem_singleton] at hz
              generalize Int.fdiv _ 64 = q at hz
              omega)
    subst hx
    exact ⟨rest, r, x, y, by simpa using h1, h2, e⟩
  have hr : rngR (.int m) = .ok (rngD 0 m, []) := rngR_nat (by omega)
  have h10 : binR .pow (D.int 10, []) (D.int 18, []) = .ok (.frz (.int 1000000000000000000), []) := by rw [binR_pow (by decide)]; rfl
  by_cases hl : p < ns.length
  · obtain ⟨rest, r, x, y, h1, h2, e⟩ := loop ns[p] (ns[p] - 1000000000000000000)
    refine ⟨r, h1, h2, ?_⟩
    rw [evD_eq (by rfl)]
    simp -implicitDefEqProofs [ir_law_row, hl, h10, binR_mul (MulOk.l (i := 7919) (j := (p : Int)) (by decide)), hr, e, at_map (f := D.int) (i := p) rfl hl]
  · obtain ⟨rest, r, x, y, h1, h2, e⟩ := loop (7919 * p + 5) (7919 * p + 5 - 1000000000000000000)
    refine ⟨r, h1, h2, ?_⟩
    rw [evD_eq (by rfl)]
    simp -implicitDefEqProofs [ir_law_row, hl, h10, binR_mul (MulOk.l (i := 7919) (j := (p : Int)) (by decide)), hr, e]
end
end Ev

set_option maxRecDepth 100000
set_option maxHeartbeats 4000000
namespace Ev
open PySem PySem.Spec PyProof.Rows L2
def ir_size_b1 : Ss := (.cons (.set (.nm 1) (.bin .mul (.slot 1) (.slot 2))) .nil)
/-- size(bounds); names: 0 bounds, 1 many, 2 bound -/
def ir_size : Ss := (.cons (.set (.nm 1) (.cst (.int 1))) (.cons (.for (.nm 2) (.over (.slot 0)) ir_size_b1) (.cons (.ret (.slot 1)) .nil)))
def d_size : DefI := ⟨1, 3, ir_size, none⟩
def ir_place_b1 : Ss := (.cons (.set (.nm 2) (.bin .add (.bin .mul (.slot 2) (.ix (.slot 0) (.slot 3))) (.ix (.slot 1) (.slot 3)))) .nil)
/-- place(bounds, row); names: 0 bounds, 1 row, 2 at, 3 k -/
def ir_place : Ss := (.cons (.set (.nm 2) (.cst (.int 0))) (.cons (.for (.nm 3) (.rng (.bi .len (.cons (.slot 0) .nil))) ir_place_b1) (.cons (.ret (.slot 2)) .nil)))
def d_place : DefI := ⟨2, 4, ir_place, none⟩
def ir_row_at_b1 : Ss := (.cons (.set (.nm 4) (.ix (.slot 0) (.bin .sub (.bin .sub (.bi .len (.cons (.slot 0) .nil)) (.cst (.int 1))) (.slot 3)))) (.cons (.app 2 (.bin .mod (.slot 1) (.slot 4))) (.cons (.set (.nm 1) (.bin .fdiv (.slot 1) (.slot 4))) .nil)))
/-- row_at(bounds, at); names: 0 bounds, 1 at, 2 row, 3 k, 4 bound -/
def ir_row_at : Ss := (.cons (.set (.nm 2) (.lst .nil)) (.cons (.for (.nm 3) (.rng (.bi .len (.cons (.slot 0) .nil))) ir_row_at_b1) (.cons (.ret (.rev (.slot 2))) .nil)))
def d_row_at : DefI := ⟨2, 5, ir_row_at, none⟩
end Ev

set_option maxRecDepth 100000
set_option maxHeartbeats 4000000
/-! Rows of numbers below bounds. -/
namespace Ev
open PySem PySem.Spec PyProof.Rows L2
/-! ### plain -/
def prod (bs : List Nat) : Nat := bs.foldl (· * ·) 1
theorem prod_snoc {bs : List Nat} {b : Nat} : prod (bs ++ [b]) = prod bs * b := by simp [prod]
@[simp] theorem prod_nil : prod [] = 1 := rfl
def plcGo : Nat → List Nat → List Nat → Nat
  | a, b :: bs, x :: xs => plcGo (a * b + x) bs xs
  | a, _, _ => a
def plc (bs r : List Nat) : Nat := plcGo 0 bs r
theorem plcGo_snoc : ∀ {bs r : List Nat} {a b x : Nat}, bs.length = r.length → plcGo a (bs ++ [b]) (r ++ [x]) = plcGo a bs r * b + x
  | [], [], _, _, _, _ => rfl
  | _ :: bs, _ :: r, _, _, _, h => plcGo_snoc (bs := bs) (r := r) (by simpa using h)
theorem plc_snoc {bs r : List Nat} {b x : Nat} (h : bs.length = r.length) : plc (bs ++ [b]) (r ++ [x]) = plc bs r * b + x := plcGo_snoc h
def digs : List Nat → Nat → List Nat
  | [], _ => []
  | b :: bs, n => n % b :: digs bs (n / b)
def rowAt (bs : List Nat) (n : Nat) : List Nat := (digs bs.reverse n).reverse
@[simp] theorem rowAt_nil {n : Nat} : rowAt [] n = [] := rfl
theorem rowAt_snoc {bs : List Nat} {b n : Nat} : rowAt (bs ++ [b]) n = rowAt bs (n / b) ++ [n % b] := by simp [rowAt, digs]
theorem digs_len : ∀ {bs : List Nat} {n : Nat}, (digs bs n).length = bs.length
  | [], _ => rfl
  | _ :: _, _ => by simp [digs, digs_len]
@[simp] theorem rowAt_len {bs : List Nat} {n : Nat} : (rowAt bs n).length = bs.length := by simp [rowAt, digs_len]
theorem snocRec {P : List Nat → Prop} (h0 : P []) (h1 : ∀ bs b, P bs → P (bs ++ [b])) (bs : List Nat) : P bs := by
  have : ∀ rs : List Nat, P rs.reverse := by
    intro rs
    induction rs with
    | nil => exact h0
    | cons r rs ih => rw [List.reverse_cons]; exact h1 _ _ ih
  simpa using this bs.reverse
theorem plc_rowAt (bs : List Nat) : ∀ n, n < prod bs → plc bs (rowAt bs n) = n := by
  induction bs using snocRec with
  | h0 => intro n h; simp at h; subst h; rfl
  | h1 bs b ih =>
    intro n h
    rw [prod_snoc] at h
    rw [rowAt_snoc, plc_snoc (by simp), ih _ (Nat.div_lt_of_lt_mul (by rwa [Nat.mul_comm]))]
    rw [Nat.mul_comm]; exact Nat.div_add_mod n b
theorem rowAt_lt (bs : List Nat) : ∀ n, (∀ b ∈ bs, 0 < b) → ∀ k (h : k < bs.length), (rowAt bs n)[k]'(by simpa using h) < bs[k] := by
  induction bs using snocRec with
  | h0 => intro n _ k h; simp at h
  | h1 bs b ih =>
    intro n hb k h
    simp only [rowAt_snoc]
    rw [List.getElem_append, List.getElem_append]
    by_cases hk : k < bs.length
    · simp only [rowAt_len, hk, dif_pos]
      exact ih _ (fun b hb' => hb b (by simp [hb'])) k hk
    · simp only [rowAt_len, hk, dif_neg, not_false_eq_true]
      simp at h
      have : k - bs.length = 0 := by omega
      simp [this]
      exact Nat.mod_lt _ (hb b (by simp))
/-- all rows, the first number going slowest -/
def rowsOf (bs : List Nat) : List (List Nat) := bs.foldl (fun found b => found.flatMap fun one => (List.range b).map fun k => one ++ [k]) [[]]
@[simp] theorem rowsOf_nil : rowsOf [] = [[]] := rfl
theorem rowsOf_snoc {bs : List Nat} {b : Nat} : rowsOf (bs ++ [b]) = (rowsOf bs).flatMap fun one => (List.range b).map fun k => one ++ [k] := by simp [rowsOf]
theorem rowsOf_eq (bs : List Nat) : rowsOf bs = (List.range (prod bs)).map (rowAt bs) := by
  induction bs using snocRec with
  | h0 => rfl
  | h1 bs b ih =>
    rw [rowsOf_snoc, ih, prod_snoc]
    generalize prod bs = m
    induction m with
    | zero => simp
    | succ m ihm =>
      rw [List.range_succ, List.map_append, List.flatMap_append, ihm, Nat.succ_mul, List.range_add, List.map_append]
      congr 1
      simp only [List.map_cons, List.map_nil, List.flatMap_cons, List.flatMap_nil, List.append_nil, List.map_map]
      apply List.map_congr_left
      intro k hk
      have hk := List.mem_range.mp hk
      simp only [Function.comp, rowAt_snoc]
      rw [show (m * b + k) / b = m by rw [Nat.mul_comm, Nat.mul_add_div (by omega), Nat.div_eq_of_lt hk]; omega, show (m * b + k) % b = k by rw [Nat.mul_comm, Nat.mul_add_mod, Nat.mod_eq_of_lt hk]]
@[simp] theorem rowsOf_len {bs : List Nat} : (rowsOf bs).length = prod bs := by rw [rowsOf_eq]; simp
theorem rowsOf_get {bs : List Nat} {i : Nat} (h : i < (rowsOf bs).length) : (rowsOf bs)[i] = rowAt bs i := by
  simp only [rowsOf_eq]; simp
/-! ### the defs -/
def Small (bs : List Nat) : Prop := (∀ b ∈ bs, 0 < b ∧ b < 2 ^ 60) ∧ bs.length < 1000000
def S_size (F : List D → Res M) : Prop := ∀ bs, Small bs → F [.lst (encN bs)] = .ok (.frz (.int (prod bs : Nat)))
def S_place (F : List D → Res M) : Prop := ∀ bs r, Small bs → r.length = bs.length → ∀ d, (d = .lst (encN r) ∨ d = .tup (encN r)) → F [.lst (encN bs), d] = .ok (.frz (.int (plc bs r : Nat)))
def S_row_at (F : List D → Res M) : Prop := ∀ bs n, Small bs → F [.lst (encN bs), .int (n : Nat)] = .ok (.fl (encN (rowAt bs n)))
theorem take_snoc {α : Type} {l : List α} {j : Nat} (h : j < l.length) : l.take (j + 1) = l.take j ++ [l[j]] := List.take_succ_eq_append_getElem h
theorem MulOk.b {i : Int} {b : Nat} (h : b < 2 ^ 60) : MulOk i b := MulOk.r (by simpa using h)
section
variable {Φ : String → List D → Res M} {G : String → Option D} {W : Nat}
theorem encN_get {r : List Nat} {j : Nat} (h : j < (encN r).length) : (encN r)[j] = .int (r[j]'(by simpa using h) : Nat) := by simp [encN]
theorem s_size : S_size (evD Φ G W 1 3 ir_size) := by
  intro bs hb
  obtain ⟨g', e, x, hx⟩ := forGo_ind (t := .nm 2) (f := fun g => evSs Φ G W ir_size_b1 g)
    (fun i g => ∃ x, g = [some (.frz (.lst (encN bs))), some (.frz (.int (prod (bs.take i) : Nat))), x]) (encN bs) 0 [some (.frz (.lst (encN bs))), some (.frz (.int 1)), none] ⟨none, by simp⟩ (by
      rintro j hj g ⟨x, rfl⟩
      have hj' : j < bs.length := by simpa using hj
      refine ⟨_, ?_, some (.frz (.int (bs[j] : Nat))), rfl⟩
      rw [encN_get, Nat.zero_add, take_snoc hj', prod_snoc]
      simp [ir_size_b1, binR_mul (MulOk.b (hb.1 bs[j] (List.getElem_mem _)).2)])
  subst hx
  simp only [encN_len, Nat.zero_add, List.take_length] at e
  rw [evD_eq (by rfl)]
  simp -implicitDefEqProofs [ir_size, e]
theorem s_place : S_place (evD Φ G W 2 4 ir_place) := by
  intro bs r hb hl d hd
  have hix : ∀ j (h : j < r.length), ixD d (.int (j : Nat)) = some (.int (r[j] : Nat)) := by
    rintro j h; rcases hd with rfl | rfl <;> simp [encN_at (r := r) rfl h]
  obtain ⟨g', e, x, hx⟩ := forGo_ind (t := .nm 3) (f := fun g => evSs Φ G W ir_place_b1 g)
    (fun i g => ∃ x, g = [some (.frz (.lst (encN bs))), some (.frz d), some (.frz (.int (plc (bs.take i) (r.take i) : Nat))), x]) (rngD 0 bs.length) 0 [some (.frz (.lst (encN bs))), some (.frz d), some (.frz (.int 0)), none] ⟨none, by simp [plc, plcGo]⟩ (by
      rintro j hj g ⟨x, rfl⟩
      have hj' : j < bs.length := by simpa using hj
      have hj2 : j < r.length := by omega
      refine ⟨_, ?_, some (.frz (.int j)), rfl⟩
      rw [rngD_get, Nat.zero_add, take_snoc hj', take_snoc hj2, plc_snoc (by simp; omega)]
      simp [ir_place_b1, encN_at (r := bs) rfl hj', hix j hj2, binR_mul (MulOk.b (hb.1 bs[j] (List.getElem_mem _)).2)])
  subst hx
  simp only [rngD_len, Int.toNat_natCast, Nat.zero_add, List.take_length, List.take_of_length_le (Nat.le_of_eq hl)] at e
  rw [evD_eq (by rfl)]
  have hr : rngR (.int bs.length) = .ok (rngD 0 bs.length, []) := rngR_nat (by have := hb.2; omega)
  simp -implicitDefEqProofs [ir_place, hr, e]
/-- the quotient behind the first digits -/
def quo : List Nat → Nat → Nat
  | [], n => n
  | b :: bs, n => quo bs (n / b)
theorem quo_snoc : ∀ {bs : List Nat} {b n : Nat}, quo (bs ++ [b]) n = quo bs n / b
  | [], _, _ => rfl
  | _ :: bs, _, _ => quo_snoc (bs := bs)
theorem digs_snoc : ∀ {bs : List Nat} {b n : Nat}, digs (bs ++ [b]) n = digs bs n ++ [quo bs n % b]
  | [], _, _ => rfl
  | _ :: bs, _, _ => by simp only [List.cons_append, digs, quo]; rw [digs_snoc (bs := bs)]
theorem s_row_at : S_row_at (evD Φ G W 2 5 ir_row_at) := by
  intro bs n hb
  obtain ⟨g', e, x, y, hx⟩ := forGo_ind (t := .nm 3) (f := fun g => evSs Φ G W ir_row_at_b1 g)
    (fun i g => ∃ x y, g = [some (.frz (.lst (encN bs))), some (.frz (.int (quo (bs.reverse.take i) n : Nat))), some (.fl (encN (digs (bs.reverse.take i) n))), x, y]) (rngD 0 bs.length) 0 [some (.frz (.lst (encN bs))), some (.frz (.int n)), some (.fl []), none, none] ⟨none, none, by simp [quo, digs, encN]⟩ (by
      rintro j hj g ⟨x, y, rfl⟩
      have hj' : j < bs.length := by simpa using hj
      have hj2 : j < bs.reverse.length := by simpa using hj'
      have e1 : bs.reverse[j] = bs[bs.length - 1 - j] := by simp
      have hc := hb.1 (bs[bs.length - 1 - j]) (List.getElem_mem _)
      have hl : (digs (bs.reverse.take j) n).length < lim := by rw [digs_len]; simp; have := hb.2; unfold lim; omega
      have hf : ((bs[bs.length - 1 - j] : Nat) : Int) ≠ 0 ∧ ((bs[bs.length - 1 - j] : Nat) : Int).natAbs.log2 < 9000 := ⟨by omega, by simpa using log_lt (by omega) hc.2 (by decide)⟩
      refine ⟨_, ?_, some (.frz (.int j)), some (.frz (.int (bs[bs.length - 1 - j] : Nat))), rfl⟩
      rw [rngD_get, Nat.zero_add, take_snoc hj2, quo_snoc, digs_snoc, e1]
      simp [ir_row_at_b1, encN_at (r := bs) (i := (bs.length : Int) - 1 - j) (j := bs.length - 1 - j) (by omega) (by omega), hl, binR_mod (show 0 < ((bs[bs.length - 1 - j] : Nat) : Int) by omega), binR_fdiv hf]
      simp [encN]
      rw [Int.fdiv_eq_ediv_of_nonneg _ (by omega)])
  subst hx
  have ht : bs.reverse.take (0 + (rngD 0 (bs.length : Int)).length) = bs.reverse := List.take_of_length_le (by simp)
  rw [ht] at e
  rw [evD_eq (by rfl)]
  have hr : rngR (.int bs.length) = .ok (rngD 0 bs.length, []) := rngR_nat (by have := hb.2; omega)
  simp -implicitDefEqProofs [ir_row_at, hr, e, rowAt]
  simp [encN]
end
end Ev

set_option maxRecDepth 100000
set_option maxHeartbeats 4000000
namespace Ev
open PySem PySem.Spec PyProof.Rows L2
def ir_law_same_b1 : Ss := (.cons (.ite (.not (.call "_law_same" (.cons (.ix (.slot 0) (.slot 2)) (.cons (.ix (.slot 1) (.slot 2)) .nil)))) (.cons (.ret (.cst (.bl false))) .nil) .nil) .nil)
/-- _law_same(_law_actual, _law_due); names: 0 _law_actual, 1 _law_due, 2 _law_k -/
def ir_law_same : Ss := (.cons (.ite (.or (.isi (.slot 1) (.lst)) (.isi (.slot 1) (.tup))) (.cons (.ite (.or (.cmp .ne (.isi (.slot 0) (.lst)) (.isi (.slot 1) (.lst))) (.cmp .ne (.isi (.slot 0) (.tup)) (.isi (.slot 1) (.tup)))) (.cons (.ret (.cst (.bl false))) .nil) .nil) (.cons (.ite (.cmp .ne (.bi .len (.cons (.slot 0) .nil)) (.bi .len (.cons (.slot 1) .nil))) (.cons (.ret (.cst (.bl false))) .nil) .nil) (.cons (.for (.nm 2) (.rng (.bi .len (.cons (.slot 1) .nil))) ir_law_same_b1) (.cons (.ret (.cst (.bl true))) .nil)))) .nil) (.cons (.ite (.isi (.slot 1) (.bool)) (.cons (.ret (.and (.isi (.slot 0) (.bool)) (.cmp .eq (.slot 0) (.slot 1)))) .nil) .nil) (.cons (.ite (.isi (.slot 1) (.int)) (.cons (.ret (.and (.call "_law_is_integer" (.cons (.slot 0) .nil)) (.cmp .eq (.slot 0) (.slot 1)))) .nil) .nil) (.cons (.ret (.and (.isi (.slot 0) (.str)) (.cmp .eq (.slot 0) (.slot 1)))) .nil))))
def d_law_same : DefI := ⟨2, 3, ir_law_same, none⟩
end Ev

set_option maxRecDepth 100000
set_option maxHeartbeats 4000000
/-! The laws' comparison: what is the same data is found the same. -/
namespace Ev
open PySem PySem.Spec PyProof.Rows L2
/-- numbers, truth values and texts, and lists and tuples of these, so deep at most -/
inductive Pl : Nat → D → Prop
  | bl {n b} : Pl n (.bl b)
  | int {n i} : Pl n (.int i)
  | str {n x} : Pl n (.str x)
  | lst {n ds} : ds.length < 1000000 → (∀ d ∈ ds, Pl n d) → Pl (n + 1) (.lst ds)
  | tup {n ds} : ds.length < 1000000 → (∀ d ∈ ds, Pl n d) → Pl (n + 1) (.tup ds)
def S_same (n : Nat) (F : List D → Res M) : Prop := ∀ d, Pl n d → F [d, d] = .ok (.frz (.bl true))
@[simp] theorem isi_isl {i} : isiD .lst (.int i) = false := rfl
@[simp] theorem isi_str_b {i} : isiD .bool (.str i) = false := rfl
section
variable {Φ : String → List D → Res M} {G : String → Option D} {W : Nat}
theorem same_loop {n : Nat} (hs : S_same n (Φ "_law_same")) (d : D) (ds : List D) (hd : ∀ x ∈ ds, Pl n x) (hix : ∀ j (h : j < ds.length), ixD d (.int (j : Nat)) = some ds[j]) :
    ∃ x, forGo (.nm 2) (fun g => evSs Φ G W ir_law_same_b1 g) (rngD 0 ds.length) [some (.frz d), some (.frz d), none] = .ok (.nx [some (.frz d), some (.frz d), x]) := by
  obtain ⟨g', e, x, hx⟩ := forGo_ind (t := .nm 2) (f := fun g => evSs Φ G W ir_law_same_b1 g)
    (fun i g => ∃ x, g = [some (.frz d), some (.frz d), x]) (rngD 0 ds.length) 0 [some (.frz d), some (.frz d), none] ⟨none, rfl⟩ (by
      rintro j hj g ⟨x, rfl⟩
      have hj' : j < ds.length := by simpa using hj
      refine ⟨_, ?_, some (.frz (.int j)), rfl⟩
      rw [rngD_get]
      simp [ir_law_same_b1, hix j hj', hs _ (hd _ (List.getElem_mem hj'))])
  subst hx
  exact ⟨x, e⟩
theorem s_law_same0 (hi : S_int (Φ "_law_is_integer")) (d : D) (h : (∃ b, d = .bl b) ∨ (∃ b, d = .int b) ∨ (∃ b, d = .str b)) : evD Φ G W 2 3 ir_law_same [d, d] = .ok (.frz (.bl true)) := by
  rw [evD_eq (by rfl)]
  rcases h with ⟨b, rfl⟩ | ⟨b, rfl⟩ | ⟨b, rfl⟩
  · simp [ir_law_same]
  · simp [ir_law_same, hi b]
  · simp [ir_law_same]
    simp [isiD, cmpD, D.sc, D.eqv]
theorem s_law_same (n : Nat) (hi : S_int (Φ "_law_is_integer")) (hs : ∀ m, n = m + 1 → S_same m (Φ "_law_same")) : S_same n (evD Φ G W 2 3 ir_law_same) := by
  intro d hd
  cases hd with
  | bl => exact s_law_same0 hi _ (.inl ⟨_, rfl⟩)
  | int => exact s_law_same0 hi _ (.inr (.inl ⟨_, rfl⟩))
  | str => exact s_law_same0 hi _ (.inr (.inr ⟨_, rfl⟩))
  | @lst m ds hl hd =>
    obtain ⟨x, e⟩ := same_loop (G := G) (W := W) (hs m rfl) (.lst ds) ds hd (fun j h => by rw [ix_lst, at_nat rfl h])
    have hr : rngR (.int ds.length) = .ok (rngD 0 ds.length, []) := rngR_nat (by omega)
    rw [evD_eq (by rfl)]
    simp -implicitDefEqProofs [ir_law_same, hr, e]
  | @tup m ds hl hd =>
    obtain ⟨x, e⟩ := same_loop (G := G) (W := W) (hs m rfl) (.tup ds) ds hd (fun j h => by rw [ix_tup, at_nat rfl h])
    have hr : rngR (.int ds.length) = .ok (rngD 0 ds.length, []) := rngR_nat (by omega)
    rw [evD_eq (by rfl)]
    simp -implicitDefEqProofs [ir_law_same, hr, e]
end
theorem Pl.N {n : Nat} {r : List Nat} (h : r.length < 1000000) : Pl (n + 1) (.lst (encN r)) := .lst (by simpa using h) (by
  intro d hd; simp [encN] at hd; obtain ⟨a, _, rfl⟩ := hd; exact .int)
end Ev

set_option maxRecDepth 100000
set_option maxHeartbeats 4000000
namespace Ev
open PySem PySem.Spec PyProof.Rows L2
def ir_House_e1 : E := .bi .lst (.cons (.slot 4) .nil)
def ir_House_e2 : E := .bi .lst (.cons (.slot 4) .nil)
/-- class House; names: 0 self, 1 names, 2 words, 3 heard, 4 row -/
def es_House : List E := [.bi .lst (.cons (.slot 1) .nil), .comp ir_House_e1 (.nm 4) (.over (.slot 2)) .no, .comp ir_House_e2 (.nm 4) (.over (.slot 3)) .no]
def d_House : DefI := ⟨3, 5, .nil, some (0, es_House)⟩
def ir_law_size_b1 : Ss := (.cons (.set (.nm 1) (.bin .mul (.slot 1) (.slot 2))) .nil)
/-- _law_size(_law_bounds_here); names: 0 _law_bounds_here, 1 _law_many, 2 _law_bound -/
def ir_law_size : Ss := (.cons (.set (.nm 1) (.cst (.int 1))) (.cons (.for (.nm 2) (.over (.slot 0)) ir_law_size_b1) (.cons (.ret (.slot 1)) .nil)))
def d_law_size : DefI := ⟨1, 3, ir_law_size, none⟩
def ir_law_count_ways_e1 : E := .ix (.slot 0) (.slot 5)
def ir_law_count_ways_b1 : Ss := (.cons (.set (.nm 2) (.bin .mul (.slot 2) (.ix (.slot 0) (.slot 3)))) .nil)
def ir_law_count_ways_b2 : Ss := (.cons (.for (.nm 4) (.rng (.call "_law_size" (.cons (.comp ir_law_count_ways_e1 (.nm 5) (.over (.ix (.slot 1) (.slot 3))) .no) .nil))) ir_law_count_ways_b1) .nil)
/-- _law_count_ways(_law_counts, _law_heard); names: 0 _law_counts, 1 _law_heard, 2 _law_many, 3 _law_v, 4 _law_n, 5 _law_u -/
def ir_law_count_ways : Ss := (.cons (.set (.nm 2) (.cst (.int 1))) (.cons (.for (.nm 3) (.rng (.bi .len (.cons (.slot 0) .nil))) ir_law_count_ways_b2) (.cons (.ret (.slot 2)) .nil)))
def d_law_count_ways : DefI := ⟨2, 6, ir_law_count_ways, none⟩
def ir_law_shape_b1 : Ss := (.cons (.set (.nm 6) (.bin .mod (.bi .int (.cons (.bin .add (.ix (.slot 3) (.cst (.int 31))) (.slot 9)) .nil)) (.slot 4))) (.cons (.ite (.cmp .gt (.call "_law_count_ways" (.cons (.slot 5) (.cons (.slot 7) .nil))) (.slot 2)) (.cons (.ite (.ix (.slot 7) (.slot 6)) (.cons (.popB 7 (.slot 6) (.bin .mod (.bi .int (.cons (.ix (.slot 3) (.bin .add (.cst (.int 32)) (.slot 6))) .nil)) (.bi .len (.cons (.ix (.slot 7) (.slot 6)) .nil)))) .nil) (.cons (.seti 5 (.slot 6) (.cst (.int 2))) .nil)) .nil) .nil) .nil))
def ir_law_shape_e1 : E := .slot 8
def ir_law_shape_o1 : E := .cmp .gt (.bin .mod (.bi .int (.cons (.ix (.slot 3) (.bin .add (.bin .add (.cst (.int 6)) (.bin .mul (.cst (.int 5)) (.slot 6))) (.slot 8))) .nil)) (.cst (.int 3))) (.cst (.int 0))
def ir_law_shape_e2 : E := .comp ir_law_shape_e1 (.nm 8) (.rng (.slot 6)) (.yes ir_law_shape_o1)
def ir_law_shape_e3 : E := .bin .add (.cst (.int 2)) (.bi .int (.cons (.cmp .eq (.bin .mod (.bi .int (.cons (.ix (.slot 3) (.bin .add (.cst (.int 1)) (.slot 6))) .nil)) (.cst (.int 4))) (.cst (.int 1))) .nil))
/-- _law_shape(_law_script, _law_place, _law_cap); names: 0 _law_script, 1 _law_place, 2 _law_cap, 3 _law_row_here, 4 _law_variables, 5 _law_counts, 6 _law_v, 7 _law_heard, 8 _law_u, 9 _law_turn -/
def ir_law_shape : Ss := (.cons (.set (.nm 3) (.call "_law_row" (.cons (.slot 0) (.cons (.slot 1) (.cons (.cst (.int 40)) .nil))))) (.cons (.set (.nm 4) (.ix (.lst (.cons (.cst (.int 1)) (.cons (.cst (.int 2)) (.cons (.cst (.int 3)) (.cons (.cst (.int 2)) (.cons (.cst (.int 3)) (.cons (.cst (.int 4)) (.cons (.cst (.int 5)) .nil)))))))) (.bin .mod (.bi .int (.cons (.ix (.slot 3) (.cst (.int 0))) .nil)) (.cst (.int 7))))) (.cons (.set (.nm 5) (.comp ir_law_shape_e3 (.nm 6) (.rng (.slot 4)) .no)) (.cons (.set (.nm 7) (.compO ir_law_shape_e2 (.nm 6) (.rng (.slot 4)))) (.cons (.for (.nm 9) (.rng (.cst (.int 30))) ir_law_shape_b1) (.cons (.ret (.tup (.cons (.slot 5) (.cons (.slot 7) .nil)))) .nil))))))
def d_law_shape : DefI := ⟨3, 10, ir_law_shape, none⟩
def ir_law_plain_e1 : E := .sl (.slot 3) .no (.yes (.slot 4))
/-- _law_plain(_law_counts, _law_heard); names: 0 _law_counts, 1 _law_heard, 2 _law_names, 3 _law_words, 4 _law_many -/
def ir_law_plain : Ss := (.cons (.set (.nm 2) (.lst (.cons (.cst (.str "a")) (.cons (.cst (.str "b")) (.cons (.cst (.str "c")) (.cons (.cst (.str "d")) (.cons (.cst (.str "e")) .nil))))))) (.cons (.set (.nm 3) (.lst (.cons (.cst (.str "x")) (.cons (.cst (.str "y")) (.cons (.cst (.str "z")) .nil))))) (.cons (.ret (.tup (.cons (.sl (.slot 2) .no (.yes (.bi .len (.cons (.slot 0) .nil)))) (.cons (.comp ir_law_plain_e1 (.nm 4) (.over (.slot 0)) .no) (.cons (.slot 1) .nil))))) .nil)))
def d_law_plain : DefI := ⟨2, 5, ir_law_plain, none⟩
def ir_law_made_e1 : E := .bi .lst (.cons (.slot 4) .nil)
def ir_law_made_e2 : E := .bi .lst (.cons (.slot 4) .nil)
/-- _law_made(_law_house); names: 0 _law_house, 1 _law_names, 2 _law_words, 3 _law_heard, 4 _law_one -/
def ir_law_made : Ss := (.cons (.set (.tp [1, 2, 3]) (.slot 0)) (.cons (.ret (.call "House" (.cons (.bi .lst (.cons (.slot 1) .nil)) (.cons (.comp ir_law_made_e2 (.nm 4) (.over (.slot 2)) .no) (.cons (.comp ir_law_made_e1 (.nm 4) (.over (.slot 3)) .no) .nil))))) .nil))
def d_law_made : DefI := ⟨1, 5, ir_law_made, none⟩
/-- _law_same_house(_law_actual, _law_house); names: 0 _law_actual, 1 _law_house -/
def ir_law_same_house : Ss := (.cons (.ite (.not (.isi (.slot 0) (.cls 0))) (.cons (.ret (.cst (.bl false))) .nil) .nil) (.cons (.ret (.and (.call "_law_same" (.cons (.fld (.slot 0) 0 0) (.cons (.ix (.slot 1) (.cst (.int 0))) .nil))) (.and (.call "_law_same" (.cons (.fld (.slot 0) 0 1) (.cons (.ix (.slot 1) (.cst (.int 1))) .nil))) (.call "_law_same" (.cons (.fld (.slot 0) 0 2) (.cons (.ix (.slot 1) (.cst (.int 2))) .nil)))))) .nil))
def d_law_same_house : DefI := ⟨2, 2, ir_law_same_house, none⟩
end Ev

set_option maxRecDepth 100000
set_option maxHeartbeats 4000000
/-! Houses as the laws draw them: counts of words, variables that are heard. -/
namespace Ev
open PySem PySem.Spec PyProof.Rows L2
/-- lists of numbers as data -/
def encR (r : List (List Nat)) : List D := r.map fun x => .lst (encN x)
@[simp] theorem encR_len {r} : (encR r).length = r.length := by simp [encR]
theorem encR_at {r : List (List Nat)} {i : Int} {j : Nat} (e : i = j) (h : j < r.length) : atI (encR r) i = some (.lst (encN r[j])) := by
  unfold encR; rw [at_map e h]
theorem encR_get {r : List (List Nat)} {j : Nat} (h : j < (encR r).length) : (encR r)[j] = .lst (encN (r[j]'(by simpa using h))) := by simp [encR]
/-- how many words the heard variables have -/
def bnds (cs h : List Nat) : List Nat := h.map fun u => cs.getD u 0
@[simp] theorem bnds_len {cs h} : (bnds cs h).length = h.length := by simp [bnds]
structure Shape (cs : List Nat) (hs : List (List Nat)) : Prop where
  len : hs.length = cs.length
  few : cs.length ≤ 5
  pos : 0 < cs.length
  cnt : ∀ c ∈ cs, c = 2 ∨ c = 3
  low : ∀ v (h : v < hs.length), ∀ u ∈ hs[v], u < v
  srt : ∀ v (h : v < hs.length), hs[v].Pairwise (· < ·)
theorem Shape.bnd {cs hs} (s : Shape cs hs) {v : Nat} (h : v < hs.length) : ∀ b ∈ bnds cs hs[v], b = 2 ∨ b = 3 := by
  intro b hb
  simp only [bnds, List.mem_map] at hb
  obtain ⟨u, hu, rfl⟩ := hb
  have := s.low v h u hu
  have hl := s.len
  rw [List.getD_eq_getElem?_getD, List.getElem?_eq_getElem (by omega)]
  exact s.cnt _ (List.getElem_mem _)
theorem sorted_len1 : ∀ {l : List Nat} {a n : Nat}, (a :: l).Pairwise (· < ·) → (∀ u ∈ a :: l, u < n) → l.length + a < n
  | [], a, n, _, hu => by simpa using hu a (by simp)
  | b :: l, a, n, hp, hu => by
    have h1 := List.rel_of_pairwise_cons hp (List.mem_cons_self (a := b) (l := l))
    have h2 := sorted_len1 (List.Pairwise.of_cons hp) fun u h => hu u (List.mem_cons_of_mem _ h)
    simp only [List.length_cons]; omega
theorem sorted_len : ∀ {l : List Nat} {n : Nat}, l.Pairwise (· < ·) → (∀ u ∈ l, u < n) → l.length ≤ n
  | [], n, _, _ => Nat.zero_le _
  | a :: l, n, hp, hu => by have := sorted_len1 hp hu; simp only [List.length_cons]; omega
theorem prod_le : ∀ (bs : List Nat), (∀ b ∈ bs, b ≤ 3) → prod bs ≤ 3 ^ bs.length := by
  intro bs
  induction bs using snocRec with
  | h0 => intro _; decide
  | h1 bs b ih =>
    intro h
    rw [prod_snoc, List.length_append, List.length_singleton, Nat.pow_succ]
    exact Nat.mul_le_mul (ih fun c hc => h c (by simp [hc])) (h b (by simp))
theorem prod_pos {bs : List Nat} : (∀ b ∈ bs, 0 < b) → 0 < prod bs := by
  induction bs using snocRec with
  | h0 => intro _; decide
  | h1 bs b ih =>
    intro h
    rw [prod_snoc]
    exact Nat.mul_pos (ih fun b hb => h b (by simp [hb])) (h b (by simp))
theorem Shape.rows {cs hs} (s : Shape cs hs) {v : Nat} (h : v < hs.length) : 0 < prod (bnds cs hs[v]) ∧ prod (bnds cs hs[v]) ≤ 81 := by
  refine ⟨prod_pos fun b hb => by rcases s.bnd h b hb with h | h <;> omega, ?_⟩
  refine Nat.le_trans (prod_le _ fun b hb => by rcases s.bnd h b hb with h | h <;> omega) ?_
  have h1 := sorted_len (s.srt v h) (s.low v h)
  have h2 := s.len
  have h3 := s.few
  rw [bnds_len]
  exact Nat.le_trans (Nat.pow_le_pow_right (by decide) (show hs[v].length ≤ 4 by omega)) (by decide)
theorem Shape.small {cs hs} (s : Shape cs hs) {v : Nat} (h : v < hs.length) : Small (bnds cs hs[v]) := by
  refine ⟨fun b hb => by rcases s.bnd h b hb with h | h <;> (subst h; decide), ?_⟩
  have h1 := sorted_len (s.srt v h) (s.low v h)
  have h2 := s.len
  have h3 := s.few
  rw [bnds_len]; omega
/-- how many ways -/
def waysTo (cs : List Nat) (hs : List (List Nat)) (n : Nat) : Nat := prod ((List.range n).map fun v => cs.getD v 0 ^ prod (bnds cs (hs.getD v [])))
def ways (cs : List Nat) (hs : List (List Nat)) : Nat := waysTo cs hs cs.length
theorem waysTo_succ {cs hs n} : waysTo cs hs (n + 1) = waysTo cs hs n * cs.getD n 0 ^ prod (bnds cs (hs.getD n [])) := by
  unfold waysTo; rw [List.range_succ, List.map_append, List.map_singleton, prod_snoc]
def S_count (F : List D → Res M) : Prop := ∀ cs hs, Shape cs hs → F [.lst (encN cs), .lst (encR hs)] = .ok (.frz (.int (ways cs hs : Nat)))
section
variable {Φ : String → List D → Res M} {G : String → Option D} {W : Nat}
theorem s_law_sizeS : S_size (evD Φ G W 1 3 ir_law_size) := s_size
theorem s_law_count (hz : S_size (Φ "_law_size")) : S_count (evD Φ G W 2 6 ir_law_count_ways) := by
  intro cs hs s
  have turn : ∀ (k m v : Nat) (x y : Option M), v < cs.length → ∃ x', forGo (.nm 4) (fun g => evSs Φ G W ir_law_count_ways_b1 g) (rngD 0 k) [some (.frz (.lst (encN cs))), some (.frz (.lst (encR hs))), some (.frz (.int (m : Nat))), some (.frz (.int (v : Nat))), x, y]
      = .ok (.nx [some (.frz (.lst (encN cs))), some (.frz (.lst (encR hs))), some (.frz (.int (m * cs.getD v 0 ^ k : Nat))), some (.frz (.int (v : Nat))), x', y]) := by
    intro k m v x y hv
    obtain ⟨g', e, x', hx⟩ := forGo_ind (t := .nm 4) (f := fun g => evSs Φ G W ir_law_count_ways_b1 g)
      (fun i g => ∃ x', g = [some (.frz (.lst (encN cs))), some (.frz (.lst (encR hs))), some (.frz (.int (m * cs.getD v 0 ^ i : Nat))), some (.frz (.int (v : Nat))), x', y]) (rngD 0 k) 0 _ ⟨x, by rw [Nat.pow_zero, Nat.mul_one]⟩ (by
        rintro j hj g ⟨x, rfl⟩
        have hc := s.cnt cs[v] (List.getElem_mem _)
        have hg : cs.getD v 0 = cs[v] := by rw [List.getD_eq_getElem?_getD, List.getElem?_eq_getElem hv]; rfl
        rw [rngD_get]
        refine ⟨_, ?_, some (.frz (.int j)), rfl⟩
        rw [hg, Nat.zero_add, Nat.pow_succ, ← Nat.mul_assoc]
        generalize m * cs[v] ^ j = q
        simp [ir_law_count_ways_b1, encN_at (r := cs) rfl hv, binR_mul (MulOk.b (i := (q : Int)) (b := cs[v]) (by omega))])
    subst hx
    exact ⟨x', by simpa using e⟩
  have hl := s.len
  have hf := s.few
  obtain ⟨g', e, v', x', y', hx⟩ := forGo_ind (t := .nm 3) (f := fun g => evSs Φ G W ir_law_count_ways_b2 g)
    (fun i g => ∃ v x y, g = [some (.frz (.lst (encN cs))), some (.frz (.lst (encR hs))), some (.frz (.int (waysTo cs hs i : Nat))), v, x, y]) (rngD 0 cs.length) 0 [some (.frz (.lst (encN cs))), some (.frz (.lst (encR hs))), some (.frz (.int 1)), none, none, none] ⟨none, none, none, by simp [waysTo]⟩ (by
      rintro j hj g ⟨v, x, y, rfl⟩
      have hj' : j < cs.length := by simpa using hj
      have hj2 : j < hs.length := by omega
      have hg : hs.getD j [] = hs[j] := by rw [List.getD_eq_getElem?_getD, List.getElem?_eq_getElem hj2]; rfl
      obtain ⟨r1, r2⟩ := s.rows hj2
      have e1 := hz _ (s.small hj2)
      rw [rngD_get, Nat.zero_add, waysTo_succ, hg]
      generalize waysTo cs hs j = m
      obtain ⟨x', e2⟩ := turn (prod (bnds cs hs[j])) m j x y hj'
      have hr : rngR (.int (prod (bnds cs hs[j]) : Nat)) = .ok (rngD 0 (prod (bnds cs hs[j]) : Nat), []) := rngR_nat (by omega)
      have ec : ∀ g2 : Gm, g2 = [some (M.frz (.lst (encN cs))), some (.frz (.lst (encR hs))), some (.frz (.int (m : Nat))), some (.frz (.int (j : Nat))), x, y] → compGo (.nm 5) (fun _ => .ok true) (fun g => ev Φ G ir_law_count_ways_e1 g) (encN hs[j]) g2 = .ok (encN (bnds cs hs[j])) := by
        rintro g2 rfl
        rw [compN1 hs[j] (fun u => .int (cs.getD u 0 : Nat)) (by have := sorted_len (s.srt j hj2) (s.low j hj2); unfold lim; omega)]
        · simp [encN, bnds]
        · intro u hu
          have hu' : u < cs.length := by have := s.low j hj2 u hu; omega
          have hgu : cs.getD u 0 = cs[u] := by rw [List.getD_eq_getElem?_getD, List.getElem?_eq_getElem hu']; rfl
          exact ⟨.frz (.int (cs[u] : Nat)), [], by simp [ir_law_count_ways_e1, encN_at (r := cs) rfl hu'], by simp, by rw [hgu]; simp⟩
      refine ⟨_, ?_, some (.frz (.int (j : Nat))), x', y, rfl⟩
      simp -implicitDefEqProofs [ir_law_count_ways_b2, encR_at (r := hs) rfl hj2, ec _ rfl, e1, hr, e2])
  subst hx
  simp only [rngD_len, Int.toNat_natCast, Nat.zero_add] at e
  have hr : rngR (.int cs.length) = .ok (rngD 0 cs.length, []) := rngR_nat (by omega)
  rw [evD_eq (by rfl)]
  simp -implicitDefEqProofs [ir_law_count_ways, hr, e, ways]
end
end Ev

set_option maxRecDepth 100000
set_option maxHeartbeats 4000000
/-! Rows for simp over coded lists. -/
namespace Ev
open PySem PySem.Spec PyProof.Rows L2
/-! ### slices -/
theorem cut_nn {ds : List D} {a b : Nat} (h : b ≤ ds.length) : cutD ds (some (a : Int)) (some (b : Int)) = (ds.drop a).take (b - a) := by
  unfold cutD
  rw [HT.sIx_nat, HT.sIx_nat, Nat.min_eq_left h]
  by_cases ha : a ≤ ds.length
  · rw [Nat.min_eq_left ha]
  · rw [Nat.min_eq_right (by omega), List.drop_of_length_le (Nat.le_refl _), List.drop_of_length_le (by omega : ds.length ≤ a)]; simp
theorem cut_no {ds : List D} {b : Nat} : cutD ds none (some (b : Int)) = ds.take b := by
  unfold cutD
  rw [HT.sIx_nat, HT.sIx_none, List.drop_zero, Nat.sub_zero]
  by_cases h : b ≤ ds.length
  · rw [Nat.min_eq_left h]
  · rw [Nat.min_eq_right (by omega), List.take_of_length_le (Nat.le_refl _), List.take_of_length_le (by omega)]
theorem cut_on {ds : List D} {a : Nat} : cutD ds (some (a : Int)) none = ds.drop a := by
  unfold cutD
  rw [HT.sIx_nat, HT.sIx_none]
  by_cases h : a ≤ ds.length
  · rw [Nat.min_eq_left h, List.take_of_length_le (by simp)]
  · rw [Nat.min_eq_right (by omega), List.drop_of_length_le (Nat.le_refl _), List.drop_of_length_le (by omega : ds.length ≤ a)]; simp
theorem encN_app {a b : List Nat} : encN (a ++ b) = encN a ++ encN b := by simp [encN]
theorem encN_take {a : List Nat} {k : Nat} : (encN a).take k = encN (a.take k) := by simp [encN, List.map_take]
theorem encN_drop {a : List Nat} {k : Nat} : (encN a).drop k = encN (a.drop k) := by simp [encN, List.map_drop]
theorem flats_R {r : List (List Nat)} (h : r ≠ []) : D.flats (encR r) = false := by
  cases r with
  | nil => exact absurd rfl h
  | cons a r => simp [encR]
def poplR (i : Nat) (g : Gm) (o : Option (Option M)) : Res Out := match o with
  | some (some (.fl ds)) => if ds = [] then .no else .ok (.nx (g.set i (some (.fl ds.dropLast))))
  | _ => .no
@[simp] theorem poplR_fl {i g ds} : poplR i g (some (some (.fl ds))) = if ds = [] then .no else .ok (.nx (g.set i (some (.fl ds.dropLast)))) := rfl
@[simp] theorem evS_popL {Φ : String → List D → Res M} {G : String → Option D} {W i : Nat} {g : Gm} : evS Φ G W (.popL i) g = poplR i g g[i]? := by rw [evS]; rfl
/-! ### sameness -/
theorem lays_all {n : Nat} : ∀ {ds : List D}, (∀ d ∈ ds, d.lay n = true) → D.lays n ds = true
  | [], _ => by simp [D.lays]
  | d :: ds, h => by
    have t := lays_all (n := n) (ds := ds) fun x hx => h x (List.mem_cons_of_mem _ hx)
    simp [D.lays, h d (by simp), t]
theorem eqvs_map {α : Type} [DecidableEq α] {f : α → D} (h : ∀ x y, (f x).eqv (f y) = decide (x = y)) : ∀ (a b : List α), D.eqvs (a.map f) (b.map f) = decide (a = b)
  | [], [] => by simp [D.eqvs]
  | [], _ :: _ => by simp [D.eqvs]
  | _ :: _, [] => by simp [D.eqvs]
  | x :: a, y :: b => by
    simp only [List.map_cons, D.eqvs, h, eqvs_map h a b]
    simp only [List.cons.injEq, Bool.decide_and]
@[simp] theorem lay_int {n i} : (D.int i).lay n = true := by cases n <;> simp [D.lay]
@[simp] theorem lay_bl {n i} : (D.bl i).lay n = true := by cases n <;> simp [D.lay]
@[simp] theorem lay_N {n} {l : List Nat} : (D.lst (encN l)).lay (n + 1) = true := by
  rw [D.lay]; exact lays_all fun d hd => by simp [encN] at hd; obtain ⟨a, _, rfl⟩ := hd; simp
@[simp] theorem eqv_N {a b : List Nat} : (D.lst (encN a)).eqv (.lst (encN b)) = decide (a = b) := by
  rw [D.eqv]; exact eqvs_map (f := fun (n : Nat) => D.int n) (fun x y => by simp only [D.eqv]; rw [Bool.eq_iff_iff]; simp; omega) a b
theorem cmp_eqN {a b : List Nat} : cmpD .eq (.lst (encN a)) (.lst (encN b)) = some (decide (a = b)) := by simp [cmpD]
theorem cmp_neN {a b : List Nat} : cmpD .ne (.lst (encN a)) (.lst (encN b)) = some (!decide (a = b)) := by simp [cmpD]
@[simp] theorem lay_R {n} {l : List (List Nat)} : (D.lst (encR l)).lay (n + 2) = true := by
  rw [D.lay]; exact lays_all fun d hd => by simp [encR] at hd; obtain ⟨a, _, rfl⟩ := hd; simp
@[simp] theorem eqv_R {a b : List (List Nat)} : (D.lst (encR a)).eqv (.lst (encR b)) = decide (a = b) := by
  rw [D.eqv]; exact eqvs_map (f := fun (r : List Nat) => D.lst (encN r)) (fun x y => eqv_N) a b
/-! ### index -/
theorem find_N {u : Nat} : ∀ {l : List Nat}, u ∈ l → (encN l).findIdx? (fun z => z.eqv (.int u)) = some (l.idxOf u)
  | [], h => by simp at h
  | x :: l, h => by
    have hx : (D.int (x : Nat)).eqv (.int (u : Nat)) = decide (x = u) := by simp only [D.eqv]; rw [Bool.eq_iff_iff]; simp; omega
    simp only [encN, List.map_cons, List.findIdx?_cons, hx, List.idxOf_cons]
    by_cases e : x = u
    · subst e; simp
    · have h' : u ∈ l := by rcases List.mem_cons.mp h with h | h; exact absurd h.symm e; exact h
      have := find_N h'
      unfold encN at this
      rw [this]
      have e' : (x == u) = false := by simpa using e
      simp [e, e']
theorem idxR_N {l : List Nat} {u : Nat} {T : Tn} (h : u ∈ l) : idxR (.lst (encN l), T) (.int (u : Nat)) = .ok (.frz (.int (l.idxOf u : Nat)), []) := by
  have a : ((D.int (u : Nat)).sc && (encN l).all D.sc) = true := by
    rw [Bool.and_eq_true]; refine ⟨rfl, List.all_eq_true.mpr fun d hd => ?_⟩
    simp [encN] at hd; obtain ⟨a, _, rfl⟩ := hd; rfl
  show (if (((D.int (u : Nat)).sc && (encN l).all D.sc) || ((D.int (u : Nat)).lay 7 && D.lays 7 (encN l))) = true then _ else _) = _
  rw [if_pos (by rw [a]; rfl), find_N h]
/-! ### membership -/
theorem any_N {u : Nat} {l : List Nat} : ((encN l).any fun x => x.eqv (.int (u : Nat))) = decide (u ∈ l) := by
  induction l with
  | nil => simp [encN]
  | cons a l ih =>
    have hx : (D.int (a : Nat)).eqv (.int (u : Nat)) = decide (a = u) := by simp only [D.eqv]; rw [Bool.eq_iff_iff]; simp; omega
    unfold encN at ih ⊢
    simp only [List.map_cons, List.any_cons, hx, ih]
    rw [Bool.eq_iff_iff]; simp only [Bool.or_eq_true, decide_eq_true_eq, List.mem_cons]; exact or_congr eq_comm Iff.rfl
theorem sc_N {l : List Nat} : (encN l).all D.sc = true := List.all_eq_true.mpr fun d hd => by
  simp [encN] at hd; obtain ⟨a, _, rfl⟩ := hd; rfl
theorem cmp_inN {u : Nat} {l : List Nat} : cmpD .isIn (.int (u : Nat)) (.lst (encN l)) = some (decide (u ∈ l)) := by
  show (if ((D.int (u : Nat)).sc && (encN l).all D.sc) = true then some ((encN l).any fun x => x.eqv (.int (u : Nat))) else none) = _
  rw [if_pos (by rw [sc_N]; rfl), any_N]
theorem cmp_ntInN {u : Nat} {l : List Nat} : cmpD .ntIn (.int (u : Nat)) (.lst (encN l)) = some (!decide (u ∈ l)) := by
  show (if ((D.int (u : Nat)).sc && (encN l).all D.sc) = true then some (!(encN l).any fun x => x.eqv (.int (u : Nat))) else none) = _
  rw [if_pos (by rw [sc_N]; rfl), any_N]
end Ev

set_option maxRecDepth 100000
set_option maxHeartbeats 4000000
namespace Ev
open PySem PySem.Spec PyProof.Rows L2
/-- a name's own list of own lists of numbers -/
def encO (hs : List (List Nat)) : M := .lst (hs.map fun h => .fl (encN h))
theorem toDs_map {hs : List (List Nat)} : M.toDs (hs.map fun h => .fl (encN h)) = encR hs := by
  induction hs with
  | nil => simp [M.toDs, encR]
  | cons h hs ih => simp only [List.map_cons, M.toDs, ih, toD_fl]; simp [encR]
@[simp] theorem toD_O {hs} : (encO hs).toD = .lst (encR hs) := by rw [encO, M.toD, toDs_map]
@[simp] theorem slR_O {hs i} : slR (some (some (encO hs))) i = .ok (.frz (.lst (encR hs)), [i]) := by
  show Res.ok (M.frz (encO hs).toD, [i]) = _; rw [toD_O]
@[simp] theorem lvR_O {hs i} : lvR (some (some (encO hs))) i = .ok (.lst (encR hs), [i]) := by
  show Res.ok ((encO hs).toD, [i]) = _; rw [toD_O]
theorem ix_nat {n : Nat} {i : Int} {j : Nat} (e : i = j) (h : j < n) : ixN n i = some j := by
  subst e; unfold ixN; rw [if_pos (by omega), if_pos (by omega)]; simp
theorem map_erase {α β : Type} {f : α → β} : ∀ (l : List α) (k : Nat), (l.map f).eraseIdx k = (l.eraseIdx k).map f
  | [], _ => rfl
  | _ :: _, 0 => rfl
  | a :: l, k + 1 => by simp [List.eraseIdx_cons_succ, map_erase l k]
theorem popR_O {i : Nat} {g : Gm} {hs : List (List Nat)} {z u : Int} {v k : Nat} (ez : z = v) (hv : v < hs.length) (eu : u = k) (hk : k < hs[v].length) (hl : hs[v].length ≤ lim) :
    popR i g (some (some (encO hs))) (.int z) (.int u) = .ok (.nx (g.set i (some (encO (hs.set v (hs[v].eraseIdx k)))))) := by
  unfold popR encO
  simp only
  rw [ix_nat ez (by simpa using hv)]
  simp only [Res.of_some, Res.bind_ok, List.getElem?_map, List.getElem?_eq_getElem hv, Option.map_some]
  rw [if_pos (by simpa using hl), ix_nat eu (by simpa using hk)]
  simp only [Res.of_some, Res.bind_ok]
  congr 5
  rw [List.map_set]
  congr 2
  exact map_erase _ _
/-- how often a variable's turn comes -/
def vis (r n i v : Nat) : Nat := ((List.range i).filter fun t => (r + t) % n == v).length
theorem vis_succ {r n i v} : vis r n (i + 1) v = vis r n i v + if (r + i) % n = v then 1 else 0 := by
  unfold vis
  rw [List.range_succ, List.filter_append, List.length_append]
  by_cases h : (r + i) % n = v <;> simp [h]
theorem vis_30 {r n v : Nat} (hn : n < 6) (hv : v < n) : 6 ≤ vis r n 30 v := by
  have key : ∀ n < 6, ∀ q < n, ∀ v < n, 6 ≤ vis q n 30 v := by decide +kernel
  have e : vis r n 30 v = vis (r % n) n 30 v := by
    unfold vis
    congr 1
    apply List.filter_congr
    intro t _
    rw [Nat.mod_add_mod]
  rw [e]
  exact key n hn (r % n) (Nat.mod_lt _ (by omega)) v hv
/-- what can still be taken from a variable -/
def pot (cs : List Nat) (hs : List (List Nat)) (v : Nat) : Nat := (hs.getD v []).length + (cs.getD v 0 - 2)
theorem ways_pot {cs hs} (s : Shape cs hs) (h : ∀ v < cs.length, pot cs hs v = 0) : ways cs hs ≤ 32 := by
  have hf := s.few
  have key : ∀ n, n ≤ cs.length → waysTo cs hs n ≤ 2 ^ n := by
    intro n
    induction n with
    | zero => intro _; simp [waysTo]
    | succ n ih =>
      intro hn
      have hp := h n (by omega)
      unfold pot at hp
      have h1 : (hs.getD n []) = [] := List.eq_nil_of_length_eq_zero (by omega)
      have h2 : cs.getD n 0 ≤ 2 := by omega
      rw [waysTo_succ, h1, Nat.pow_succ]
      have : prod (bnds cs []) = 1 := rfl
      rw [this, Nat.pow_one]
      exact Nat.mul_le_mul (ih (by omega)) h2
  exact Nat.le_trans (key cs.length (Nat.le_refl _)) (Nat.le_trans (Nat.pow_le_pow_right (by decide) hf) (by decide))
theorem Shape.erase {cs hs} (s : Shape cs hs) {v k : Nat} (hv : v < hs.length) : Shape cs (hs.set v (hs[v].eraseIdx k)) := by
  refine ⟨by simpa using s.len, s.few, s.pos, s.cnt, fun w h u hu => ?_, fun w h => ?_⟩
  · rw [List.getElem_set] at hu
    split at hu
    · rename_i e; subst e; exact s.low v hv u (List.mem_of_mem_eraseIdx hu)
    · exact s.low w (by simpa using h) u hu
  · rw [List.getElem_set]
    split
    · exact (s.srt v hv).sublist (List.eraseIdx_sublist _ _)
    · exact s.srt w (by simpa using h)
theorem Shape.two {cs hs} (s : Shape cs hs) {v : Nat} : Shape (cs.set v 2) hs := by
  refine ⟨by simpa using s.len, by simpa using s.few, by simpa using s.pos, fun c hc => ?_, s.low, s.srt⟩
  rcases List.mem_or_eq_of_mem_set hc with h | h
  · exact s.cnt c h
  · exact .inl h
theorem pot_erase {cs hs} {v k : Nat} (hv : v < hs.length) (hk : k < hs[v].length) (w : Nat) : pot cs (hs.set v (hs[v].eraseIdx k)) w = if w = v then pot cs hs w - 1 else pot cs hs w := by
  unfold pot
  simp only [List.getD_eq_getElem?_getD]
  by_cases h : w = v
  · subst h
    rw [if_pos rfl, List.getElem?_set_self hv, List.getElem?_eq_getElem hv]
    simp only [Option.getD_some, List.length_eraseIdx, if_pos hk]
    omega
  · rw [if_neg h, List.getElem?_set_ne (Ne.symm h)]
theorem pot_two {cs hs} {v : Nat} (hv : v < cs.length) (h0 : hs.getD v [] = []) (w : Nat) : pot (cs.set v 2) hs w = if w = v then 0 else pot cs hs w := by
  unfold pot
  by_cases h : w = v
  · subst h
    rw [if_pos rfl, h0]
    simp only [List.getD_eq_getElem?_getD]
    rw [List.getElem?_set_self hv]; rfl
  · rw [if_neg h]
    simp only [List.getD_eq_getElem?_getD]
    rw [List.getElem?_set_ne (Ne.symm h)]
/-- one turn of the drawing of a shape -/
theorem shape_turn {cs hs} (s : Shape cs hs) {r cap i : Nat} (P : ways cs hs ≤ cap ∨ ∀ v < cs.length, pot cs hs v = 0 ∨ pot cs hs v + vis r cs.length i v ≤ 5) (v : Nat) (ev : v = (r + i) % cs.length) :
    (ways cs hs ≤ cap → (ways cs hs ≤ cap ∨ ∀ v < cs.length, pot cs hs v = 0 ∨ pot cs hs v + vis r cs.length (i + 1) v ≤ 5)) ∧
    (¬ ways cs hs ≤ cap → ∀ (hv : v < hs.length) (k : Nat), k < hs[v].length → ∀ w < cs.length, pot cs (hs.set v (hs[v].eraseIdx k)) w = 0 ∨ pot cs (hs.set v (hs[v].eraseIdx k)) w + vis r cs.length (i + 1) w ≤ 5) ∧
    (¬ ways cs hs ≤ cap → hs.getD v [] = [] → v < cs.length → ∀ w < cs.length, pot (cs.set v 2) hs w = 0 ∨ pot (cs.set v 2) hs w + vis r cs.length (i + 1) w ≤ 5) := by
  refine ⟨fun h => .inl h, fun h hv k hk w hw => ?_, fun h h0 hv w hw => ?_⟩
  · have P := P.resolve_left h w hw
    rw [pot_erase hv hk, vis_succ]
    by_cases e : w = v
    · subst e
      rw [if_pos rfl, if_pos ev.symm]
      have : pot cs hs w ≠ 0 := by
        have h1 : (hs.getD w []).length = hs[w].length := by rw [List.getD_eq_getElem?_getD, List.getElem?_eq_getElem hv]; rfl
        unfold pot
        omega
      omega
    · rw [if_neg e, if_neg (by omega)]; exact P
  · have P := P.resolve_left h w hw
    rw [pot_two hv h0, vis_succ]
    by_cases e : w = v
    · rw [if_pos e]; exact .inl rfl
    · rw [if_neg e, if_neg (by omega)]; exact P
end Ev

set_option maxRecDepth 100000
set_option maxHeartbeats 4000000
namespace Ev
open PySem PySem.Spec PyProof.Rows L2
def S_shape (F : List D → Res M) : Prop := ∀ (ns : List Int) (p cap : Nat), p < 1000 → 32 ≤ cap → ∃ cs hs, Shape cs hs ∧ ways cs hs ≤ cap ∧ F [.rol (ns.map .int), .int p, .int cap] = .ok (.frz (.tup [.lst (encN cs), .lst (encR hs)]))
section
variable {Φ : String → List D → Res M} {G : String → Option D} {W : Nat}
theorem shape_b1 (hc : S_count (Φ "_law_count_ways")) (a0 a1 x y : Option M) (cap i : Nat) (r cs : List Nat) (hs : List (List Nat)) (s : Shape cs hs) (hr : r.length = 40)
    (P : ways cs hs ≤ cap ∨ ∀ v < cs.length, pot cs hs v = 0 ∨ pot cs hs v + vis r[31] cs.length i v ≤ 5) :
    ∃ cs' hs' x', Shape cs' hs' ∧ cs'.length = cs.length ∧ (ways cs' hs' ≤ cap ∨ ∀ v < cs.length, pot cs' hs' v = 0 ∨ pot cs' hs' v + vis r[31] cs.length (i + 1) v ≤ 5) ∧
      (Res.of (bindT (.nm 9) (.int i) [a0, a1, some (.frz (.int cap)), some (.fl (encN r)), some (.frz (.int cs.length)), some (.fl (encN cs)), x, some (encO hs), none, y])).bind (fun g => evSs Φ G W ir_law_shape_b1 g)
      = .ok (.nx [a0, a1, some (.frz (.int cap)), some (.fl (encN r)), some (.frz (.int cs'.length)), some (.fl (encN cs')), x', some (encO hs'), none, some (.frz (.int i))]) := by
  have hl := s.len
  have hf := s.few
  have hp := s.pos
  obtain ⟨v, ev⟩ : ∃ v, v = (r[31] + i) % cs.length := ⟨_, rfl⟩
  have hv : v < cs.length := ev ▸ Nat.mod_lt _ hp
  have hv2 : v < hs.length := by omega
  obtain ⟨t1, t2, t3⟩ := shape_turn s P v ev
  have e1 := hc cs hs s
  have a31 : atI (encN r) 31 = some (.int (r[31] : Nat)) := encN_at (j := 31) rfl (by omega)
  have em : ((r[31] : Nat) + (i : Nat) : Int) % (cs.length : Nat) = (v : Nat) := by rw [ev]; simp
  have b1 : binR .mod (.int ((r[31] : Nat) + (i : Nat) : Int), []) (.int cs.length, []) = .ok (.frz (.int (v : Nat)), []) := by rw [binR_mod (by omega), em]
  by_cases hw : ways cs hs ≤ cap
  · refine ⟨cs, hs, some (.frz (.int (v : Nat))), s, rfl, t1 hw, ?_⟩
    have hw' : ¬ ((cap : Nat) : Int) < (ways cs hs : Nat) := by omega
    simp [ir_law_shape_b1, a31, b1, e1, hw']
  · have hw' : ((cap : Nat) : Int) < (ways cs hs : Nat) := by omega
    have eh : atI (encR hs) (v : Int) = some (.lst (encN hs[v])) := encR_at rfl hv2
    have hll := sorted_len (s.srt v hv2) (s.low v hv2)
    by_cases he : hs[v] = []
    · refine ⟨cs.set v 2, hs, some (.frz (.int (v : Nat))), s.two, by simp, .inr (t3 hw (by rw [List.getD_eq_getElem?_getD, List.getElem?_eq_getElem hv2, he]; rfl) hv), ?_⟩
      have hE : (encN hs[v]).isEmpty = true := by rw [he]; rfl
      simp [ir_law_shape_b1, a31, b1, e1, hw', eh, hE, ix_nat (n := cs.length) (i := (v : Int)) rfl hv]
      simp [encN, List.map_set]
    · have hlen : 0 < hs[v].length := List.length_pos_iff.mpr he
      have hE : (encN hs[v]).isEmpty = false := by
        cases h : hs[v] with
        | nil => exact absurd h he
        | cons a l => rfl
      have a32 : atI (encN r) (32 + (v : Int)) = some (.int (r[32 + v] : Nat)) := encN_at (j := 32 + v) (by omega) (by omega)
      have hk : r[32 + v] % hs[v].length < hs[v].length := Nat.mod_lt _ hlen
      have b2 : binR .mod (.int (r[32 + v] : Nat), []) (.int (hs[v].length : Nat), []) = .ok (.frz (.int (r[32 + v] % hs[v].length : Nat)), []) := by rw [binR_mod (by omega)]; simp
      refine ⟨cs, hs.set v (hs[v].eraseIdx (r[32 + v] % hs[v].length)), some (.frz (.int (v : Nat))), s.erase hv2, rfl, .inr (t2 hw hv2 _ hk), ?_⟩
      have pp := fun g => popR_O (i := 7) (g := g) (z := (v : Int)) (u := ((r[32 + v] % hs[v].length : Nat) : Int)) rfl hv2 rfl hk (by unfold lim; omega)
      generalize r[32 + v] % hs[v].length = kk at *
      simp [ir_law_shape_b1, a31, b1, e1, hw', eh, hE, a32, b2, pp]
theorem s_law_shape (hw : S_row (Φ "_law_row")) (hc : S_count (Φ "_law_count_ways")) : S_shape (evD Φ G W 3 10 ir_law_shape) := by
  intro ns p cap hp hcap
  obtain ⟨r, l1, b1, e1⟩ := hw ns p 40 hp (by decide)
  simp only [Int.ofNat_zero, Int.cast_ofNat_Int] at e1
  have a0 : atI (encN r) 0 = some (.int (r[0] : Nat)) := encN_at (j := 0) rfl (by omega)
  obtain ⟨q, hq⟩ : ∃ q, q = r[0] % 7 := ⟨_, rfl⟩
  have m7 : binR .mod (.int (r[0] : Nat), []) (.int 7, []) = .ok (.frz (.int (q : Nat)), []) := by rw [binR_mod (by decide), hq]; simp
  obtain ⟨n, hn⟩ : ∃ n, n = [1, 2, 3, 2, 3, 4, 5][q]'(by simp; omega) := ⟨_, rfl⟩
  have hn5 : 0 < n ∧ n ≤ 5 := by
    have key : ∀ q (h : q < 7), 0 < [1, 2, 3, 2, 3, 4, 5][q] ∧ [1, 2, 3, 2, 3, 4, 5][q] ≤ 5 := by decide
    rw [hn]; exact key q (by omega)
  have an : atI [D.int 1, .int 2, .int 3, .int 2, .int 3, .int 4, .int 5] (q : Int) = some (.int (n : Nat)) := by
    have := encN_at (r := [1, 2, 3, 2, 3, 4, 5]) (i := (q : Int)) (j := q) rfl (by simp; omega)
    rw [← hn] at this
    exact this
  have hr : ∀ k : Nat, k ≤ 40 → rngR (.int k) = .ok (rngD 0 k, []) := fun k hk => rngR_nat (by omega)
  -- the counts
  let cs : List Nat := (List.range n).map fun v => 2 + if r[1 + v]?.getD 0 % 4 = 1 then 1 else 0
  let hs : List (List Nat) := (List.range n).map fun v => (List.range v).filter fun u => decide (0 < r[6 + 5 * v + u]?.getD 0 % 3)
  have ec : ∀ g : Gm, g[3]? = some (some (.fl (encN r))) → 6 < g.length → compGo (.nm 6) (fun _ => .ok true) (fun g => ev Φ G ir_law_shape_e3 g) (rngD 0 n) g = .ok (encN cs) := by
    intro g hg hgl
    rw [rngD_N, compN1 (List.range n) (fun v => .int ((2 + if r[1 + v]?.getD 0 % 4 = 1 then 1 else 0 : Nat) : Nat)) (by simp; unfold lim; omega)]
    · simp [cs, encN]
    · intro v hv
      have hv := List.mem_range.mp hv
      have hv2 : 1 + v < r.length := by omega
      have ar : atI (encN r) (1 + (v : Int)) = some (.int (r[1 + v] : Nat)) := encN_at (j := 1 + v) (by omega) (by omega)
      have g3 : (g.set 6 (some (.frz (.int (v : Nat)))))[3]? = some (some (.fl (encN r))) := by rw [List.getElem?_set_ne (by decide)]; exact hg
      have g6 : (g.set 6 (some (.frz (.int (v : Nat)))))[6]? = some (some (.frz (.int (v : Nat)))) := List.getElem?_set_self hgl
      have m4 : binR .mod (.int (r[1 + v] : Nat), []) (.int 4, []) = .ok (.frz (.int (r[1 + v] % 4 : Nat)), []) := by rw [binR_mod (by decide)]; simp
      rw [List.getElem?_eq_getElem hv2]
      refine ⟨.frz (.int ((2 + if r[1 + v] % 4 = 1 then 1 else 0 : Nat) : Nat)), [], ?_, nrm_nil _, ?_⟩
      · generalize hz : r[1 + v] % 4 = z at *
        by_cases h1 : z = 1
        · subst h1; simp [ir_law_shape_e3, g3, g6, ar, m4]
        · have h1' : ¬ ((z : Nat) : Int) = 1 := by omega
          have h1'' : ((z : Int) == 1) = false := by simpa using h1'
          simp [ir_law_shape_e3, g3, g6, ar, m4, h1, h1'']
      · simp
  have eh : ∀ g : Gm, g[3]? = some (some (.fl (encN r))) → 8 < g.length → compOGo (.nm 6) (fun g => ev Φ G ir_law_shape_e2 g) (rngD 0 n) g = .ok (hs.map fun h => .fl (encN h)) := by
    intro g hg hgl
    rw [rngD_N, compON (List.range n) (fun v => .fl (encN ((List.range v).filter fun u => decide (0 < r[6 + 5 * v + u]?.getD 0 % 3)))) (by simp; unfold lim; omega)]
    · simp [hs]
    · intro v hv
      have hv := List.mem_range.mp hv
      have g6 : (g.set 6 (some (.frz (.int (v : Nat)))))[6]? = some (some (.frz (.int (v : Nat)))) := List.getElem?_set_self (by omega)
      have g3 : (g.set 6 (some (.frz (.int (v : Nat)))))[3]? = some (some (.fl (encN r))) := by rw [List.getElem?_set_ne (by decide)]; exact hg
      have gl : (g.set 6 (some (.frz (.int (v : Nat))))).length = g.length := by simp
      generalize g.set 6 (some (.frz (.int (v : Nat)))) = g1 at *
      refine ⟨[], ?_, nrm_nil _⟩
      have inner : compGo (.nm 8) (fun g => tv Φ G ir_law_shape_o1 g (ev Φ G ir_law_shape_o1 g)) (fun g => ev Φ G ir_law_shape_e1 g) (rngD 0 v) g1 = .ok (encN ((List.range v).filter fun u => decide (0 < r[6 + 5 * v + u]?.getD 0 % 3))) := by
        rw [rngD_N, compN (List.range v) (fun u => decide (0 < r[6 + 5 * v + u]?.getD 0 % 3)) (fun u => .int (u : Nat)) (by simp; unfold lim; omega)]
        · simp [encN]
        · intro u hu
          have hu := List.mem_range.mp hu
          have hi : 6 + 5 * v + u < r.length := by omega
          have ar : atI (encN r) (6 + 5 * (v : Int) + u) = some (.int (r[6 + 5 * v + u] : Nat)) := encN_at (j := 6 + 5 * v + u) (by omega) hi
          have g36 : (g1.set 8 (some (.frz (.int (u : Nat)))))[3]? = some (some (.fl (encN r))) := by rw [List.getElem?_set_ne (by decide)]; exact g3
          have g66 : (g1.set 8 (some (.frz (.int (u : Nat)))))[6]? = some (some (.frz (.int (v : Nat)))) := by rw [List.getElem?_set_ne (by decide)]; exact g6
          have g88 : (g1.set 8 (some (.frz (.int (u : Nat)))))[8]? = some (some (.frz (.int (u : Nat)))) := List.getElem?_set_self (by omega)
          have m3 : binR .mod (.int (r[6 + 5 * v + u] : Nat), []) (.int 3, []) = .ok (.frz (.int (r[6 + 5 * v + u] % 3 : Nat)), []) := by rw [binR_mod (by decide)]; simp
          rw [List.getElem?_eq_getElem hi]
          refine ⟨?_, fun _ => ⟨.frz (.int (u : Nat)), [], by simp [ir_law_shape_e1, g88], nrm_nil _, by simp⟩⟩
          generalize hz : r[6 + 5 * v + u] % 3 = z at *
          simp [ir_law_shape_o1, g36, g66, g88, ar, m3, binR_mul (MulOk.l (i := 5) (j := (v : Int)) (by decide))]
          rw [hz]
      have hrv : rngR (.int v) = .ok (rngD 0 v, []) := rngR_nat (by omega)
      simp -implicitDefEqProofs [ir_law_shape_e2, g6, hrv, inner]
  have hcl : cs.length = n := by simp [cs]
  have hhl : hs.length = n := by simp [hs]
  have sh : Shape cs hs := by
    refine ⟨by omega, by omega, by omega, fun c hc => ?_, fun v h u hu => ?_, fun v h => ?_⟩
    · simp only [cs, List.mem_map] at hc
      obtain ⟨v, _, rfl⟩ := hc
      split <;> simp
    · simp only [hs, List.getElem_map, List.getElem_range, List.mem_filter, List.mem_range] at hu
      exact hu.1
    · simp only [hs, List.getElem_map, List.getElem_range]
      exact List.Pairwise.filter _ List.pairwise_lt_range
  have p0 : ∀ v < n, pot cs hs v = 0 ∨ pot cs hs v + vis r[31] n 0 v ≤ 5 := by
    intro v hv
    have h1 := sorted_len (sh.srt v (by omega)) (sh.low v (by omega))
    have h2 := sh.cnt cs[v] (List.getElem_mem (by omega))
    have h3 : hs.getD v [] = hs[v] := by rw [List.getD_eq_getElem?_getD, List.getElem?_eq_getElem (by omega)]; rfl
    have h4 : cs.getD v 0 = cs[v] := by rw [List.getD_eq_getElem?_getD, List.getElem?_eq_getElem (by omega)]; rfl
    have h5 : vis r[31] n 0 v = 0 := rfl
    unfold pot
    rw [h3, h4, h5]; omega
  obtain ⟨g', e, cs', hs', x, y, s', hl', P', hx⟩ := forGo_ind (t := .nm 9) (f := fun g => evSs Φ G W ir_law_shape_b1 g)
    (fun i g => ∃ cs' hs' x y, Shape cs' hs' ∧ cs'.length = n ∧ (ways cs' hs' ≤ cap ∨ ∀ v < n, pot cs' hs' v = 0 ∨ pot cs' hs' v + vis r[31] n i v ≤ 5) ∧
      g = [some (M.frz (.rol (ns.map .int))), some (.frz (.int p)), some (.frz (.int cap)), some (.fl (encN r)), some (.frz (.int n)), some (.fl (encN cs')), x, some (encO hs'), none, y])
    (rngD 0 30) 0 [some (M.frz (.rol (ns.map .int))), some (.frz (.int p)), some (.frz (.int cap)), some (.fl (encN r)), some (.frz (.int n)), some (.fl (encN cs)), none, some (encO hs), none, none]
    ⟨cs, hs, none, none, sh, hcl, .inr p0, rfl⟩ (by
      rintro j hj g ⟨cs', hs', x, y, s', hl', P', rfl⟩
      rw [rngD_get, Nat.zero_add]
      rw [Nat.zero_add] at P'
      subst hl'
      obtain ⟨c2, h2, x2, s2, l2, P2, e2⟩ := shape_b1 (Φ := Φ) (G := G) (W := W) hc (some (M.frz (.rol (ns.map .int)))) (some (.frz (.int p))) x y cap j r cs' hs' s' l1 P'
      exact ⟨_, e2, c2, h2, x2, _, s2, l2, P2, by rw [l2]⟩)
  subst hx
  have h30 : 0 + (rngD 0 30).length = 30 := rfl
  rw [h30] at P'
  refine ⟨cs', hs', s', ?_, ?_⟩
  · rcases P' with P' | P'
    · exact P'
    · refine Nat.le_trans (ways_pot s' fun v hv => ?_) hcap
      have := vis_30 (r := r[31]) (n := n) (v := v) (by omega) (by omega)
      rcases P' v (by omega) with h | h
      · exact h
      · omega
  · have hr1 : rngR (.int n) = .ok (rngD 0 n, []) := rngR_nat (by omega)
    have hr30 : rngR (.int 30) = .ok (rngD 0 30, []) := rngR_nat (n := 30) (by omega)
    have ec' := ec [some (M.frz (.rol (ns.map .int))), some (.frz (.int p)), some (.frz (.int cap)), some (.fl (encN r)), some (.frz (.int n)), none, none, none, none, none] rfl (by simp)
    have eh' := eh [some (M.frz (.rol (ns.map .int))), some (.frz (.int p)), some (.frz (.int cap)), some (.fl (encN r)), some (.frz (.int n)), some (.fl (encN cs)), none, none, none, none] rfl (by simp)
    rw [evD_eq (by rfl)]
    have eO : M.lst (hs.map fun h => .fl (encN h)) = encO hs := rfl
    simp -implicitDefEqProofs [ir_law_shape, e1, a0, m7, an, hr1, ec', eh', eO, hr30, e]
end
end Ev

set_option maxRecDepth 100000
set_option maxHeartbeats 4000000
namespace Ev
open PySem PySem.Spec PyProof.Rows L2
def ir_heard_bounds_e1 : E := .bi .len (.cons (.ix (.fld (.slot 0) 0 1) (.slot 2)) .nil)
/-- heard_bounds(house, variable); names: 0 house, 1 variable, 2 u -/
def ir_heard_bounds : Ss := (.cons (.ret (.comp ir_heard_bounds_e1 (.nm 2) (.over (.ix (.fld (.slot 0) 0 2) (.slot 1))) .no)) .nil)
def d_heard_bounds : DefI := ⟨2, 3, ir_heard_bounds, none⟩
def ir_way_count_b1 : Ss := (.cons (.set (.nm 1) (.bin .mul (.slot 1) (.bi .len (.cons (.ix (.fld (.slot 0) 0 1) (.slot 2)) .nil)))) (.cons (.ite (.cmp .gt (.slot 1) (.glob "MOST_WAYS")) (.cons (.ret (.slot 1)) .nil) .nil) .nil))
def ir_way_count_b2 : Ss := (.cons (.for (.nm 3) (.rng (.call "size" (.cons (.call "heard_bounds" (.cons (.slot 0) (.cons (.slot 2) .nil))) .nil))) ir_way_count_b1) .nil)
/-- way_count(house); names: 0 house, 1 many, 2 v, 3 _ -/
def ir_way_count : Ss := (.cons (.set (.nm 1) (.cst (.int 1))) (.cons (.for (.nm 2) (.rng (.bi .len (.cons (.fld (.slot 0) 0 0) .nil))) ir_way_count_b2) (.cons (.ret (.slot 1)) .nil)))
def d_way_count : DefI := ⟨1, 4, ir_way_count, none⟩
def ir_way_at_b1 : Ss := (.cons (.app 6 (.bin .mod (.slot 1) (.slot 5))) (.cons (.set (.nm 1) (.bin .fdiv (.slot 1) (.slot 5))) .nil))
def ir_way_at_b2 : Ss := (.cons (.set (.nm 4) (.bin .sub (.bin .sub (.bi .len (.cons (.fld (.slot 0) 0 0) .nil)) (.cst (.int 1))) (.slot 3))) (.cons (.set (.nm 5) (.bi .len (.cons (.ix (.fld (.slot 0) 0 1) (.slot 4)) .nil))) (.cons (.set (.nm 6) (.lst .nil)) (.cons (.for (.nm 7) (.rng (.call "size" (.cons (.call "heard_bounds" (.cons (.slot 0) (.cons (.slot 4) .nil))) .nil))) ir_way_at_b1) (.cons (.app 2 (.rev (.slot 6))) .nil)))))
/-- way_at(house, at); names: 0 house, 1 at, 2 result, 3 k, 4 v, 5 many, 6 row, 7 _ -/
def ir_way_at : Ss := (.cons (.set (.nm 2) (.lst .nil)) (.cons (.for (.nm 3) (.rng (.bi .len (.cons (.fld (.slot 0) 0 0) .nil))) ir_way_at_b2) (.cons (.ret (.rev (.slot 2))) .nil)))
def d_way_at : DefI := ⟨2, 8, ir_way_at, none⟩
def ir_all_ways_e1 : E := .call "way_at" (.cons (.slot 0) (.cons (.slot 1) .nil))
/-- all_ways(house); names: 0 house, 1 at -/
def ir_all_ways : Ss := (.cons (.ret (.comp ir_all_ways_e1 (.nm 1) (.rng (.call "way_count" (.cons (.slot 0) .nil))) .no)) .nil)
def d_all_ways : DefI := ⟨1, 2, ir_all_ways, none⟩
end Ev

set_option maxRecDepth 100000
set_option maxHeartbeats 4000000
/-! The program's houses. -/
namespace Ev
open PySem PySem.Spec PyProof.Rows L2
def encS (l : List Str) : List D := l.map .str
@[simp] theorem encS_len {l} : (encS l).length = l.length := by simp [encS]
def encW (ws : List (List Str)) : List D := ws.map fun w => .lst (encS w)
@[simp] theorem encW_len {l} : (encW l).length = l.length := by simp [encW]
/-- a house as data -/
def encHo (nm : List Str) (ws : List (List Str)) (hs : List (List Nat)) : D := .obj 0 [.lst (encS nm), .lst (encW ws), .lst (encR hs)]
@[simp] theorem fld_H0 {nm ws hs T} : fldR 0 0 (encHo nm ws hs, T) = .ok (.frz (.lst (encS nm)), T) := by simp [encHo]
@[simp] theorem fld_H1 {nm ws hs T} : fldR 0 1 (encHo nm ws hs, T) = .ok (.frz (.lst (encW ws)), T) := by simp [encHo]
@[simp] theorem fld_H2 {nm ws hs T} : fldR 0 2 (encHo nm ws hs, T) = .ok (.frz (.lst (encR hs)), T) := by simp [encHo]
def cnts (ws : List (List Str)) : List Nat := ws.map List.length
@[simp] theorem cnts_len {ws} : (cnts ws).length = ws.length := by simp [cnts]
structure House (nm : List Str) (ws : List (List Str)) (hs : List (List Nat)) : Prop where
  shape : Shape (cnts ws) hs
  len : nm.length = ws.length
def S_heard (F : List D → Res M) : Prop := ∀ nm ws hs, House nm ws hs → ∀ (v : Nat) (h : v < hs.length), F [encHo nm ws hs, .int v] = .ok (.fl (encN (bnds (cnts ws) hs[v])))
section
variable {Φ : String → List D → Res M} {G : String → Option D} {W : Nat}
theorem s_heard : S_heard (evD Φ G W 2 3 ir_heard_bounds) := by
  intro nm ws hs H v h
  have s := H.shape
  have hl := s.len
  rw [cnts_len] at hl
  have e1 : compGo (.nm 2) (fun _ => .ok true) (fun g => ev Φ G ir_heard_bounds_e1 g) (encN hs[v]) [some (.frz (encHo nm ws hs)), some (.frz (.int v)), none] = .ok (encN (bnds (cnts ws) hs[v])) := by
    rw [compN1 hs[v] (fun u => .int ((cnts ws).getD u 0 : Nat)) (by have := sorted_len (s.srt v h) (s.low v h); have := s.few; have := s.len; unfold lim; omega)]
    · simp [encN, bnds]
    · intro u hu
      have hu' : u < ws.length := by have := s.low v h u hu; omega
      have hg : (cnts ws).getD u 0 = ws[u].length := by rw [List.getD_eq_getElem?_getD]; simp [cnts, List.getElem?_eq_getElem hu']
      have ea : atI (encW ws) (u : Int) = some (.lst (encS ws[u])) := by unfold encW; rw [at_map rfl hu']
      exact ⟨.frz (.int (ws[u].length : Nat)), [], by simp [ir_heard_bounds_e1, ea], nrm_nil _, by rw [hg]; simp⟩
  rw [evD_eq (by rfl)]
  simp [ir_heard_bounds, encR_at (r := hs) rfl h, e1]
/-- how many ways, up to the most -/
def S_way_count (F : List D → Res M) : Prop := ∀ nm ws hs, House nm ws hs → ways (cnts ws) hs ≤ 512 → F [encHo nm ws hs] = .ok (.frz (.int (ways (cnts ws) hs : Nat)))
theorem waysTo_pos {cs hs} (s : Shape cs hs) : ∀ n, n ≤ cs.length → 0 < waysTo cs hs n := by
  intro n
  induction n with
  | zero => intro _; simp [waysTo]
  | succ n ih =>
    intro h
    rw [waysTo_succ]
    have hg : cs.getD n 0 = cs[n] := by rw [List.getD_eq_getElem?_getD, List.getElem?_eq_getElem h]; rfl
    have := s.cnt cs[n] (List.getElem_mem _)
    exact Nat.mul_pos (ih (by omega)) (Nat.pow_pos (by rw [hg]; omega))
theorem waysTo_mono {cs hs} (s : Shape cs hs) : ∀ k n, n + k ≤ cs.length → waysTo cs hs n ≤ waysTo cs hs (n + k) := by
  intro k
  induction k with
  | zero => intro n _; exact Nat.le_refl _
  | succ k ih =>
    intro n h
    refine Nat.le_trans (ih n (by omega)) ?_
    rw [← Nat.add_assoc, waysTo_succ]
    have hg : cs.getD (n + k) 0 = cs[n + k] := by rw [List.getD_eq_getElem?_getD, List.getElem?_eq_getElem (by omega)]; rfl
    have := s.cnt cs[n + k] (List.getElem_mem _)
    exact Nat.le_mul_of_pos_right _ (Nat.pow_pos (by rw [hg]; omega))
theorem s_way_count (hG : G "MOST_WAYS" = some (.int 512)) (hz : S_size (Φ "size")) (hb : S_heard (Φ "heard_bounds")) : S_way_count (evD Φ G W 1 4 ir_way_count) := by
  intro nm ws hs H hw
  have s := H.shape
  have hl := s.len
  have hn := H.len
  have hf := s.few
  rw [cnts_len] at hl hf
  have turn : ∀ (k m v : Nat) (x : Option M) (hv : v < ws.length), m * (cnts ws).getD v 0 ^ k ≤ 512 → ∃ x', forGo (.nm 3) (fun g => evSs Φ G W ir_way_count_b1 g) (rngD 0 k) [some (.frz (encHo nm ws hs)), some (.frz (.int (m : Nat))), some (.frz (.int (v : Nat))), x]
      = .ok (.nx [some (.frz (encHo nm ws hs)), some (.frz (.int (m * (cnts ws).getD v 0 ^ k : Nat))), some (.frz (.int (v : Nat))), x']) := by
    intro k m v x hv hm
    have hcv : v < (cnts ws).length := by simpa using hv
    have hc := s.cnt (cnts ws)[v] (List.getElem_mem hcv)
    have hg : (cnts ws).getD v 0 = ws[v].length := by rw [List.getD_eq_getElem?_getD]; simp [cnts, List.getElem?_eq_getElem hv]
    have hc' : ws[v].length = 2 ∨ ws[v].length = 3 := by simpa [cnts] using hc
    have ea : atI (encW ws) (v : Int) = some (.lst (encS ws[v])) := by unfold encW; rw [at_map rfl hv]
    obtain ⟨g', e, x', hx⟩ := forGo_ind (t := .nm 3) (f := fun g => evSs Φ G W ir_way_count_b1 g)
      (fun i g => ∃ x', g = [some (.frz (encHo nm ws hs)), some (.frz (.int (m * (cnts ws).getD v 0 ^ i : Nat))), some (.frz (.int (v : Nat))), x']) (rngD 0 k) 0 _ ⟨x, by rw [Nat.pow_zero, Nat.mul_one]⟩ (by
        rintro j hj g ⟨x, rfl⟩
        have hj' : j < k := by simpa using hj
        have hle : m * ws[v].length ^ j * ws[v].length ≤ 512 := by
          rw [Nat.mul_assoc, ← Nat.pow_succ]
          rw [hg] at hm
          exact Nat.le_trans (Nat.mul_le_mul_left _ (Nat.pow_le_pow_right (by omega) (by omega))) hm
        rw [rngD_get]
        refine ⟨_, ?_, some (.frz (.int j)), rfl⟩
        rw [hg, Nat.zero_add, Nat.pow_succ, ← Nat.mul_assoc]
        generalize m * ws[v].length ^ j = q at *
        have hle' : ¬ (512 : Int) < (q : Int) * (ws[v].length : Int) := by
          have : ((q * ws[v].length : Nat) : Int) ≤ 512 := by omega
          simp at this; omega
        simp [ir_way_count_b1, ea, hG, hle', binR_mul (MulOk.b (i := (q : Int)) (b := ws[v].length) (by omega))])
    subst hx
    exact ⟨x', by simpa using e⟩
  obtain ⟨g', e, v', x', hx⟩ := forGo_ind (t := .nm 2) (f := fun g => evSs Φ G W ir_way_count_b2 g)
    (fun i g => ∃ v x, g = [some (.frz (encHo nm ws hs)), some (.frz (.int (waysTo (cnts ws) hs i : Nat))), v, x]) (rngD 0 ws.length) 0 [some (.frz (encHo nm ws hs)), some (.frz (.int 1)), none, none] ⟨none, none, by simp [waysTo]⟩ (by
      rintro j hj g ⟨v, x, rfl⟩
      have hj' : j < ws.length := by simpa using hj
      have hj2 : j < hs.length := by omega
      have hg : hs.getD j [] = hs[j] := by rw [List.getD_eq_getElem?_getD, List.getElem?_eq_getElem hj2]; rfl
      obtain ⟨r1, r2⟩ := s.rows hj2
      have e0 := hb nm ws hs H j hj2
      have e1 := hz _ (s.small hj2)
      have hm := waysTo_mono s (ws.length - (j + 1)) (j + 1) (by rw [cnts_len]; omega)
      rw [show j + 1 + (ws.length - (j + 1)) = (cnts ws).length by rw [cnts_len]; omega] at hm
      have hm2 : waysTo (cnts ws) hs (j + 1) ≤ 512 := Nat.le_trans hm hw
      rw [rngD_get, Nat.zero_add]
      rw [waysTo_succ, hg] at hm2 ⊢
      generalize waysTo (cnts ws) hs j = m at *
      obtain ⟨x', e2⟩ := turn (prod (bnds (cnts ws) hs[j])) m j x hj' hm2
      have hr : rngR (.int (prod (bnds (cnts ws) hs[j]) : Nat)) = .ok (rngD 0 (prod (bnds (cnts ws) hs[j]) : Nat), []) := rngR_nat (by omega)
      refine ⟨_, ?_, some (.frz (.int (j : Nat))), x', rfl⟩
      simp -implicitDefEqProofs [ir_way_count_b2, e0, e1, hr, e2])
  subst hx
  simp only [rngD_len, Int.toNat_natCast, Nat.zero_add] at e
  have hr : rngR (.int ws.length) = .ok (rngD 0 ws.length, []) := rngR_nat (by omega)
  rw [evD_eq (by rfl)]
  simp -implicitDefEqProofs [ir_way_count, hn, hr, e, ways]
end
end Ev

set_option maxRecDepth 100000
set_option maxHeartbeats 4000000
/-! Ways as rows of all cells. -/
namespace Ev
open PySem PySem.Spec PyProof.Rows L2
/-- the numbers of words of all cells of the first n variables -/
def cellsTo (cs : List Nat) (hs : List (List Nat)) (n : Nat) : List Nat := (List.range n).flatMap fun v => List.replicate (prod (bnds cs (hs.getD v []))) (cs.getD v 0)
theorem cellsTo_succ {cs hs n} : cellsTo cs hs (n + 1) = cellsTo cs hs n ++ List.replicate (prod (bnds cs (hs.getD n []))) (cs.getD n 0) := by
  unfold cellsTo; rw [List.range_succ, List.flatMap_append]; simp
theorem prod_app {as bs : List Nat} : prod (as ++ bs) = prod as * prod bs := by
  induction bs using snocRec with
  | h0 => simp
  | h1 bs b ih => rw [← List.append_assoc, prod_snoc, ih, prod_snoc, Nat.mul_assoc]
theorem prod_rep {k b : Nat} : prod (List.replicate k b) = b ^ k := by
  induction k with
  | zero => rfl
  | succ k ih => rw [List.replicate_succ', prod_snoc, ih, Nat.pow_succ]
theorem prod_cells {cs hs n} : prod (cellsTo cs hs n) = waysTo cs hs n := by
  induction n with
  | zero => rfl
  | succ n ih => rw [cellsTo_succ, prod_app, ih, prod_rep, waysTo_succ]
theorem rowAt_rep {as : List Nat} {b : Nat} : ∀ {k n : Nat}, rowAt (as ++ List.replicate k b) n = rowAt as (n / b ^ k) ++ rowAt (List.replicate k b) n
  | 0, n => by simp
  | k + 1, n => by
    rw [List.replicate_succ', ← List.append_assoc, rowAt_snoc, rowAt_rep, rowAt_snoc, List.append_assoc, Nat.div_div_eq_div_mul, Nat.pow_succ, Nat.mul_comm (b ^ k) b]
/-- the way with an index: of each variable its row -/
def wayTo (cs : List Nat) (hs : List (List Nat)) : Nat → Nat → List (List Nat)
  | 0, _ => []
  | n + 1, at_ => wayTo cs hs n (at_ / cs.getD n 0 ^ prod (bnds cs (hs.getD n []))) ++ [rowAt (List.replicate (prod (bnds cs (hs.getD n []))) (cs.getD n 0)) at_]
theorem wayTo_flat {cs hs} : ∀ n at_, (wayTo cs hs n at_).flatten = rowAt (cellsTo cs hs n) at_
  | 0, _ => rfl
  | n + 1, at_ => by rw [wayTo, List.flatten_append, wayTo_flat n, cellsTo_succ, rowAt_rep]; simp
@[simp] theorem wayTo_len {cs hs} : ∀ {n at_}, (wayTo cs hs n at_).length = n
  | 0, _ => rfl
  | n + 1, at_ => by rw [wayTo, List.length_append, wayTo_len]; rfl
theorem digs_rep_rev {k c n : Nat} : (digs (List.replicate k c) n).reverse = rowAt (List.replicate k c) n := by
  rw [rowAt, List.reverse_replicate]
theorem quo_rep {k c n : Nat} : quo (List.replicate k c) n = n / c ^ k := by
  induction k with
  | zero => simp [quo]
  | succ k ih => rw [List.replicate_succ', quo_snoc, ih, Nat.div_div_eq_div_mul, Nat.pow_succ]
def S_way_at (F : List D → Res M) : Prop := ∀ nm ws hs, House nm ws hs → ∀ n : Nat, F [encHo nm ws hs, .int n] = .ok (.fl (encR (wayTo (cnts ws) hs ws.length n)))
def waysOf (cs : List Nat) (hs : List (List Nat)) : List (List (List Nat)) := (List.range (ways cs hs)).map (wayTo cs hs cs.length)
/-- ways as data -/
def encWy (l : List (List (List Nat))) : List D := l.map fun w => .lst (encR w)
@[simp] theorem encWy_len {l} : (encWy l).length = l.length := by simp [encWy]
def S_all_ways (F : List D → Res M) : Prop := ∀ nm ws hs, House nm ws hs → ways (cnts ws) hs ≤ 512 → F [encHo nm ws hs] = .ok (.fl (encWy (waysOf (cnts ws) hs)))
section
variable {Φ : String → List D → Res M} {G : String → Option D} {W : Nat}
theorem House.wlen {nm ws hs} (H : House nm ws hs) {v : Nat} (hv : v < ws.length) : ws[v].length = 2 ∨ ws[v].length = 3 := by
  have hv' : v < (cnts ws).length := by simpa using hv
  have := H.shape.cnt (cnts ws)[v] (List.getElem_mem hv')
  simpa [cnts] using this
theorem House.cnt {nm ws hs} (H : House nm ws hs) {v : Nat} (hv : v < ws.length) : (cnts ws).getD v 0 = ws[v].length := by
  rw [List.getD_eq_getElem?_getD]; simp [cnts, List.getElem?_eq_getElem hv]
theorem House.hlen {nm ws hs} (H : House nm ws hs) : hs.length = ws.length := by have := H.shape.len; rwa [cnts_len] at this
theorem House.wat {ws : List (List Str)} {v : Nat} (hv : v < ws.length) : atI (encW ws) (v : Int) = some (.lst (encS ws[v])) := by unfold encW; rw [at_map rfl hv]
theorem way_at_b1 (a0 a2 a3 a4 x : Option M) (c : Nat) (hc : 0 < c ∧ c ≤ 3) (n k : Nat) (hk : k ≤ 1000) :
    ∃ x', forGo (.nm 7) (fun g => evSs Φ G W ir_way_at_b1 g) (rngD 0 k) [a0, some (.frz (.int (n : Nat))), a2, a3, a4, some (.frz (.int (c : Nat))), some (.fl []), x]
      = .ok (.nx [a0, some (.frz (.int ((n / c ^ k : Nat) : Nat))), a2, a3, a4, some (.frz (.int (c : Nat))), some (.fl (encN (digs (List.replicate k c) n))), x']) := by
  obtain ⟨g', e, x', hx⟩ := forN (i := 7) (f := fun g => evSs Φ G W ir_way_at_b1 g) k
    (fun i g => ∃ x', g = [a0, some (.frz (.int ((n / c ^ i : Nat) : Nat))), a2, a3, a4, some (.frz (.int (c : Nat))), some (.fl (encN (digs (List.replicate i c) n))), x'])
    (g := [a0, some (.frz (.int (n : Nat))), a2, a3, a4, some (.frz (.int (c : Nat))), some (.fl []), x]) ⟨x, by simp [digs, encN]⟩ (by
      rintro j hj g ⟨x, rfl⟩
      refine ⟨_, ?_, some (.frz (.int j)), rfl⟩
      have hl : (digs (List.replicate j c) n).length < lim := by rw [digs_len, List.length_replicate]; unfold lim; omega
      have e1 : digs (List.replicate (j + 1) c) n = digs (List.replicate j c) n ++ [n / c ^ j % c] := by rw [List.replicate_succ', digs_snoc, quo_rep]
      have e2 : n / c ^ (j + 1) = n / c ^ j / c := by rw [Nat.div_div_eq_div_mul, Nat.pow_succ]
      rw [e1, e2]
      generalize n / c ^ j = q
      have b1 : binR .mod (.int (q : Nat), []) (.int (c : Nat), []) = .ok (.frz (.int (q % c : Nat)), []) := by rw [binR_mod (by omega)]; simp
      have b2 : binR .fdiv (.int (q : Nat), []) (.int (c : Nat), []) = .ok (.frz (.int (q / c : Nat)), []) := by
        rw [binR_fdiv ⟨by omega, by
          refine Nat.lt_of_le_of_lt (Nat.log2_le_self _) ?_
          omega⟩, Int.fdiv_eq_ediv_of_nonneg _ (by omega)]
        simp
      simp [ir_way_at_b1, b1, b2, hl]
      simp [encN])
  subst hx
  exact ⟨x', e⟩
theorem s_way_at (hz : S_size (Φ "size")) (hb : S_heard (Φ "heard_bounds")) : S_way_at (evD Φ G W 2 8 ir_way_at) := by
  intro nm ws hs H n
  have s := H.shape
  have hl := H.hlen
  have hn := H.len
  have hf := s.few
  rw [cnts_len] at hf
  obtain ⟨g', e, a, res, y3, y4, y5, y6, y7, hw, hr, hx⟩ := forN (i := 3) (f := fun g => evSs Φ G W ir_way_at_b2 g) ws.length
    (fun i g => ∃ (a : Nat) (res : List (List Nat)) (y3 y4 y5 y6 y7 : Option M), wayTo (cnts ws) hs ws.length n = wayTo (cnts ws) hs (ws.length - i) a ++ res.reverse ∧ res.length = i ∧
      g = [some (.frz (encHo nm ws hs)), some (.frz (.int (a : Nat))), some (.fl (encR res)), y3, y4, y5, y6, y7])
    (g := [some (.frz (encHo nm ws hs)), some (.frz (.int (n : Nat))), some (.fl []), none, none, none, none, none]) ⟨n, [], none, none, none, none, none, by simp, rfl, by simp [encR]⟩ (by
      rintro j hj g ⟨a, res, y3, y4, y5, y6, y7, hw, hr, rfl⟩
      obtain ⟨v, ev⟩ : ∃ v, v = ws.length - (j + 1) := ⟨_, rfl⟩
      have hv : v < ws.length := by omega
      have hv2 : v < hs.length := by omega
      have e0 := hb nm ws hs H v hv2
      have e1 := hz _ (s.small hv2)
      obtain ⟨r1, r2⟩ := s.rows hv2
      have hc := H.wlen hv
      have hrg : rngR (.int (prod (bnds (cnts ws) hs[v]) : Nat)) = .ok (rngD 0 (prod (bnds (cnts ws) hs[v]) : Nat), []) := rngR_nat (by omega)
      obtain ⟨x', e2⟩ := way_at_b1 (Φ := Φ) (G := G) (W := W) (some (.frz (encHo nm ws hs))) (some (.fl (encR res))) (some (.frz (.int j))) (some (.frz (.int v))) y7 ws[v].length (by omega) a (prod (bnds (cnts ws) hs[v])) (by omega)
      have ea := House.wat hv
      have hll : res.length < lim := by unfold lim; omega
      have ev2 : ((nm.length : Int) - 1) - j = (v : Nat) := by omega
      refine ⟨_, ?_, a / ws[v].length ^ prod (bnds (cnts ws) hs[v]), res ++ [rowAt (List.replicate (prod (bnds (cnts ws) hs[v])) ws[v].length) a], some (.frz (.int j)), some (.frz (.int v)), some (.frz (.int ws[v].length)), some (.fl (encN (digs (List.replicate (prod (bnds (cnts ws) hs[v])) ws[v].length) a))), x', ?_, by simp [hr], rfl⟩
      · simp -implicitDefEqProofs [ir_way_at_b2, ev2, ea, e0, e1, hrg, e2, hll]
        simp [encR, encN, ← digs_rep_rev]
      · rw [hw, show ws.length - j = v + 1 by omega, wayTo, ← ev]
        have hg : hs.getD v [] = hs[v] := by rw [List.getD_eq_getElem?_getD, List.getElem?_eq_getElem hv2]; rfl
        rw [H.cnt hv, hg]
        simp)
  subst hx
  have hrg : rngR (.int ws.length) = .ok (rngD 0 ws.length, []) := rngR_nat (by omega)
  rw [evD_eq (by rfl)]
  rw [Nat.sub_self] at hw
  simp -implicitDefEqProofs [ir_way_at, hn, hrg, e]
  rw [hw]
  simp [wayTo, encR]
theorem s_all_ways (hc : S_way_count (Φ "way_count")) (hw : S_way_at (Φ "way_at")) : S_all_ways (evD Φ G W 1 2 ir_all_ways) := by
  intro nm ws hs H hk
  have e1 := hc nm ws hs H hk
  have hrg : rngR (.int (ways (cnts ws) hs : Nat)) = .ok (rngD 0 (ways (cnts ws) hs : Nat), []) := rngR_nat (by omega)
  have e2 : compGo (.nm 1) (fun _ => .ok true) (fun g => ev Φ G ir_all_ways_e1 g) (rngD 0 (ways (cnts ws) hs : Nat)) [some (.frz (encHo nm ws hs)), none] = .ok (encWy (waysOf (cnts ws) hs)) := by
    rw [rngD_N, compN1 (List.range (ways (cnts ws) hs)) (fun n => .lst (encR (wayTo (cnts ws) hs ws.length n))) (by rw [List.length_range]; unfold lim; omega)]
    · simp [encWy, waysOf]
    · intro n hn
      exact ⟨.fl (encR (wayTo (cnts ws) hs ws.length n)), [], by simp [ir_all_ways_e1, hw nm ws hs H n], nrm_nil _, by simp⟩
  rw [evD_eq (by rfl)]
  simp -implicitDefEqProofs [ir_all_ways, e1, hrg, e2]
end
end Ev

set_option maxRecDepth 100000
set_option maxHeartbeats 4000000
namespace Ev
open PySem PySem.Spec PyProof.Rows L2
def ir_law_rows_b1 : Ss := (.cons (.app 3 (.bin .add (.slot 4) (.lst (.cons (.slot 5) .nil)))) .nil)
def ir_law_rows_b2 : Ss := (.cons (.for (.nm 5) (.rng (.slot 2)) ir_law_rows_b1) .nil)
def ir_law_rows_b3 : Ss := (.cons (.set (.nm 3) (.lst .nil)) (.cons (.for (.nm 4) (.over (.slot 1)) ir_law_rows_b2) (.cons (.set (.nm 1) (.slot 3)) .nil)))
/-- _law_rows(_law_bounds_here); names: 0 _law_bounds_here, 1 _law_found, 2 _law_bound, 3 _law_longer, 4 _law_one, 5 _law_k -/
def ir_law_rows : Ss := (.cons (.set (.nm 1) (.lst (.cons (.lst .nil) .nil))) (.cons (.for (.nm 2) (.over (.slot 0)) ir_law_rows_b3) (.cons (.ret (.slot 1)) .nil)))
def d_law_rows : DefI := ⟨1, 6, ir_law_rows, none⟩
def ir_law_bounds_e1 : E := .ix (.slot 0) (.slot 3)
/-- _law_bounds(_law_counts, _law_heard, _law_v); names: 0 _law_counts, 1 _law_heard, 2 _law_v, 3 _law_u -/
def ir_law_bounds : Ss := (.cons (.ret (.comp ir_law_bounds_e1 (.nm 3) (.over (.ix (.slot 1) (.slot 2))) .no)) .nil)
def d_law_bounds : DefI := ⟨3, 4, ir_law_bounds, none⟩
def ir_law_way_sizes_e1 : E := .ix (.slot 0) (.slot 3)
def ir_law_way_sizes_b1 : Ss := (.cons (.set (.nm 2) (.bin .add (.slot 2) (.comp ir_law_way_sizes_e1 (.nm 4) (.rng (.call "_law_size" (.cons (.call "_law_bounds" (.cons (.slot 0) (.cons (.slot 1) (.cons (.slot 3) .nil)))) .nil))) .no))) .nil)
/-- _law_way_sizes(_law_counts, _law_heard); names: 0 _law_counts, 1 _law_heard, 2 _law_found, 3 _law_v, 4 _law_n -/
def ir_law_way_sizes : Ss := (.cons (.set (.nm 2) (.lst .nil)) (.cons (.for (.nm 3) (.rng (.bi .len (.cons (.slot 0) .nil))) ir_law_way_sizes_b1) (.cons (.ret (.slot 2)) .nil)))
def d_law_way_sizes : DefI := ⟨2, 5, ir_law_way_sizes, none⟩
def ir_law_ways_b1 : Ss := (.cons (.set (.nm 7) (.call "_law_size" (.cons (.call "_law_bounds" (.cons (.slot 0) (.cons (.slot 1) (.cons (.slot 6) .nil)))) .nil))) (.cons (.app 4 (.sl (.slot 3) (.yes (.slot 5)) (.yes (.bin .add (.slot 5) (.slot 7))))) (.cons (.set (.nm 5) (.bin .add (.slot 5) (.slot 7))) .nil)))
def ir_law_ways_b2 : Ss := (.cons (.set (.nm 4) (.lst .nil)) (.cons (.set (.nm 5) (.cst (.int 0))) (.cons (.for (.nm 6) (.rng (.bi .len (.cons (.slot 0) .nil))) ir_law_ways_b1) (.cons (.app 2 (.slot 4)) .nil))))
/-- _law_ways(_law_counts, _law_heard); names: 0 _law_counts, 1 _law_heard, 2 _law_ways_here, 3 _law_one, 4 _law_way, 5 _law_at, 6 _law_v, 7 _law_many -/
def ir_law_ways : Ss := (.cons (.set (.nm 2) (.lst .nil)) (.cons (.for (.nm 3) (.over (.call "_law_rows" (.cons (.call "_law_way_sizes" (.cons (.slot 0) (.cons (.slot 1) .nil))) .nil))) ir_law_ways_b2) (.cons (.ret (.slot 2)) .nil)))
def d_law_ways : DefI := ⟨2, 8, ir_law_ways, none⟩
end Ev

set_option maxRecDepth 100000
set_option maxHeartbeats 4000000
/-! The laws' own rows and ways. -/
namespace Ev
open PySem PySem.Spec PyProof.Rows L2
def IsL (m : M) (ds : List D) : Prop := m = .frz (.lst ds) ∨ m = .fl ds
theorem IsL.toD {m : M} {ds : List D} (h : IsL m ds) : m.toD = .lst ds := by rcases h with rfl | rfl <;> simp
def S_rows (F : List D → Res M) : Prop := ∀ bs, Small bs → bs.length < 100000 → (∀ k, prod (bs.take k) ≤ 100000) → ∃ m, IsL m (encR (rowsOf bs)) ∧ F [.lst (encN bs)] = .ok m
def S_bounds (F : List D → Res M) : Prop := ∀ cs hs, Shape cs hs → ∀ (v : Nat) (h : v < hs.length), F [.lst (encN cs), .lst (encR hs), .int v] = .ok (.fl (encN (bnds cs hs[v])))
def S_way_sizes (F : List D → Res M) : Prop := ∀ cs hs, Shape cs hs → F [.lst (encN cs), .lst (encR hs)] = .ok (.fl (encN (cellsTo cs hs cs.length)))
def S_ways (F : List D → Res M) : Prop := ∀ cs hs, Shape cs hs → ways cs hs ≤ 512 → F [.lst (encN cs), .lst (encR hs)] = .ok (.fl (encWy (waysOf cs hs)))
section
variable {Φ : String → List D → Res M} {G : String → Option D} {W : Nat}
theorem rows_b1 (a0 a1 a2 x : Option M) (b : Nat) (L : List (List Nat)) (one : List Nat) (hL : L.length + b < 1000000) (h1 : one.length < 100000) :
    ∃ x', forGo (.nm 5) (fun g => evSs Φ G W ir_law_rows_b1 g) (rngD 0 b) [a0, a1, a2, some (.fl (encR L)), some (.frz (.lst (encN one))), x]
      = .ok (.nx [a0, a1, a2, some (.fl (encR (L ++ (List.range b).map fun k => one ++ [k]))), some (.frz (.lst (encN one))), x']) := by
  obtain ⟨g', e, x', hx⟩ := forGo_ind (t := .nm 5) (f := fun g => evSs Φ G W ir_law_rows_b1 g)
    (fun i g => ∃ x', g = [a0, a1, a2, some (.fl (encR (L ++ (List.range i).map fun k => one ++ [k]))), some (.frz (.lst (encN one))), x']) (rngD 0 b) 0 [a0, a1, a2, some (.fl (encR L)), some (.frz (.lst (encN one))), x] ⟨x, by simp⟩ (by
      rintro j hj g ⟨x, rfl⟩
      have hj' : j < b := by simpa using hj
      refine ⟨_, ?_, some (.frz (.int j)), rfl⟩
      have l1 : one.length + 1 < lim := by unfold lim; omega
      have l2 : L.length + j < lim := by unfold lim; omega
      rw [rngD_get, Nat.zero_add, List.range_succ]
      simp [ir_law_rows_b1, l1, l2]
      simp [encR, encN])
  subst hx
  exact ⟨x', by simpa using e⟩
theorem rows_b2 (a0 : Option M) (b : Nat) (L : List (List Nat)) (m : M) (hm : IsL m (encR L)) (x y : Option M) (hL : L.length * b < 900000) (hb : b < 1000000) (h1 : ∀ one ∈ L, one.length < 100000) :
    ∃ x' y', forGo (.nm 4) (fun g => evSs Φ G W ir_law_rows_b2 g) (encR L) [a0, some m, some (.frz (.int b)), some (.fl []), x, y]
      = .ok (.nx [a0, some m, some (.frz (.int b)), some (.fl (encR (L.flatMap fun one => (List.range b).map fun k => one ++ [k]))), x', y']) := by
  obtain ⟨g', e, x', y', hx⟩ := forGo_ind (t := .nm 4) (f := fun g => evSs Φ G W ir_law_rows_b2 g)
    (fun i g => ∃ x' y', g = [a0, some m, some (.frz (.int b)), some (.fl (encR ((L.take i).flatMap fun one => (List.range b).map fun k => one ++ [k]))), x', y']) (encR L) 0 [a0, some m, some (.frz (.int b)), some (.fl []), x, y] ⟨x, y, by simp [encR]⟩ (by
      rintro j hj g ⟨x, y, rfl⟩
      have hj' : j < L.length := by simpa using hj
      have hl : ((L.take j).flatMap fun one => (List.range b).map fun k => one ++ [k]).length + b < 1000000 := by
        have : ∀ l : List (List Nat), (l.flatMap fun one => (List.range b).map fun k => one ++ [k]).length = l.length * b := by
          intro l; induction l with
          | nil => simp
          | cons a l ih => rw [List.flatMap_cons, List.length_append, ih, List.length_cons, Nat.succ_mul]; simp; omega
        rw [this, List.length_take, Nat.min_eq_left (by omega)]
        have : (j + 1) * b ≤ L.length * b := Nat.mul_le_mul_right _ hj'
        rw [Nat.succ_mul] at this
        omega
      obtain ⟨x', e⟩ := rows_b1 (Φ := Φ) (G := G) (W := W) a0 (some m) (some (.frz (.int b))) y b _ (L[j]) hl (h1 _ (List.getElem_mem hj'))
      have hr : rngR (.int b) = .ok (rngD 0 b, []) := rngR_nat (by omega)
      rw [encR_get, Nat.zero_add]
      refine ⟨_, ?_, some (.frz (.lst (encN L[j]))), x', rfl⟩
      simp -implicitDefEqProofs [ir_law_rows_b2, hr, e]
      rw [take_snoc hj', List.flatMap_append, List.flatMap_cons, List.flatMap_nil, List.append_nil])
  subst hx
  exact ⟨x', y', by simpa using e⟩
theorem s_law_rows : S_rows (evD Φ G W 1 6 ir_law_rows) := by
  intro bs hb hbl hp
  obtain ⟨g', e, m, y, z, u, v, hm, hx⟩ := forGo_ind (t := .nm 2) (f := fun g => evSs Φ G W ir_law_rows_b3 g)
    (fun i g => ∃ m y z u v, IsL m (encR (rowsOf (bs.take i))) ∧ g = [some (.frz (.lst (encN bs))), some m, y, z, u, v]) (encN bs) 0 [some (.frz (.lst (encN bs))), some (.fl [.lst []]), none, none, none, none] ⟨_, _, _, _, _, .inr (by simp [encR, encN]), rfl⟩ (by
      rintro j hj g ⟨m, y, z, u, v, hm, rfl⟩
      have hj' : j < bs.length := by simpa using hj
      rw [Nat.zero_add] at hm ⊢
      rw [encN_get]
      have hbj := hb.1 bs[j] (List.getElem_mem _)
      have hpj := hp (j + 1)
      rw [take_snoc hj', prod_snoc] at hpj
      have lens : ∀ one ∈ rowsOf (bs.take j), one.length < 100000 := by
        intro one ho
        obtain ⟨i, hi, rfl⟩ := List.getElem_of_mem ho
        rw [rowsOf_get, rowAt_len, List.length_take]
        have := hb.2
        omega
      obtain ⟨x', y', e⟩ := rows_b2 (Φ := Φ) (G := G) (W := W) (some (.frz (.lst (encN bs)))) bs[j] (rowsOf (bs.take j)) (.frz (.lst (encR (rowsOf (bs.take j))))) (.inl rfl) u v (by rw [rowsOf_len]; omega) (by
        have : 0 < prod (bs.take j) := prod_pos fun b hb' => (hb.1 b (List.mem_of_mem_take hb')).1
        have := Nat.le_mul_of_pos_left bs[j] this
        omega) lens
      rw [take_snoc hj', rowsOf_snoc]
      generalize hN : (encR ((rowsOf (bs.take j)).flatMap fun one => (List.range bs[j]).map fun k => one ++ [k])) = N at e ⊢
      refine ⟨[some (.frz (.lst (encN bs))), some (.frz (.lst N)), some (.frz (.int (bs[j] : Nat))), some (.frz (.lst N)), x', y'], ?_, .frz (.lst N), _, _, _, _, .inl rfl, rfl⟩
      rcases hm with rfl | rfl <;> simp [ir_law_rows_b3, e])
  subst hx
  simp only [encN_len, Nat.zero_add, List.take_length] at e hm
  refine ⟨m, hm, ?_⟩
  rw [evD_eq (by rfl)]
  simp [ir_law_rows, e]
theorem Shape.cat {cs hs} (s : Shape cs hs) {v : Nat} (hv : v < cs.length) : cs.getD v 0 = cs[v] := by rw [List.getD_eq_getElem?_getD, List.getElem?_eq_getElem hv]; rfl
theorem Shape.hat {cs hs} (s : Shape cs hs) {v : Nat} (hv : v < hs.length) : hs.getD v [] = hs[v] := by rw [List.getD_eq_getElem?_getD, List.getElem?_eq_getElem hv]; rfl
theorem Shape.hfew {cs hs} (s : Shape cs hs) {v : Nat} (hv : v < hs.length) : hs[v].length ≤ 4 := by
  have := sorted_len (s.srt v hv) (s.low v hv); have := s.few; have := s.len; omega
theorem s_law_bounds : S_bounds (evD Φ G W 3 4 ir_law_bounds) := by
  intro cs hs s v hv
  have ec : compGo (.nm 3) (fun _ => .ok true) (fun g => ev Φ G ir_law_bounds_e1 g) (encN hs[v]) [some (M.frz (.lst (encN cs))), some (.frz (.lst (encR hs))), some (.frz (.int (v : Nat))), none] = .ok (encN (bnds cs hs[v])) := by
    rw [compN1 hs[v] (fun u => .int (cs.getD u 0 : Nat)) (by have := s.hfew hv; unfold lim; omega)]
    · simp [encN, bnds]
    · intro u hu
      have hu' : u < cs.length := by have := s.low v hv u hu; have := s.len; omega
      exact ⟨.frz (.int (cs[u] : Nat)), [], by simp [ir_law_bounds_e1, encN_at (r := cs) rfl hu'], nrm_nil _, by rw [s.cat hu']; simp⟩
  rw [evD_eq (by rfl)]
  simp [ir_law_bounds, encR_at (r := hs) rfl hv, ec]
theorem cellsTo_len {cs hs} (s : Shape cs hs) : ∀ n, n ≤ cs.length → (cellsTo cs hs n).length ≤ 81 * n := by
  intro n
  induction n with
  | zero => intro _; simp [cellsTo]
  | succ n ih =>
    intro h
    have hv : n < hs.length := by have := s.len; omega
    have := ih (by omega)
    have := (s.rows hv).2
    rw [cellsTo_succ, List.length_append, List.length_replicate, s.hat hv]
    omega
theorem s_law_way_sizes (hz : S_size (Φ "_law_size")) (hb : S_bounds (Φ "_law_bounds")) : S_way_sizes (evD Φ G W 2 5 ir_law_way_sizes) := by
  intro cs hs s
  have hl := s.len
  have hf := s.few
  obtain ⟨g', e, x, y, hx⟩ := forN (i := 3) (f := fun g => evSs Φ G W ir_law_way_sizes_b1 g) cs.length
    (fun i g => ∃ x y, g = [some (M.frz (.lst (encN cs))), some (.frz (.lst (encR hs))), some (.fl (encN (cellsTo cs hs i))), x, y])
    (g := [some (M.frz (.lst (encN cs))), some (.frz (.lst (encR hs))), some (.fl []), none, none]) ⟨none, none, by simp [cellsTo, encN]⟩ (by
      rintro v hv g ⟨x, y, rfl⟩
      have hv2 : v < hs.length := by omega
      have e1 := hb cs hs s v hv2
      have e2 := hz _ (s.small hv2)
      obtain ⟨r1, r2⟩ := s.rows hv2
      have hr : rngR (.int (prod (bnds cs hs[v]) : Nat)) = .ok (rngD 0 (prod (bnds cs hs[v]) : Nat), []) := rngR_nat (by omega)
      have hc := cellsTo_len s v (by omega)
      have ec : compGo (.nm 4) (fun _ => .ok true) (fun g => ev Φ G ir_law_way_sizes_e1 g) (rngD 0 (prod (bnds cs hs[v]) : Nat)) [some (M.frz (.lst (encN cs))), some (.frz (.lst (encR hs))), some (.fl (encN (cellsTo cs hs v))), some (.frz (.int (v : Nat))), y] = .ok (encN (List.replicate (prod (bnds cs hs[v])) cs[v])) := by
        rw [rngD_N, compN1 (List.range _) (fun u => .int (cs[v] : Nat)) (by rw [List.length_range]; unfold lim; omega)]
        · simp [encN, List.map_const']
        · intro u hu
          exact ⟨.frz (.int (cs[v] : Nat)), [], by simp [ir_law_way_sizes_e1, encN_at (r := cs) rfl hv], nrm_nil _, by simp⟩
      refine ⟨_, ?_, some (.frz (.int v)), y, rfl⟩
      have hll : (cellsTo cs hs v).length + prod (bnds cs hs[v]) < lim := by unfold lim; omega
      rw [cellsTo_succ, s.cat hv, s.hat hv2]
      simp -implicitDefEqProofs [ir_law_way_sizes_b1, e1, e2, hr, ec, hll]
      simp [encN])
  subst hx
  have hr : rngR (.int cs.length) = .ok (rngD 0 cs.length, []) := rngR_nat (by omega)
  rw [evD_eq (by rfl)]
  simp -implicitDefEqProofs [ir_law_way_sizes, hr, e]
theorem cells_pos {cs hs} (s : Shape cs hs) : ∀ n, n ≤ cs.length → ∀ b ∈ cellsTo cs hs n, b = 2 ∨ b = 3 := by
  intro n
  induction n with
  | zero => intro _ b hb; simp [cellsTo] at hb
  | succ n ih =>
    intro h b hb
    rw [cellsTo_succ] at hb
    rcases List.mem_append.mp hb with hb | hb
    · exact ih (by omega) b hb
    · rw [List.mem_replicate] at hb
      rw [hb.2, s.cat (by omega)]
      exact s.cnt _ (List.getElem_mem _)
theorem prod_take_le {bs : List Nat} (h : ∀ b ∈ bs, 0 < b) (k : Nat) : prod (bs.take k) ≤ prod bs := by
  have e : prod bs = prod (bs.take k) * prod (bs.drop k) := by rw [← prod_app, List.take_append_drop]
  rw [e]
  exact Nat.le_mul_of_pos_right _ (prod_pos fun b hb => h b (List.mem_of_mem_drop hb))
theorem wayTo_take {cs hs} {m : Nat} : ∀ {n at_}, ∃ a, wayTo cs hs (n + m) at_ = wayTo cs hs n a ++ (wayTo cs hs (n + m) at_).drop n := by
  induction m with
  | zero => intro n at_; exact ⟨at_, by rw [Nat.add_zero, List.drop_of_length_le (by simp), List.append_nil]⟩
  | succ m ih =>
    intro n at_
    rw [← Nat.add_assoc, wayTo]
    obtain ⟨a, e⟩ := ih (n := n) (at_ := at_ / cs.getD (n + m) 0 ^ prod (bnds cs (hs.getD (n + m) [])))
    refine ⟨a, ?_⟩
    rw [List.drop_append_of_le_length (by simp), ← List.append_assoc, ← e]
/-- of each variable the row is as long as it has heard rows -/
theorem wayTo_row {cs hs} : ∀ {n at_ v : Nat} (h : v < (wayTo cs hs n at_).length), ((wayTo cs hs n at_)[v]).length = prod (bnds cs (hs.getD v []))
  | n + 1, at_, v, h => by
    simp only [wayTo]
    by_cases hv : v < n
    · rw [List.getElem_append_left (by simpa using hv)]
      exact wayTo_row _
    · have : v = n := by simp at h; omega
      subst this
      rw [List.getElem_append_right (by simp)]
      simp
theorem ways_b1 (hz : S_size (Φ "_law_size")) (hb : S_bounds (Φ "_law_bounds")) {cs hs} (s : Shape cs hs) (w : List (List Nat)) (hw : w.length = cs.length) (hr : ∀ v (h : v < w.length), w[v].length = prod (bnds cs (hs.getD v [])))
    (a2 x6 x7 : Option M) : ∃ n y6 y7, forGo (.nm 6) (fun g => evSs Φ G W ir_law_ways_b1 g) (rngD 0 cs.length) [some (M.frz (.lst (encN cs))), some (.frz (.lst (encR hs))), a2, some (.frz (.lst (encN w.flatten))), some (.fl []), some (.frz (.int 0)), x6, x7]
      = .ok (.nx [some (M.frz (.lst (encN cs))), some (.frz (.lst (encR hs))), a2, some (.frz (.lst (encN w.flatten))), some (.fl (encR w)), some (.frz (.int n)), y6, y7]) := by
  have hl := s.len
  have hf := s.few
  obtain ⟨g', e, y6, y7, hx⟩ := forN (i := 6) (f := fun g => evSs Φ G W ir_law_ways_b1 g) cs.length
    (fun i g => ∃ x6 x7, g = [some (M.frz (.lst (encN cs))), some (.frz (.lst (encR hs))), a2, some (.frz (.lst (encN w.flatten))), some (.fl (encR (w.take i))), some (.frz (.int ((w.take i).flatten.length : Nat))), x6, x7])
    (g := [some (M.frz (.lst (encN cs))), some (.frz (.lst (encR hs))), a2, some (.frz (.lst (encN w.flatten))), some (.fl []), some (.frz (.int 0)), x6, x7]) ⟨x6, x7, by simp [encR]⟩ (by
      rintro v hv g ⟨x6, x7, rfl⟩
      have hv2 : v < hs.length := by omega
      have hv3 : v < w.length := by omega
      have e1 := hb cs hs s v hv2
      have e2 := hz _ (s.small hv2)
      have hrv := hr v hv3
      rw [s.hat hv2] at hrv
      have e3 : (w.take (v + 1)).flatten = (w.take v).flatten ++ w[v] := by rw [List.take_succ_eq_append_getElem hv3, List.flatten_append]; simp
      have e4 : w.flatten = (w.take v).flatten ++ (w[v] ++ (w.drop (v + 1)).flatten) := by
        conv => lhs; rw [← List.take_append_drop (v + 1) w, List.flatten_append, e3, List.append_assoc]
      have e5 : cutD (encN w.flatten) (some ((w.take v).flatten.length : Nat)) (some (((w.take v).flatten.length : Nat) + (prod (bnds cs hs[v]) : Nat) : Int)) = encN w[v] := by
        rw [show (((w.take v).flatten.length : Nat) + (prod (bnds cs hs[v]) : Nat) : Int) = (((w.take v).flatten.length + w[v].length : Nat) : Int) by omega]
        rw [cut_nn (by rw [encN_len, e4, List.length_append, List.length_append]; omega), encN_drop, encN_take, e4, List.drop_left, Nat.add_sub_cancel_left, List.take_left]
      have hll : v ≤ w.length := by omega
      have hlim : (w.take v).length < lim := by rw [List.length_take, Nat.min_eq_left hll]; unfold lim; omega
      refine ⟨_, ?_, some (.frz (.int v)), some (.frz (.int (prod (bnds cs hs[v]) : Nat))), rfl⟩
      generalize hq : (w.take v).flatten.length = q at *
      rw [e3, List.take_succ_eq_append_getElem hv3]
      have eq2 : ((((w.take v).flatten ++ w[v]).length : Nat) : Int) = (q : Int) + (prod (bnds cs hs[v]) : Nat) := by rw [List.length_append, hq, hrv]; omega
      rw [eq2]
      generalize hu : w.take v = u at *
      simp [ir_law_ways_b1, e1, e2, e5, hlim]
      simp [encR])
  subst hx
  refine ⟨((w.take cs.length).flatten.length : Nat), y6, y7, ?_⟩
  rw [e, List.take_of_length_le (by omega)]
theorem s_law_ways (hz : S_size (Φ "_law_size")) (hb : S_bounds (Φ "_law_bounds")) (hw : S_way_sizes (Φ "_law_way_sizes")) (hr : S_rows (Φ "_law_rows")) : S_ways (evD Φ G W 2 8 ir_law_ways) := by
  intro cs hs s hk
  have hl := s.len
  have hf := s.few
  have e1 := hw cs hs s
  have hcl := cellsTo_len s cs.length (Nat.le_refl _)
  have hcp := cells_pos s cs.length (Nat.le_refl _)
  have hpos : ∀ b ∈ cellsTo cs hs cs.length, 0 < b := fun b h => by rcases hcp b h with h | h <;> omega
  have hwc : prod (cellsTo cs hs cs.length) = ways cs hs := prod_cells
  obtain ⟨m, hm, e2⟩ := hr (cellsTo cs hs cs.length) ⟨fun b h => by rcases hcp b h with h | h <;> (subst h; decide), by omega⟩ (by omega) (fun k => by have := prod_take_le hpos k; omega)
  have hro : rowsOf (cellsTo cs hs cs.length) = (waysOf cs hs).map List.flatten := by
    rw [rowsOf_eq, hwc, waysOf, List.map_map]
    apply List.map_congr_left
    intro n _
    rw [Function.comp, wayTo_flat]
  have er : encR (rowsOf (cellsTo cs hs cs.length)) = (waysOf cs hs).map fun w => D.lst (encN w.flatten) := by rw [hro, encR, List.map_map]; rfl
  rw [er] at hm
  have hwl : (waysOf cs hs).length = ways cs hs := by simp [waysOf]
  obtain ⟨g', e, x3, x4, x5, x6, x7, hx⟩ := forL (t := .nm 3) (f := fun g => evSs Φ G W ir_law_ways_b2 g) (waysOf cs hs) (fun w => D.lst (encN w.flatten))
    (fun i g => ∃ x3 x4 x5 x6 x7, g = [some (M.frz (.lst (encN cs))), some (.frz (.lst (encR hs))), some (.fl (encWy ((waysOf cs hs).take i))), x3, x4, x5, x6, x7])
    (g := [some (M.frz (.lst (encN cs))), some (.frz (.lst (encR hs))), some (.fl []), none, none, none, none, none]) ⟨none, none, none, none, none, by simp [encWy]⟩ (by
      rintro j hj g ⟨x3, x4, x5, x6, x7, rfl⟩
      have hj' : j < ways cs hs := by omega
      have ew : (waysOf cs hs)[j] = wayTo cs hs cs.length j := by simp [waysOf]
      obtain ⟨n, y6, y7, e3⟩ := ways_b1 (G := G) (W := W) hz hb s (waysOf cs hs)[j] (by rw [ew]; simp) (fun v h => by simp only [ew] at h ⊢; exact wayTo_row h) (some (.fl (encWy ((waysOf cs hs).take j)))) x6 x7
      have hlim : ((waysOf cs hs).take j).length < lim := by rw [List.length_take, Nat.min_eq_left (by omega)]; unfold lim; omega
      have hrg : rngR (.int cs.length) = .ok (rngD 0 cs.length, []) := rngR_nat (by omega)
      rw [List.take_succ_eq_append_getElem hj]
      refine ⟨[some (M.frz (.lst (encN cs))), some (.frz (.lst (encR hs))), some (.fl (encWy ((waysOf cs hs).take j ++ [(waysOf cs hs)[j]]))), some (.frz (.lst (encN (waysOf cs hs)[j].flatten))), some (.frz (.lst (encR (waysOf cs hs)[j]))), some (.frz (.int n)), y6, y7], ?_, _, _, _, _, _, rfl⟩
      have hwn : (waysOf cs hs)[j].length = cs.length := by rw [ew]; simp
      have hcp0 := s.pos
      generalize (waysOf cs hs)[j] = w at *
      generalize hu : (waysOf cs hs).take j = u at *
      have hne : D.flats (encR w) = false := flats_R (by rintro rfl; simp at hwn; omega)
      simp -implicitDefEqProofs [ir_law_ways_b2, hrg, e3, hlim, hne]
      simp [encWy])
  subst hx
  rw [List.take_of_length_le (by omega)] at e
  rw [evD_eq (by rfl)]
  rcases hm with rfl | rfl <;> simp -implicitDefEqProofs [ir_law_ways, e1, e2, e]
end
end Ev

set_option maxRecDepth 100000
set_option maxHeartbeats 4000000
namespace Ev
open PySem PySem.Spec PyProof.Rows L2
def ir_rows_apart_b1 : Ss := (.cons (.set (.nm 8) (.call "row_at" (.cons (.slot 3) (.cons (.slot 6) .nil)))) (.cons (.set (.nm 9) (.call "row_at" (.cons (.slot 3) (.cons (.slot 7) .nil)))) (.cons (.ite (.cmp .eq (.bin .add (.sl (.slot 8) .no (.yes (.slot 4))) (.sl (.slot 8) (.yes (.bin .add (.slot 4) (.cst (.int 1)))) .no)) (.bin .add (.sl (.slot 9) .no (.yes (.slot 4))) (.sl (.slot 9) (.yes (.bin .add (.slot 4) (.cst (.int 1)))) .no))) (.cons (.app 5 (.tup (.cons (.slot 6) (.cons (.slot 7) .nil)))) .nil) .nil) .nil)))
def ir_rows_apart_b2 : Ss := (.cons (.for (.nm 7) (.rng2 (.bin .add (.slot 6) (.cst (.int 1))) (.call "size" (.cons (.slot 3) .nil))) ir_rows_apart_b1) .nil)
/-- rows_apart(house, variable, heard); names: 0 house, 1 variable, 2 heard, 3 bounds, 4 at, 5 result, 6 n, 7 m, 8 first, 9 second -/
def ir_rows_apart : Ss := (.cons (.set (.nm 3) (.call "heard_bounds" (.cons (.slot 0) (.cons (.slot 1) .nil)))) (.cons (.set (.nm 4) (.idx (.ix (.fld (.slot 0) 0 2) (.slot 1)) (.slot 2))) (.cons (.set (.nm 5) (.lst .nil)) (.cons (.for (.nm 6) (.rng (.call "size" (.cons (.slot 3) .nil))) ir_rows_apart_b2) (.cons (.ret (.slot 5)) .nil)))))
def d_rows_apart : DefI := ⟨3, 10, ir_rows_apart, none⟩
def ir_never_allows_b1 : Ss := (.cons (.ite (.and (.cmp .eq (.ix (.call "row_at" (.cons (.slot 8) (.cons (.slot 10) .nil))) (.slot 9)) (.slot 7)) (.cmp .eq (.ix (.ix (.slot 2) (.slot 4)) (.slot 10)) (.slot 5))) (.cons (.ret (.cst (.bl false))) .nil) .nil) .nil)
/-- never_allows(house, sentence, way); names: 0 house, 1 sentence, 2 way, 3 kind, 4 variable, 5 word, 6 heard, 7 other, 8 bounds, 9 at, 10 n -/
def ir_never_allows : Ss := (.cons (.set (.tp [3, 4, 5, 6, 7]) (.slot 1)) (.cons (.set (.nm 8) (.call "heard_bounds" (.cons (.slot 0) (.cons (.slot 4) .nil)))) (.cons (.set (.nm 9) (.idx (.ix (.fld (.slot 0) 0 2) (.slot 4)) (.slot 6))) (.cons (.for (.nm 10) (.rng (.call "size" (.cons (.slot 8) .nil))) ir_never_allows_b1) (.cons (.ret (.cst (.bl true))) .nil)))))
def d_never_allows : DefI := ⟨3, 11, ir_never_allows, none⟩
def ir_allows_b1 : Ss := (.cons (.set (.nm 8) (.ix (.ix (.slot 2) (.slot 4)) (.slot 6))) (.cons (.set (.nm 9) (.ix (.ix (.slot 2) (.slot 4)) (.slot 7))) (.cons (.ite (.and (.cmp .eq (.slot 3) (.cst (.str "ignores"))) (.cmp .ne (.slot 8) (.slot 9))) (.cons (.ret (.cst (.bl false))) .nil) .nil) (.cons (.ite (.and (.cmp .eq (.slot 3) (.cst (.str "rises"))) (.cmp .lt (.slot 9) (.slot 8))) (.cons (.ret (.cst (.bl false))) .nil) .nil) (.cons (.ite (.and (.cmp .eq (.slot 3) (.cst (.str "falls"))) (.cmp .lt (.slot 8) (.slot 9))) (.cons (.ret (.cst (.bl false))) .nil) .nil) .nil)))))
/-- allows(house, sentence, way); names: 0 house, 1 sentence, 2 way, 3 kind, 4 variable, 5 heard, 6 n, 7 m, 8 first, 9 second -/
def ir_allows : Ss := (.cons (.ite (.cmp .eq (.ix (.slot 1) (.cst (.int 0))) (.cst (.str "never"))) (.cons (.ret (.call "never_allows" (.cons (.slot 0) (.cons (.slot 1) (.cons (.slot 2) .nil))))) .nil) .nil) (.cons (.set (.tp [3, 4, 5]) (.slot 1)) (.cons (.for (.tp [6, 7]) (.over (.call "rows_apart" (.cons (.slot 0) (.cons (.slot 4) (.cons (.slot 5) .nil))))) ir_allows_b1) (.cons (.ret (.cst (.bl true))) .nil))))
def d_allows : DefI := ⟨3, 10, ir_allows, none⟩
end Ev

set_option maxRecDepth 100000
set_option maxHeartbeats 4000000
/-! Sentences. -/
namespace Ev
open PySem PySem.Spec PyProof.Rows L2
/-- pairs of numbers as data -/
def encP (l : List (Nat × Nat)) : List D := l.map fun p => .tup [.int p.1, .int p.2]
@[simp] theorem encP_len {l} : (encP l).length = l.length := by simp [encP]
theorem encP_snoc {l : List (Nat × Nat)} {a b : Nat} : encP l ++ [.tup [.int a, .int b]] = encP (l ++ [(a, b)]) := by simp [encP]
@[simp] theorem flats_P {l} : D.flats (encP l) = true := flats_map fun _ _ => by simp
theorem encN_getD {l : List Nat} {j : Nat} (h : j < l.length) : atI (encN l) (j : Int) = some (.int (l.getD j 0 : Nat)) := by
  rw [encN_at rfl h, List.getD_eq_getElem?_getD, List.getElem?_eq_getElem h]; rfl
theorem encR_getD {l : List (List Nat)} {j : Nat} (h : j < l.length) : atI (encR l) (j : Int) = some (.lst (encN (l.getD j []))) := by
  rw [encR_at rfl h, List.getD_eq_getElem?_getD, List.getElem?_eq_getElem h]; rfl
inductive Sent where
  | ign (v u : Nat)
  | ris (v u : Nat)
  | fal (v u : Nat)
  | nev (v w u o : Nat)
  deriving DecidableEq
def Sent.v : Sent → Nat
  | .ign v _ => v
  | .ris v _ => v
  | .fal v _ => v
  | .nev v _ _ _ => v
def Sent.u : Sent → Nat
  | .ign _ u => u
  | .ris _ u => u
  | .fal _ u => u
  | .nev _ _ u _ => u
def Sent.enc : Sent → D
  | .ign v u => .tup [.str "ignores", .int v, .int u]
  | .ris v u => .tup [.str "rises", .int v, .int u]
  | .fal v u => .tup [.str "falls", .int v, .int u]
  | .nev v w u o => .tup [.str "never", .int v, .int w, .int u, .int o]
structure Sent.Ok (cs : List Nat) (hs : List (List Nat)) (s : Sent) : Prop where
  v : s.v < cs.length
  u : s.u ∈ hs.getD s.v []
  wo : ∀ v w u o, s = .nev v w u o → w < cs.getD v 0 ∧ o < cs.getD u 0
/-- the same but for one place -/
def apart (a b : List Nat) (k : Nat) : Bool := decide (a.take k ++ a.drop (k + 1) = b.take k ++ b.drop (k + 1))
def pairsAt (bs : List Nat) (p n m : Nat) : List (Nat × Nat) := ((List.range' (n + 1) (m - (n + 1))).filter fun m => apart (rowAt bs n) (rowAt bs m) p).map fun m => (n, m)
def pairsTo (bs : List Nat) (p n : Nat) : List (Nat × Nat) := (List.range n).flatMap fun n => pairsAt bs p n (prod bs)
/-- what a sentence asks of a way's words at a variable's heard rows -/
def Sent.allow (cs : List Nat) (hs : List (List Nat)) (w : List (List Nat)) (s : Sent) : Bool :=
  let bs := bnds cs (hs.getD s.v [])
  let p := (hs.getD s.v []).idxOf s.u
  let r := w.getD s.v []
  match s with
  | .ign _ _ => !(pairsTo bs p (prod bs)).any fun x => r.getD x.1 0 != r.getD x.2 0
  | .ris _ _ => !(pairsTo bs p (prod bs)).any fun x => decide (r.getD x.2 0 < r.getD x.1 0)
  | .fal _ _ => !(pairsTo bs p (prod bs)).any fun x => decide (r.getD x.1 0 < r.getD x.2 0)
  | .nev _ wd _ o => !(List.range (prod bs)).any fun n => (rowAt bs n).getD p 0 == o && r.getD n 0 == wd
/-- a way of a shape -/
structure Way (cs : List Nat) (hs : List (List Nat)) (w : List (List Nat)) : Prop where
  len : w.length = cs.length
  row : ∀ v, v < cs.length → (w.getD v []).length = prod (bnds cs (hs.getD v []))
  low : ∀ v, v < cs.length → ∀ x ∈ w.getD v [], x < cs.getD v 0
def S_apart (F : List D → Res M) : Prop := ∀ nm ws hs, House nm ws hs → ∀ v u, v < hs.length → u ∈ hs.getD v [] →
  F [encHo nm ws hs, .int v, .int u] = .ok (.fl (encP (pairsTo (bnds (cnts ws) (hs.getD v [])) ((hs.getD v []).idxOf u) (prod (bnds (cnts ws) (hs.getD v []))))))
def S_never (F : List D → Res M) : Prop := ∀ nm ws hs, House nm ws hs → ∀ v wd u o, Sent.Ok (cnts ws) hs (.nev v wd u o) → ∀ w, Way (cnts ws) hs w →
  F [encHo nm ws hs, (Sent.nev v wd u o).enc, .lst (encR w)] = .ok (.frz (.bl ((Sent.nev v wd u o).allow (cnts ws) hs w)))
def S_allows (F : List D → Res M) : Prop := ∀ nm ws hs, House nm ws hs → ∀ s, Sent.Ok (cnts ws) hs s → ∀ w, Way (cnts ws) hs w →
  F [encHo nm ws hs, s.enc, .lst (encR w)] = .ok (.frz (.bl (s.allow (cnts ws) hs w)))
theorem pairsAt_len {bs p n m} : (pairsAt bs p n m).length ≤ m := by
  rw [pairsAt, List.length_map]
  exact Nat.le_trans (List.length_filter_le _ _) (by rw [List.length_range']; omega)
theorem pairsTo_succ {bs p n} : pairsTo bs p (n + 1) = pairsTo bs p n ++ pairsAt bs p n (prod bs) := by
  unfold pairsTo; rw [List.range_succ, List.flatMap_append]; simp
theorem pairsTo_len {bs p} : ∀ {n}, (pairsTo bs p n).length ≤ n * prod bs
  | 0 => by simp [pairsTo]
  | n + 1 => by
    have h1 := @pairsTo_len bs p n
    have h2 := @pairsAt_len bs p n (prod bs)
    rw [pairsTo_succ, List.length_append, Nat.succ_mul]
    omega
theorem pairsAt_succ {bs p n m} (h : n < m) : pairsAt bs p n (m + 1) = pairsAt bs p n m ++ if apart (rowAt bs n) (rowAt bs m) p then [(n, m)] else [] := by
  unfold pairsAt
  rw [show m + 1 - (n + 1) = m - (n + 1) + 1 by omega, List.range'_concat, List.filter_append, List.map_append]
  congr 1
  rw [show n + 1 + 1 * (m - (n + 1)) = m by omega, List.filter_cons]
  cases apart (rowAt bs n) (rowAt bs m) p <;> simp
section
variable {Φ : String → List D → Res M} {G : String → Option D} {W : Nat}
theorem apart_b1 (hr : S_row_at (Φ "row_at")) {bs : List Nat} (hb : Small bs) (a0 a1 a2 : Option M) (p : Nat) (acc : List (Nat × Nat)) (n N : Nat) (hn : n < N) (hN : N ≤ 100) (hacc : acc.length ≤ 900000) (x7 x8 x9 : Option M) :
    ∃ y7 y8 y9, forGo (.nm 7) (fun g => evSs Φ G W ir_rows_apart_b1 g) (rngD ((n + 1 : Nat) : Int) (N : Nat)) [a0, a1, a2, some (.fl (encN bs)), some (.frz (.int (p : Nat))), some (.fl (encP acc)), some (.frz (.int (n : Nat))), x7, x8, x9]
      = .ok (.nx [a0, a1, a2, some (.fl (encN bs)), some (.frz (.int (p : Nat))), some (.fl (encP (acc ++ pairsAt bs p n N))), some (.frz (.int (n : Nat))), y7, y8, y9]) := by
  obtain ⟨g', e, y7, y8, y9, hx⟩ := forN2 (i := 7) (f := fun g => evSs Φ G W ir_rows_apart_b1 g) (n + 1) N (by omega)
    (fun i g => ∃ x7 x8 x9, g = [a0, a1, a2, some (.fl (encN bs)), some (.frz (.int (p : Nat))), some (.fl (encP (acc ++ pairsAt bs p n i))), some (.frz (.int (n : Nat))), x7, x8, x9])
    (g := [a0, a1, a2, some (.fl (encN bs)), some (.frz (.int (p : Nat))), some (.fl (encP acc)), some (.frz (.int (n : Nat))), x7, x8, x9]) ⟨x7, x8, x9, by simp [pairsAt]⟩ (by
      rintro m h1 h2 g ⟨x7, x8, x9, rfl⟩
      have e1 := hr bs n hb
      have e2 := hr bs m hb
      have l1 : (acc ++ pairsAt bs p n m).length < lim := by have := @pairsAt_len bs p n m; rw [List.length_append]; unfold lim; omega
      have l2 : min p bs.length + (bs.length - (p + 1)) < lim := by have := hb.2; unfold lim; omega
      have c1 : ∀ q, cutD (encN (rowAt bs q)) none (some (p : Int)) = encN ((rowAt bs q).take p) := fun q => by rw [cut_no, encN_take]
      have c2 : ∀ q, cutD (encN (rowAt bs q)) (some ((p : Int) + 1)) none = encN ((rowAt bs q).drop (p + 1)) := fun q => by rw [show (p : Int) + 1 = ((p + 1 : Nat) : Int) by omega, cut_on, encN_drop]
      rw [pairsAt_succ (by omega)]
      cases hap : apart (rowAt bs n) (rowAt bs m) p with
      | true =>
        refine ⟨_, ?_, some (.frz (.int m)), some (.fl (encN (rowAt bs n))), some (.fl (encN (rowAt bs m))), rfl⟩
        simp only [if_true, ← List.append_assoc, ← encP_snoc]
        generalize acc ++ pairsAt bs p n m = u at *
        simp [apart] at hap
        simp [ir_rows_apart_b1, e1, e2, c1, c2, ← encN_app, cmp_eqN, hap, l1, l2]
      | false =>
        refine ⟨_, ?_, some (.frz (.int m)), some (.fl (encN (rowAt bs n))), some (.fl (encN (rowAt bs m))), rfl⟩
        simp [apart] at hap
        simp [ir_rows_apart_b1, e1, e2, c1, c2, ← encN_app, cmp_eqN, hap, l2])
  subst hx
  exact ⟨y7, y8, y9, e⟩
theorem s_apart (hz : S_size (Φ "size")) (hb : S_heard (Φ "heard_bounds")) (hr : S_row_at (Φ "row_at")) : S_apart (evD Φ G W 3 10 ir_rows_apart) := by
  intro nm ws hs H v u hv hu
  have s := H.shape
  have hg : hs.getD v [] = hs[v] := s.hat hv
  rw [hg] at hu ⊢
  have e0 := hb nm ws hs H v hv
  have sm := s.small hv
  have e1 := hz _ sm
  obtain ⟨r1, r2⟩ := s.rows hv
  generalize bnds (cnts ws) hs[v] = bs at *
  have eh := encR_at (r := hs) (i := (v : Int)) rfl hv
  have ei := @idxR_N hs[v] u [] hu
  generalize hs[v].idxOf u = p at *
  have hrg : rngR (.int (prod bs : Nat)) = .ok (rngD 0 (prod bs : Nat), []) := rngR_nat (by omega)
  obtain ⟨g', e, y6, y7, y8, y9, hx⟩ := forN (i := 6) (f := fun g => evSs Φ G W ir_rows_apart_b2 g) (prod bs)
    (fun i g => ∃ x6 x7 x8 x9, g = [some (.frz (encHo nm ws hs)), some (.frz (.int (v : Nat))), some (.frz (.int (u : Nat))), some (.fl (encN bs)), some (.frz (.int (p : Nat))), some (.fl (encP (pairsTo bs p i))), x6, x7, x8, x9])
    (g := [some (.frz (encHo nm ws hs)), some (.frz (.int (v : Nat))), some (.frz (.int (u : Nat))), some (.fl (encN bs)), some (.frz (.int (p : Nat))), some (.fl []), none, none, none, none]) ⟨none, none, none, none, by simp [pairsTo, encP]⟩ (by
      rintro n hn g ⟨x6, x7, x8, x9, rfl⟩
      have hrg2 : rng2R (.int ((n : Int) + 1)) (.int (prod bs : Nat)) = .ok (rngD ((n : Int) + 1) (prod bs : Nat), []) := rng2R_i (by omega) (by omega)
      have hll := @pairsTo_len bs p n
      have hll2 : n * prod bs ≤ 81 * 81 := Nat.mul_le_mul (by omega) r2
      obtain ⟨y7, y8, y9, e2⟩ := apart_b1 (Φ := Φ) (G := G) (W := W) hr sm (some (.frz (encHo nm ws hs))) (some (.frz (.int (v : Nat)))) (some (.frz (.int (u : Nat)))) p (pairsTo bs p n) n (prod bs) hn (by omega) (by omega) x7 x8 x9
      rw [show ((n + 1 : Nat) : Int) = (n : Int) + 1 by omega] at e2
      rw [pairsTo_succ]
      refine ⟨_, ?_, some (.frz (.int n)), y7, y8, y9, rfl⟩
      simp -implicitDefEqProofs [ir_rows_apart_b2, e1, hrg2, e2])
  subst hx
  rw [evD_eq (by rfl)]
  simp -implicitDefEqProofs [ir_rows_apart, e0, eh, ei, e1, hrg, e]
theorem s_never (hz : S_size (Φ "size")) (hb : S_heard (Φ "heard_bounds")) (hr : S_row_at (Φ "row_at")) : S_never (evD Φ G W 3 11 ir_never_allows) := by
  intro nm ws hs H v wd u o ok w hw
  have s := H.shape
  have hl := s.len
  have hv : v < hs.length := by have := ok.v; simp only [Sent.v] at this; omega
  have hvc : v < (cnts ws).length := by omega
  have hu : u ∈ hs.getD v [] := ok.u
  have e0 := hb nm ws hs H v hv
  have sm := s.small hv
  have e1 := hz _ sm
  have eh := encR_getD (l := hs) hv
  have ei := @idxR_N (hs.getD v []) u [] hu
  have hwr := hw.row v hvc
  have ew := encR_getD (l := w) (j := v) (by rw [hw.len]; exact hvc)
  have hp : (hs.getD v []).idxOf u < (bnds (cnts ws) (hs.getD v [])).length := by rw [bnds_len]; exact List.idxOf_lt_length_iff.mpr hu
  obtain ⟨r1, r2⟩ := s.rows hv
  simp only [Sent.allow, Sent.v, Sent.u]
  rw [← s.hat hv] at e0 e1 sm r1 r2
  generalize bnds (cnts ws) (hs.getD v []) = bs at *
  generalize (hs.getD v []).idxOf u = p at *
  generalize hrw : w.getD v [] = r at *
  have hrg : rngR (.int (prod bs : Nat)) = .ok (rngD 0 (prod bs : Nat), []) := rngR_nat (by omega)
  have key := forN_rt (i := 10) (f := fun g => evSs Φ G W ir_never_allows_b1 g) (prod bs)
    (fun i g => ∃ x10, g = [some (.frz (encHo nm ws hs)), some (.frz (Sent.nev v wd u o).enc), some (.frz (.lst (encR w))), some (.frz (.str "never")), some (.frz (.int (v : Nat))), some (.frz (.int (wd : Nat))), some (.frz (.int (u : Nat))), some (.frz (.int (o : Nat))), some (.fl (encN bs)), some (.frz (.int (p : Nat))), x10])
    (fun n => (rowAt bs n).getD p 0 == o && r.getD n 0 == wd) (.frz (.bl false))
    (g := [some (.frz (encHo nm ws hs)), some (.frz (Sent.nev v wd u o).enc), some (.frz (.lst (encR w))), some (.frz (.str "never")), some (.frz (.int (v : Nat))), some (.frz (.int (wd : Nat))), some (.frz (.int (u : Nat))), some (.frz (.int (o : Nat))), some (.fl (encN bs)), some (.frz (.int (p : Nat))), none]) ⟨none, rfl⟩ (by
      rintro n hn g ⟨x10, rfl⟩
      have e2 := hr bs n sm
      have e3 := encN_getD (l := rowAt bs n) (j := p) (by simpa using hp)
      have e4 := encN_getD (l := r) (j := n) (by omega)
      generalize (rowAt bs n).getD p 0 = a at *
      generalize r.getD n 0 = b at *
      by_cases ha : a = o
      · by_cases hb : b = wd
        · simp [ir_never_allows_b1, e2, e3, ew, e4, ha, hb]
        · have hb' : ¬ (b : Int) = wd := by omega
          simp [ir_never_allows_b1, e2, e3, ew, e4, ha, hb, hb']
      · have ha' : ¬ (a : Int) = o := by omega
        simp [ir_never_allows_b1, e2, e3, ew, e4, ha, ha'])
  rw [evD_eq (by rfl)]
  cases hq : (List.range (prod bs)).any (fun n => (rowAt bs n).getD p 0 == o && r.getD n 0 == wd) with
  | true =>
    rw [hq, if_pos rfl] at key
    simp -implicitDefEqProofs [-List.getD_eq_getElem?_getD, ir_never_allows, Sent.enc, e0, eh, ei, e1, hrg]
    simp only [Sent.enc] at key
    rw [key]; simp -implicitDefEqProofs [-List.getD_eq_getElem?_getD]
  | false =>
    rw [hq, if_neg (by simp)] at key
    obtain ⟨g', e, x, rfl⟩ := key
    simp only [Sent.enc] at e
    simp -implicitDefEqProofs [-List.getD_eq_getElem?_getD, ir_never_allows, Sent.enc, e0, eh, ei, e1, hrg]
    rw [e]; simp
theorem mem_pairsTo {bs p N} {x : Nat × Nat} (h : x ∈ pairsTo bs p N) : x.1 < N ∧ x.2 < prod bs ∧ x.1 < x.2 := by
  unfold pairsTo at h
  obtain ⟨n, hn, h⟩ := List.mem_flatMap.mp h
  simp only [pairsAt, List.mem_map, List.mem_filter, List.mem_range'_1] at h
  obtain ⟨m, ⟨h1, _⟩, rfl⟩ := h
  have := List.mem_range.mp hn
  exact ⟨this, by simp only; omega, by simp only; omega⟩
theorem allows_loop {i1 i2 i3 : Bool} (kd : Str) (hi : (i1, i2, i3) = (true, false, false) ∨ (i1, i2, i3) = (false, true, false) ∨ (i1, i2, i3) = (false, false, true)) (c1 : cmpD .eq (.str kd) (.str "ignores") = some i1) (c2 : cmpD .eq (.str kd) (.str "rises") = some i2) (c3 : cmpD .eq (.str kd) (.str "falls") = some i3)
    (a0 a1 : Option M) (v : Nat) (u : D) {w : List (List Nat)} (hvw : v < w.length) (ps : List (Nat × Nat)) (hps : ∀ x ∈ ps, x.1 < (w.getD v []).length ∧ x.2 < (w.getD v []).length) :
    (if ps.any (fun x => (i1 && (w.getD v []).getD x.1 0 != (w.getD v []).getD x.2 0) || (i2 && decide ((w.getD v []).getD x.2 0 < (w.getD v []).getD x.1 0)) || (i3 && decide ((w.getD v []).getD x.1 0 < (w.getD v []).getD x.2 0))) then
      forGo (.tp [6, 7]) (fun g => evSs Φ G W ir_allows_b1 g) (encP ps) [a0, a1, some (.frz (.lst (encR w))), some (.frz (.str kd)), some (.frz (.int (v : Nat))), some (.frz u), none, none, none, none] = .ok (.rt (.frz (.bl false)))
    else ∃ g', forGo (.tp [6, 7]) (fun g => evSs Φ G W ir_allows_b1 g) (encP ps) [a0, a1, some (.frz (.lst (encR w))), some (.frz (.str kd)), some (.frz (.int (v : Nat))), some (.frz u), none, none, none, none] = .ok (.nx g')) := by
  have key := forL_rt (t := .tp [6, 7]) (f := fun g => evSs Φ G W ir_allows_b1 g) ps (fun p => D.tup [.int p.1, .int p.2])
    (fun i g => ∃ x6 x7 x8 x9, g = [a0, a1, some (.frz (.lst (encR w))), some (.frz (.str kd)), some (.frz (.int (v : Nat))), some (.frz u), x6, x7, x8, x9])
    (fun x => (i1 && (w.getD v []).getD x.1 0 != (w.getD v []).getD x.2 0) || (i2 && decide ((w.getD v []).getD x.2 0 < (w.getD v []).getD x.1 0)) || (i3 && decide ((w.getD v []).getD x.1 0 < (w.getD v []).getD x.2 0))) (.frz (.bl false))
    (g := [a0, a1, some (.frz (.lst (encR w))), some (.frz (.str kd)), some (.frz (.int (v : Nat))), some (.frz u), none, none, none, none]) ⟨none, none, none, none, rfl⟩ (by
      rintro j hj g ⟨x6, x7, x8, x9, rfl⟩
      obtain ⟨p1, p2⟩ := hps ps[j] (List.getElem_mem _)
      generalize ps[j] = x at *
      obtain ⟨n, m⟩ := x
      simp only at p1 p2
      have ew := encR_getD (l := w) (j := v) hvw
      simp only
      generalize w.getD v [] = r at *
      have e1 := encN_getD (l := r) (j := n) p1
      have e2 := encN_getD (l := r) (j := m) p2
      generalize r.getD n 0 = a at *
      generalize r.getD m 0 = b at *
      rcases hi with h | h | h <;> (simp only [Prod.mk.injEq] at h; obtain ⟨rfl, rfl, rfl⟩ := h) <;> rcases Nat.lt_trichotomy a b with h | h | h
      all_goals first
        | (have h1 : (a : Int) < b := by omega
           have h2 : ¬ (b : Int) < a := by omega
           have h3 : ¬ (a : Int) = b := by omega
           have h4 : ¬ a = b := by omega
           have h5 : ¬ b < a := by omega
           simp [ir_allows_b1, ew, e1, e2, c1, c2, c3, h, h1, h2, h3, h4, h5]; done)
        | (subst h
           simp [ir_allows_b1, ew, e1, e2, c1, c2, c3]; done)
        | (have h1 : (b : Int) < a := by omega
           have h2 : ¬ (a : Int) < b := by omega
           have h3 : ¬ (a : Int) = b := by omega
           have h4 : ¬ a = b := by omega
           have h5 : ¬ a < b := by omega
           simp [ir_allows_b1, ew, e1, e2, c1, c2, c3, h, h1, h2, h3, h4, h5]; done))
  unfold encP
  split
  · rename_i hq; rw [if_pos hq] at key; exact key
  · rename_i hq; rw [if_neg hq] at key; obtain ⟨g', e, _⟩ := key; exact ⟨g', e⟩
theorem c_in : cmpD .eq (.str "ignores") (.str "never") = some false := by decide +kernel
theorem c_rn : cmpD .eq (.str "rises") (.str "never") = some false := by decide +kernel
theorem c_fn : cmpD .eq (.str "falls") (.str "never") = some false := by decide +kernel
theorem c_nn : cmpD .eq (.str "never") (.str "never") = some true := by decide +kernel
theorem c_ii : cmpD .eq (.str "ignores") (.str "ignores") = some true := by decide +kernel
theorem c_ir : cmpD .eq (.str "ignores") (.str "rises") = some false := by decide +kernel
theorem c_if : cmpD .eq (.str "ignores") (.str "falls") = some false := by decide +kernel
theorem c_ri : cmpD .eq (.str "rises") (.str "ignores") = some false := by decide +kernel
theorem c_rr : cmpD .eq (.str "rises") (.str "rises") = some true := by decide +kernel
theorem c_rf : cmpD .eq (.str "rises") (.str "falls") = some false := by decide +kernel
theorem c_fi : cmpD .eq (.str "falls") (.str "ignores") = some false := by decide +kernel
theorem c_fr : cmpD .eq (.str "falls") (.str "rises") = some false := by decide +kernel
theorem c_ff : cmpD .eq (.str "falls") (.str "falls") = some true := by decide +kernel
theorem s_allows (hn : S_never (Φ "never_allows")) (ha : S_apart (Φ "rows_apart")) : S_allows (evD Φ G W 3 10 ir_allows) := by
  intro nm ws hs H s ok w hw
  have hl := H.shape.len
  have hv : s.v < hs.length := by have := ok.v; omega
  have hvc : s.v < (cnts ws).length := by omega
  have hwr := hw.row s.v hvc
  have hvw : s.v < w.length := by rw [hw.len]; exact hvc
  have hps : ∀ x ∈ pairsTo (bnds (cnts ws) (hs.getD s.v [])) ((hs.getD s.v []).idxOf s.u) (prod (bnds (cnts ws) (hs.getD s.v []))), x.1 < (w.getD s.v []).length ∧ x.2 < (w.getD s.v []).length := by
    intro x hx
    have := mem_pairsTo hx
    rw [hwr]; omega
  have ea := ha nm ws hs H s.v s.u hv ok.u
  cases s with
  | nev v wd u o =>
    have e := hn nm ws hs H v wd u o ok w hw
    rw [evD_eq (by rfl)]
    simp only [Sent.enc] at e
    simp [ir_allows, Sent.enc, c_nn, e]
  | ign v u =>
    simp only [Sent.v, Sent.u] at *
    have key := allows_loop (Φ := Φ) (G := G) (W := W) "ignores" (.inl rfl) c_ii c_ir c_if (some (.frz (encHo nm ws hs))) (some (.frz (Sent.ign v u).enc)) v (.int (u : Nat)) hvw _ hps
    rw [evD_eq (by rfl)]
    simp only [Sent.enc, Sent.allow, Sent.v, Sent.u, Bool.true_and, Bool.false_and, Bool.or_false, Bool.false_or] at *
    split at key
    · rename_i hq; exact Eq.trans (by simp -implicitDefEqProofs [-List.getD_eq_getElem?_getD, ir_allows, c_in, ea, key]) (congrArg (fun b => Res.ok (M.frz (D.bl (!b)))) hq.symm)
    · rename_i hq; obtain ⟨g', e⟩ := key; rw [Bool.not_eq_true] at hq; exact Eq.trans (by simp -implicitDefEqProofs [-List.getD_eq_getElem?_getD, ir_allows, c_in, ea, e]) (congrArg (fun b => Res.ok (M.frz (D.bl (!b)))) hq.symm)
  | ris v u =>
    simp only [Sent.v, Sent.u] at *
    have key := allows_loop (Φ := Φ) (G := G) (W := W) "rises" (.inr (.inl rfl)) c_ri c_rr c_rf (some (.frz (encHo nm ws hs))) (some (.frz (Sent.ris v u).enc)) v (.int (u : Nat)) hvw _ hps
    rw [evD_eq (by rfl)]
    simp only [Sent.enc, Sent.allow, Sent.v, Sent.u, Bool.true_and, Bool.false_and, Bool.or_false, Bool.false_or] at *
    split at key
    · rename_i hq; exact Eq.trans (by simp -implicitDefEqProofs [-List.getD_eq_getElem?_getD, ir_allows, c_rn, ea, key]) (congrArg (fun b => Res.ok (M.frz (D.bl (!b)))) hq.symm)
    · rename_i hq; obtain ⟨g', e⟩ := key; rw [Bool.not_eq_true] at hq; exact Eq.trans (by simp -implicitDefEqProofs [-List.getD_eq_getElem?_getD, ir_allows, c_rn, ea, e]) (congrArg (fun b => Res.ok (M.frz (D.bl (!b)))) hq.symm)
  | fal v u =>
    simp only [Sent.v, Sent.u] at *
    have key := allows_loop (Φ := Φ) (G := G) (W := W) "falls" (.inr (.inr rfl)) c_fi c_fr c_ff (some (.frz (encHo nm ws hs))) (some (.frz (Sent.fal v u).enc)) v (.int (u : Nat)) hvw _ hps
    rw [evD_eq (by rfl)]
    simp only [Sent.enc, Sent.allow, Sent.v, Sent.u, Bool.true_and, Bool.false_and, Bool.or_false, Bool.false_or] at *
    split at key
    · rename_i hq; exact Eq.trans (by simp -implicitDefEqProofs [-List.getD_eq_getElem?_getD, ir_allows, c_fn, ea, key]) (congrArg (fun b => Res.ok (M.frz (D.bl (!b)))) hq.symm)
    · rename_i hq; obtain ⟨g', e⟩ := key; rw [Bool.not_eq_true] at hq; exact Eq.trans (by simp -implicitDefEqProofs [-List.getD_eq_getElem?_getD, ir_allows, c_fn, ea, e]) (congrArg (fun b => Res.ok (M.frz (D.bl (!b)))) hq.symm)
end
end Ev

set_option maxRecDepth 100000
set_option maxHeartbeats 4000000
namespace Ev
open PySem PySem.Spec PyProof.Rows L2
/-- copy_table(table); names: 0 table, 1 setting, 2 seen, 3 bounds -/
def ir_copy_table : Ss := (.cons (.set (.tp [1, 2, 3]) (.slot 0)) (.cons (.ret (.tup (.cons (.bi .lst (.cons (.slot 1) .nil)) (.cons (.bi .lst (.cons (.slot 2) .nil)) (.cons (.bi .lst (.cons (.slot 3) .nil)) .nil))))) .nil))
def d_copy_table : DefI := ⟨1, 4, ir_copy_table, none⟩
def ir_ways_left_e1 : E := .slot 4
def ir_ways_left_o1 : E := .not (.call "allows" (.cons (.slot 0) (.cons (.slot 4) (.cons (.slot 3) .nil))))
def ir_ways_left_b1 : Ss := (.cons (.ite (.not (.comp ir_ways_left_e1 (.nm 4) (.over (.slot 1)) (.yes ir_ways_left_o1))) (.cons (.app 2 (.slot 3)) .nil) .nil) .nil)
/-- ways_left(house, sentences); names: 0 house, 1 sentences, 2 result, 3 way, 4 one -/
def ir_ways_left : Ss := (.cons (.set (.nm 2) (.lst .nil)) (.cons (.for (.nm 3) (.over (.call "all_ways" (.cons (.slot 0) .nil))) ir_ways_left_b1) (.cons (.ret (.slot 2)) .nil)))
def d_ways_left : DefI := ⟨2, 5, ir_ways_left, none⟩
def ir_Data_e1 : E := .call "copy_table" (.cons (.slot 4) .nil)
/-- class Data; names: 0 self, 1 house, 2 sentences, 3 tables, 4 table -/
def es_Data : List E := [.slot 1, .bi .lst (.cons (.slot 2) .nil), .comp ir_Data_e1 (.nm 4) (.over (.slot 3)) .no, .call "ways_left" (.cons (.slot 1) (.cons (.slot 2) .nil))]
def d_Data : DefI := ⟨3, 5, .nil, some (1, es_Data)⟩
end Ev

set_option maxRecDepth 100000
set_option maxHeartbeats 4000000
/-! Data. -/
namespace Ev
open PySem PySem.Spec PyProof.Rows L2
theorem wayTo_low {cs hs} (s : Shape cs hs) : ∀ {n at_ : Nat}, n ≤ cs.length → ∀ v, v < n → ∀ x ∈ (wayTo cs hs n at_).getD v [], x < cs.getD v 0
  | 0, _, _, v, hv, _, _ => by omega
  | n + 1, at_, hn, v, hv, x, hx => by
    rw [wayTo, List.getD_eq_getElem?_getD] at hx
    by_cases h : v < n
    · rw [List.getElem?_append_left (by simpa using h), ← List.getD_eq_getElem?_getD] at hx
      exact wayTo_low s (by omega) v h x hx
    · have : v = n := by omega
      subst this
      rw [List.getElem?_append_right (by simp)] at hx
      simp only [wayTo_len, Nat.sub_self, List.getElem?_cons_zero, Option.getD_some] at hx
      obtain ⟨k, hk, rfl⟩ := List.getElem_of_mem hx
      have hk' : k < (List.replicate (prod (bnds cs (hs.getD v []))) (cs.getD v 0)).length := by simpa using hk
      have := rowAt_lt (List.replicate (prod (bnds cs (hs.getD v []))) (cs.getD v 0)) at_ (fun b hb => by
        rw [List.mem_replicate] at hb
        rw [hb.2, s.cat (by omega)]
        rcases s.cnt cs[v] (List.getElem_mem _) with h | h <;> omega) k hk'
      simpa using this
theorem wayTo_way {cs hs} (s : Shape cs hs) (n : Nat) : Way cs hs (wayTo cs hs cs.length n) := by
  refine ⟨by simp, fun v hv => ?_, fun v hv => wayTo_low s (Nat.le_refl _) v hv⟩
  have h : v < (wayTo cs hs cs.length n).length := by simpa using hv
  rw [List.getD_eq_getElem?_getD, List.getElem?_eq_getElem h]
  exact wayTo_row h
theorem mem_waysOf {cs hs} (s : Shape cs hs) {w : List (List Nat)} (h : w ∈ waysOf cs hs) : Way cs hs w := by
  simp only [waysOf, List.mem_map] at h
  obtain ⟨n, _, rfl⟩ := h
  exact wayTo_way s n
@[simp] theorem waysOf_len {cs hs} : (waysOf cs hs).length = ways cs hs := by simp [waysOf]
/-- the ways that all sentences leave -/
def leftOf (cs : List Nat) (hs : List (List Nat)) (ss : List Sent) : List (List (List Nat)) := (waysOf cs hs).filter fun w => ss.all fun s => s.allow cs hs w
def encSs (ss : List Sent) : List D := ss.map Sent.enc
def S_left (F : List D → Res M) : Prop := ∀ nm ws hs, House nm ws hs → ways (cnts ws) hs ≤ 512 → ∀ ss : List Sent, ss.length < 1000 → (∀ s ∈ ss, Sent.Ok (cnts ws) hs s) →
  F [encHo nm ws hs, .lst (encSs ss)] = .ok (.fl (encWy (leftOf (cnts ws) hs ss)))
def S_copy (F : List D → Res M) : Prop := ∀ a b c, F [.tup [.lst a, .lst b, .lst c]] = .ok (.frz (.tup [.lst a, .lst b, .lst c]))
def IsTab (d : D) : Prop := ∃ a b c, d = .tup [.lst a, .lst b, .lst c]
/-- data as data -/
def encDa (nm : List Str) (ws : List (List Str)) (hs : List (List Nat)) (ss : List Sent) (ts : List D) : D := .obj 1 [encHo nm ws hs, .lst (encSs ss), .lst ts, .lst (encWy (leftOf (cnts ws) hs ss))]
def S_Data (F : List D → Res M) : Prop := ∀ nm ws hs, House nm ws hs → ways (cnts ws) hs ≤ 512 → ∀ ss : List Sent, ss.length < 1000 → (∀ s ∈ ss, Sent.Ok (cnts ws) hs s) → ∀ ts : List D, ts.length < 1000 → (∀ t ∈ ts, IsTab t) →
  F [encHo nm ws hs, .lst (encSs ss), .lst ts] = .ok (.frz (encDa nm ws hs ss ts))
@[simp] theorem fld_D0 {nm ws hs ss ts T} : fldR 1 0 (encDa nm ws hs ss ts, T) = .ok (.frz (encHo nm ws hs), T) := by simp [encDa]
@[simp] theorem fld_D1 {nm ws hs ss ts T} : fldR 1 1 (encDa nm ws hs ss ts, T) = .ok (.frz (.lst (encSs ss)), T) := by simp [encDa]
@[simp] theorem fld_D2 {nm ws hs ss ts T} : fldR 1 2 (encDa nm ws hs ss ts, T) = .ok (.frz (.lst ts), T) := by simp [encDa]
@[simp] theorem fld_D3 {nm ws hs ss ts T} : fldR 1 3 (encDa nm ws hs ss ts, T) = .ok (.frz (.lst (encWy (leftOf (cnts ws) hs ss))), T) := by simp [encDa]
section
variable {Φ : String → List D → Res M} {G : String → Option D} {W : Nat}
theorem s_copy : S_copy (evD Φ G W 1 4 ir_copy_table) := by
  intro a b c
  rw [evD_eq (by rfl)]
  simp [ir_copy_table]
theorem filter_isEmpty {α : Type} {p : α → Bool} : ∀ {l : List α}, (l.filter fun x => !p x).isEmpty = l.all p
  | [] => rfl
  | x :: l => by
    rw [List.filter_cons, List.all_cons]
    cases p x
    · rfl
    · simpa using filter_isEmpty (l := l)
theorem s_left (hw : S_all_ways (Φ "all_ways")) (ha : S_allows (Φ "allows")) : S_left (evD Φ G W 2 5 ir_ways_left) := by
  intro nm ws hs H hk ss hss ok
  have s := H.shape
  have e1 := hw nm ws hs H hk
  obtain ⟨g', e, x3, x4, hx⟩ := forL (t := .nm 3) (f := fun g => evSs Φ G W ir_ways_left_b1 g) (waysOf (cnts ws) hs) (fun w => D.lst (encR w))
    (fun i g => ∃ x3 x4, g = [some (.frz (encHo nm ws hs)), some (.frz (.lst (encSs ss))), some (.fl (encWy (((waysOf (cnts ws) hs).take i).filter fun w => ss.all fun s => s.allow (cnts ws) hs w))), x3, x4])
    (g := [some (.frz (encHo nm ws hs)), some (.frz (.lst (encSs ss))), some (.fl []), none, none]) ⟨none, none, by simp [encWy]⟩ (by
      rintro j hj g ⟨x3, x4, rfl⟩
      have hj' : j < ways (cnts ws) hs := by simpa using hj
      have hway := mem_waysOf s (List.getElem_mem hj)
      rw [List.take_succ_eq_append_getElem hj, List.filter_append]
      have hlim : (((waysOf (cnts ws) hs).take j).filter fun w => ss.all fun s => s.allow (cnts ws) hs w).length < lim := by
        have := List.length_filter_le (fun w => ss.all fun s => s.allow (cnts ws) hs w) ((waysOf (cnts ws) hs).take j)
        rw [List.length_take] at this
        unfold lim; omega
      generalize (waysOf (cnts ws) hs)[j] = w at *
      generalize ((waysOf (cnts ws) hs).take j).filter (fun w => ss.all fun s => s.allow (cnts ws) hs w) = u at *
      have ec : compGo (.nm 4) (fun g => tv Φ G ir_ways_left_o1 g (ev Φ G ir_ways_left_o1 g)) (fun g => ev Φ G ir_ways_left_e1 g) (encSs ss) [some (.frz (encHo nm ws hs)), some (.frz (.lst (encSs ss))), some (.fl (encWy u)), some (.frz (.lst (encR w))), x4] = .ok ((ss.filter fun s => !s.allow (cnts ws) hs w).map Sent.enc) := by
        unfold encSs
        refine compL ss Sent.enc _ Sent.enc (by unfold lim; omega) fun s hs1 => ⟨_, rfl, ?_, fun _ => ⟨.frz s.enc, [], ?_, nrm_nil _, by simp⟩⟩
        · have := ha nm ws hs H s (ok s hs1) w hway
          simp [ir_ways_left_o1, this]
        · simp [ir_ways_left_e1]
      have hem : ((ss.filter fun s => !s.allow (cnts ws) hs w).map Sent.enc).isEmpty = ss.all fun s => s.allow (cnts ws) hs w := by rw [List.isEmpty_map, filter_isEmpty]
      cases hall : ss.all fun s => s.allow (cnts ws) hs w with
      | true =>
        rw [hall] at hem
        have hf : List.filter (fun w => ss.all fun s => s.allow (cnts ws) hs w) [w] = [w] := by simp only [List.filter_cons, hall]; rfl
        rw [hf]
        refine ⟨_, ?_, some (.frz (.lst (encR w))), x4, rfl⟩
        simp [ir_ways_left_b1, ec, hem, hlim]
        simp [encWy]
      | false =>
        rw [hall] at hem
        have hf : List.filter (fun w => ss.all fun s => s.allow (cnts ws) hs w) [w] = [] := by simp only [List.filter_cons, hall]; rfl
        rw [hf, List.append_nil]
        refine ⟨_, ?_, some (.frz (.lst (encR w))), x4, rfl⟩
        simp [ir_ways_left_b1, ec, hem])
  subst hx
  rw [List.take_length] at e
  rw [evD_eq (by rfl)]
  unfold encWy at e1 e ⊢
  simp [ir_ways_left, e1, e, leftOf]
theorem s_Data (hc : S_copy (Φ "copy_table")) (hl : S_left (Φ "ways_left")) : S_Data (evI Φ G 1 3 5 es_Data) := by
  intro nm ws hs H hk ss hss ok ts hts tab
  have e1 := hl nm ws hs H hk ss hss ok
  have ec : compGo (.nm 4) (fun _ => .ok true) (fun g => ev Φ G ir_Data_e1 g) ts [none, some (.frz (encHo nm ws hs)), some (.frz (.lst (encSs ss))), some (.frz (.lst ts)), none] = .ok ts := by
    have := compL1 (t := .nm 4) (elt := fun g => ev Φ G ir_Data_e1 g) (g := [none, some (.frz (encHo nm ws hs)), some (.frz (.lst (encSs ss))), some (.frz (.lst ts)), none]) ts id id (by unfold lim; omega) fun t ht => ⟨_, rfl, .frz t, [], by
      obtain ⟨a, b, c, rfl⟩ := tab t ht
      simp [ir_Data_e1, hc a b c], nrm_nil _, by simp⟩
    simpa using this
  unfold evI
  rw [if_pos (by rfl)]
  simp [es_Data, evF, ec, e1, encDa]
end
end Ev

set_option maxRecDepth 100000
set_option maxHeartbeats 4000000
/-! Plain houses. -/
namespace Ev
open PySem PySem.Spec PyProof.Rows L2
def nmP (cs : List Nat) : List Str := (["a", "b", "c", "d", "e"] : List Str).take cs.length
def wsP (cs : List Nat) : List (List Str) := cs.map fun c => (["x", "y", "z"] : List Str).take c
theorem cnts_P {cs hs} (s : Shape cs hs) : cnts (wsP cs) = cs := by
  unfold cnts wsP
  rw [List.map_map]
  conv => rhs; rw [← List.map_id cs]
  apply List.map_congr_left
  intro c hc
  have := s.cnt c hc
  simp [Function.comp]; omega
theorem house_P {cs hs} (s : Shape cs hs) : House (nmP cs) (wsP cs) hs := by
  refine ⟨by rw [cnts_P s]; exact s, ?_⟩
  have := s.few
  unfold nmP wsP
  rw [List.length_take, List.length_map]; simp; omega
def encH3 (nm : List Str) (ws : List (List Str)) (hs : List (List Nat)) : D := .tup [.lst (encS nm), .lst (encW ws), .lst (encR hs)]
def S_plain (F : List D → Res M) : Prop := ∀ cs hs, Shape cs hs → F [.lst (encN cs), .lst (encR hs)] = .ok (.frz (encH3 (nmP cs) (wsP cs) hs))
def S_House (F : List D → Res M) : Prop := ∀ nm ws hs, ws.length < 1000 → hs.length < 1000 → F [.lst (encS nm), .lst (encW ws), .lst (encR hs)] = .ok (.frz (encHo nm ws hs))
def S_made (F : List D → Res M) : Prop := ∀ nm ws hs, ws.length < 1000 → hs.length < 1000 → F [encH3 nm ws hs] = .ok (.frz (encHo nm ws hs))
def S_sameH (F : List D → Res M) : Prop := ∀ nm ws hs, House nm ws hs → F [encHo nm ws hs, encH3 nm ws hs] = .ok (.frz (.bl true))
section
variable {Φ : String → List D → Res M} {G : String → Option D} {W : Nat}
theorem comp_list {α : Type} {i : Nat} {g : Gm} {e : E} (he : e = .bi .lst (.cons (.slot i) .nil)) (hi : i < g.length) (l : List α) (f : α → List D) (hl : l.length < lim) :
    compGo (.nm i) (fun _ => .ok true) (fun g => ev Φ G e g) (l.map fun x => .lst (f x)) g = .ok (l.map fun x => .lst (f x)) := by
  subst he
  refine compL1 l _ _ hl fun x hx => ⟨_, rfl, .fl (f x), [], ?_, nrm_nil _, by simp⟩
  simp [List.getElem?_set, hi]
theorem s_House : S_House (evI Φ G 0 3 5 es_House) := by
  intro nm ws hs hw hh
  unfold evI
  rw [if_pos (by rfl)]
  have e1 := comp_list (Φ := Φ) (G := G) (i := 4) (g := [none, some (M.frz (.lst (encS nm))), some (.frz (.lst (encW ws))), some (.frz (.lst (encR hs))), none]) (e := ir_House_e1) rfl (by simp) ws encS (by unfold lim; omega)
  have e2 := comp_list (Φ := Φ) (G := G) (i := 4) (g := [none, some (M.frz (.lst (encS nm))), some (.frz (.lst (encW ws))), some (.frz (.lst (encR hs))), none]) (e := ir_House_e2) rfl (by simp) hs encN (by unfold lim; omega)
  simp [es_House, evF, encW, encR] at *
  simp [e1, e2, encHo, encW, encR]
theorem s_law_made (hH : S_House (Φ "House")) : S_made (evD Φ G W 1 5 ir_law_made) := by
  intro nm ws hs hw hh
  have e0 := hH nm ws hs hw hh
  have e1 := comp_list (Φ := Φ) (G := G) (i := 4) (g := [some (M.frz (encH3 nm ws hs)), some (M.frz (.lst (encS nm))), some (.frz (.lst (encW ws))), some (.frz (.lst (encR hs))), none]) (e := ir_law_made_e2) rfl (by simp) ws encS (by unfold lim; omega)
  have e2 := comp_list (Φ := Φ) (G := G) (i := 4) (g := [some (M.frz (encH3 nm ws hs)), some (M.frz (.lst (encS nm))), some (.frz (.lst (encW ws))), some (.frz (.lst (encR hs))), none]) (e := ir_law_made_e1) rfl (by simp) hs encN (by unfold lim; omega)
  rw [evD_eq (by rfl)]
  simp [ir_law_made, encW, encR, encH3] at *
  simp [e1, e2, e0]
theorem s_law_plain : S_plain (evD Φ G W 2 5 ir_law_plain) := by
  intro cs hs s
  have hl := s.few
  have ec : ∀ x : Option M, compGo (.nm 4) (fun _ => .ok true) (fun g => ev Φ G ir_law_plain_e1 g) (encN cs) [some (M.frz (.lst (encN cs))), some (.frz (.lst (encR hs))), x, some (.fl [.str "x", .str "y", .str "z"]), none] = .ok (encW (wsP cs)) := by
    intro x
    rw [compN1 cs (fun c => .lst (([.str "x", .str "y", .str "z"] : List D).take c)) (by unfold lim; omega)]
    · unfold encW wsP encS
      rw [List.map_map]
      congr 1
      apply List.map_congr_left
      intro c hc
      simp only [Function.comp]
      congr 1
      rw [List.map_take]; rfl
    · intro c hc
      refine ⟨.fl (([.str "x", .str "y", .str "z"] : List D).take c), [], ?_, nrm_nil _, by simp⟩
      simp [ir_law_plain_e1, cut_no]
  rw [evD_eq (by rfl)]
  simp [ir_law_plain, cut_no, ec, encH3, nmP, encS, List.map_take]
theorem Pl.S {n : Nat} {r : List Str} (h : r.length < 1000000) : Pl (n + 1) (.lst (encS r)) := .lst (by simpa using h) (by
  intro d hd; simp [encS] at hd; obtain ⟨a, _, rfl⟩ := hd; exact .str)
theorem Pl.map {α : Type} {n : Nat} {r : List α} {f : α → D} (h : r.length < 1000000) (k : ∀ x ∈ r, Pl n (f x)) : Pl (n + 1) (.lst (r.map f)) := .lst (by simpa using h) (by
  intro d hd; obtain ⟨a, ha, rfl⟩ := List.mem_map.mp hd; exact k a ha)
theorem Pl.R {n : Nat} {r : List (List Nat)} (h : r.length < 1000000) (k : ∀ x ∈ r, x.length < 1000000) : Pl (n + 2) (.lst (encR r)) := Pl.map h fun x hx => Pl.N (k x hx)
theorem s_law_same_house (h1 : S_same 2 (Φ "_law_same")) : S_sameH (evD Φ G W 2 2 ir_law_same_house) := by
  intro nm ws hs H
  have s := H.shape
  have hl := s.len
  have hf := s.few
  have hn := H.len
  rw [cnts_len] at hl hf
  have e1 := h1 (.lst (encS nm)) (Pl.S (by omega))
  have e2 := h1 (.lst (encW ws)) (Pl.map (by omega) fun x hx => Pl.S (by
    have : x.length ∈ cnts ws := List.mem_map_of_mem (f := List.length) hx
    have := s.cnt _ this; omega))
  have e3 := h1 (.lst (encR hs)) (Pl.R (by omega) fun x hx => by
    obtain ⟨v, hv, rfl⟩ := List.getElem_of_mem hx
    have := s.hfew hv; omega)
  have ei : isiD (.cls 0) (encHo nm ws hs) = true := rfl
  rw [evD_eq (by rfl)]
  simp [ir_law_same_house, ei, e1, e2, e3, encH3]
end
theorem Pl.Wy {n : Nat} {r : List (List (List Nat))} (h : r.length < 1000000) (k : ∀ w ∈ r, w.length < 1000000 ∧ ∀ x ∈ w, x.length < 1000000) : Pl (n + 3) (.lst (encWy r)) := Pl.map h fun w hw => Pl.R (k w hw).1 (k w hw).2
theorem Way.small {cs hs w} (s : Shape cs hs) (h : Way cs hs w) : w.length < 1000000 ∧ ∀ x ∈ w, x.length < 1000000 := by
  refine ⟨by rw [h.len]; have := s.few; omega, fun x hx => ?_⟩
  obtain ⟨v, hv, rfl⟩ := List.getElem_of_mem hx
  have hv' : v < cs.length := by rw [← h.len]; exact hv
  have := h.row v hv'
  rw [List.getD_eq_getElem?_getD, List.getElem?_eq_getElem hv, Option.getD_some] at this
  have hv2 : v < hs.length := by rw [s.len]; exact hv'
  have := (s.rows hv2).2
  rw [s.hat hv2] at *
  omega
theorem pl_ways {cs hs} (s : Shape cs hs) {l : List (List (List Nat))} (hl : l.length < 1000000) (h : ∀ w ∈ l, w ∈ waysOf cs hs) : Pl 3 (.lst (encWy l)) :=
  Pl.Wy hl fun w hw => (mem_waysOf s (h w hw)).small s
theorem left_nil {cs hs} : leftOf cs hs [] = waysOf cs hs := by
  unfold leftOf; simp
end Ev

set_option maxRecDepth 100000
set_option maxHeartbeats 4000000
namespace Ev
open PySem PySem.Spec PyProof.Rows L2
def ir_outcome_e1 : E := .ix (.slot 6) (.slot 9)
def ir_outcome_b1 : Ss := (.cons (.ite (.din (.slot 7) 3) (.cons (.app 6 (.dat 3 (.slot 7))) .nil) (.cons (.set (.nm 8) (.call "place" (.cons (.call "heard_bounds" (.cons (.slot 0) (.cons (.slot 7) .nil))) (.cons (.comp ir_outcome_e1 (.nm 9) (.over (.ix (.fld (.slot 0) 0 2) (.slot 7))) .no) .nil)))) (.cons (.app 6 (.ix (.ix (.slot 1) (.slot 7)) (.slot 8))) .nil))) .nil)
/-- outcome(house, way, setting); names: 0 house, 1 way, 2 setting, 3 forced, 4 variable, 5 word, 6 result, 7 v, 8 at, 9 u -/
def ir_outcome : Ss := (.cons (.dset 3 (.tp [4, 5]) (.over (.slot 2)) (.slot 4) (.slot 5)) (.cons (.set (.nm 6) (.lst .nil)) (.cons (.for (.nm 7) (.rng (.bi .len (.cons (.fld (.slot 0) 0 0) .nil))) ir_outcome_b1) (.cons (.ret (.slot 6)) .nil))))
def d_outcome : DefI := ⟨3, 10, ir_outcome, none⟩
end Ev

set_option maxRecDepth 100000
set_option maxHeartbeats 4000000
namespace Ev
open PySem PySem.Spec PyProof.Rows L2
def ir_law_place_b1 : Ss := (.cons (.set (.nm 2) (.bin .add (.bin .mul (.slot 2) (.ix (.slot 0) (.slot 3))) (.ix (.slot 1) (.slot 3)))) .nil)
/-- _law_place(_law_bounds_here, _law_one); names: 0 _law_bounds_here, 1 _law_one, 2 _law_at, 3 _law_k -/
def ir_law_place : Ss := (.cons (.set (.nm 2) (.cst (.int 0))) (.cons (.for (.nm 3) (.rng (.bi .len (.cons (.slot 0) .nil))) ir_law_place_b1) (.cons (.ret (.slot 2)) .nil)))
def d_law_place : DefI := ⟨2, 4, ir_law_place, none⟩
def ir_law_outcome_b1 : Ss := (.cons (.ite (.cmp .eq (.slot 7) (.slot 5)) (.cons (.set (.nm 6) (.slot 8)) .nil) .nil) .nil)
def ir_law_outcome_e1 : E := .ix (.slot 4) (.slot 7)
def ir_law_outcome_b2 : Ss := (.cons (.set (.nm 6) (.ix (.ix (.slot 2) (.slot 5)) (.call "_law_place" (.cons (.call "_law_bounds" (.cons (.slot 0) (.cons (.slot 1) (.cons (.slot 5) .nil)))) (.cons (.comp ir_law_outcome_e1 (.nm 7) (.over (.ix (.slot 1) (.slot 5))) .no) .nil))))) (.cons (.for (.tp [7, 8]) (.over (.slot 3)) ir_law_outcome_b1) (.cons (.app 4 (.slot 6)) .nil)))
/-- _law_outcome(_law_counts, _law_heard, _law_way_here, _law_setting_here); names: 0 _law_counts, 1 _law_heard, 2 _law_way_here, 3 _law_setting_here, 4 _law_said, 5 _law_v, 6 _law_word, 7 _law_u, 8 _law_other -/
def ir_law_outcome : Ss := (.cons (.set (.nm 4) (.lst .nil)) (.cons (.for (.nm 5) (.rng (.bi .len (.cons (.slot 0) .nil))) ir_law_outcome_b2) (.cons (.ret (.slot 4)) .nil)))
def d_law_outcome : DefI := ⟨4, 9, ir_law_outcome, none⟩
def ir_law_setting_b1 : Ss := (.cons (.ite (.cmp .eq (.bin .mod (.bi .int (.cons (.ix (.slot 0) (.slot 3)) .nil)) (.cst (.int 3))) (.cst (.int 0))) (.cons (.app 2 (.tup (.cons (.slot 3) (.cons (.bin .mod (.bi .int (.cons (.ix (.slot 0) (.bin .add (.cst (.int 5)) (.slot 3))) .nil)) (.ix (.slot 1) (.slot 3))) .nil)))) .nil) .nil) .nil)
/-- _law_setting(_law_row_here, _law_counts); names: 0 _law_row_here, 1 _law_counts, 2 _law_setting_here, 3 _law_v -/
def ir_law_setting : Ss := (.cons (.set (.nm 2) (.lst .nil)) (.cons (.for (.nm 3) (.rng (.bi .len (.cons (.slot 1) .nil))) ir_law_setting_b1) (.cons (.ret (.slot 2)) .nil)))
def d_law_setting : DefI := ⟨2, 4, ir_law_setting, none⟩
end Ev

set_option maxRecDepth 100000
set_option maxHeartbeats 4000000
/-! What variables say in the world of a setting. -/
namespace Ev
open PySem PySem.Spec PyProof.Rows L2
theorem plcGo_lt : ∀ {bs r : List Nat} {a m : Nat}, r.length = bs.length → (∀ k, k < bs.length → r.getD k 0 < bs.getD k 0) → plcGo a bs r < (a + 1) * prod bs
  | [], [], a, m, _, _ => by simp [plcGo]
  | b :: bs, x :: r, a, m, hl, h => by
    have h0 := h 0 (by simp)
    simp only [List.getD_cons_zero] at h0
    have ih := plcGo_lt (bs := bs) (r := r) (a := a * b + x) (m := m) (by simpa using hl) fun k hk => by
      have := h (k + 1) (by simp; omega)
      simpa using this
    have e : prod (b :: bs) = b * prod bs := by
      rw [show b :: bs = [b] ++ bs from rfl, prod_app]; simp [prod]
    rw [plcGo, e, ← Nat.mul_assoc]
    refine Nat.lt_of_lt_of_le ih (Nat.mul_le_mul_right _ ?_)
    rw [Nat.add_mul]; omega
theorem plc_lt {bs r : List Nat} (hl : r.length = bs.length) (h : ∀ k, k < bs.length → r.getD k 0 < bs.getD k 0) : plc bs r < prod bs := by
  have := plcGo_lt (a := 0) (m := 0) hl h
  simpa [plc] using this
/-- a setting of a shape -/
structure SetOk (cs : List Nat) (st : List (Nat × Nat)) : Prop where
  low : ∀ p ∈ st, p.1 < cs.length ∧ p.2 < cs.getD p.1 0
  asc : st.Pairwise fun p q => p.1 < q.1
def hrow (hs : List (List Nat)) (v : Nat) (said : List Nat) : List Nat := (hs.getD v []).map fun u => said.getD u 0
def saidAt (cs : List Nat) (hs : List (List Nat)) (w : List (List Nat)) (st : List (Nat × Nat)) (said : List Nat) (v : Nat) : Nat :=
  match st.lookup v with
  | some x => x
  | none => (w.getD v []).getD (plc (bnds cs (hs.getD v [])) (hrow hs v said)) 0
def saidTo (cs : List Nat) (hs : List (List Nat)) (w : List (List Nat)) (st : List (Nat × Nat)) : Nat → List Nat
  | 0 => []
  | n + 1 => saidTo cs hs w st n ++ [saidAt cs hs w st (saidTo cs hs w st n) n]
/-- the words of all variables -/
def said (cs : List Nat) (hs : List (List Nat)) (w : List (List Nat)) (st : List (Nat × Nat)) : List Nat := saidTo cs hs w st cs.length
@[simp] theorem saidTo_len {cs hs w st} : ∀ {n}, (saidTo cs hs w st n).length = n
  | 0 => rfl
  | n + 1 => by rw [saidTo, List.length_append, saidTo_len]; rfl
@[simp] theorem said_len {cs hs w st} : (said cs hs w st).length = cs.length := saidTo_len
theorem lookup_mem {st : List (Nat × Nat)} {v x : Nat} (h : st.lookup v = some x) : (v, x) ∈ st := by
  induction st with
  | nil => simp at h
  | cons p st ih =>
    obtain ⟨a, b⟩ := p
    rw [List.lookup_cons] at h
    split at h
    · rename_i e
      simp only [beq_iff_eq] at e
      cases h; subst e; simp
    · exact List.mem_cons_of_mem _ (ih h)
theorem hrow_ok {cs hs} (s : Shape cs hs) {v : Nat} (hv : v < cs.length) {said : List Nat} (hl : said.length = v) (h : ∀ u, u < v → said.getD u 0 < cs.getD u 0) :
    (hrow hs v said).length = (bnds cs (hs.getD v [])).length ∧ plc (bnds cs (hs.getD v [])) (hrow hs v said) < prod (bnds cs (hs.getD v [])) := by
  have hv2 : v < hs.length := by rw [s.len]; exact hv
  have e1 : (hrow hs v said).length = (bnds cs (hs.getD v [])).length := by simp [hrow]
  refine ⟨e1, plc_lt e1 fun k hk => ?_⟩
  rw [s.hat hv2] at *
  have hk' : k < hs[v].length := by simpa using hk
  have hu := s.low v hv2 hs[v][k] (List.getElem_mem _)
  have := h _ hu
  unfold hrow bnds
  rw [s.hat hv2, List.getD_eq_getElem?_getD, List.getD_eq_getElem?_getD, List.getElem?_map, List.getElem?_map, List.getElem?_eq_getElem hk']
  simpa using this
theorem saidTo_lt {cs hs w st} (s : Shape cs hs) (hw : Way cs hs w) (ho : SetOk cs st) : ∀ {n}, n ≤ cs.length → ∀ u, u < n → (saidTo cs hs w st n).getD u 0 < cs.getD u 0
  | 0, _, u, h => by omega
  | n + 1, hn, u, h => by
    have ih := saidTo_lt s hw ho (n := n) (by omega)
    rw [saidTo, List.getD_eq_getElem?_getD]
    by_cases hu : u < n
    · rw [List.getElem?_append_left (by simpa using hu), ← List.getD_eq_getElem?_getD]; exact ih u hu
    · have : u = n := by omega
      subst this
      rw [List.getElem?_append_right (by simp)]
      simp only [saidTo_len, Nat.sub_self, List.getElem?_cons_zero, Option.getD_some]
      unfold saidAt
      split
      · rename_i x e; exact (ho.low _ (lookup_mem e)).2
      · obtain ⟨h1, h2⟩ := hrow_ok s (v := u) (by omega) (said := saidTo cs hs w st u) (by simp) ih
        refine hw.low u (by omega) _ ?_
        have hr := hw.row u (by omega)
        rw [List.getD_eq_getElem?_getD (l := w.getD u []), List.getElem?_eq_getElem (by rw [hr]; exact h2)]
        exact List.getElem_mem _
theorem said_lt {cs hs w st} (s : Shape cs hs) (hw : Way cs hs w) (ho : SetOk cs st) (u : Nat) (h : u < cs.length) : (said cs hs w st).getD u 0 < cs.getD u 0 := saidTo_lt s hw ho (Nat.le_refl _) u h
def S_outcome (F : List D → Res M) : Prop := ∀ nm ws hs, House nm ws hs → ∀ w, Way (cnts ws) hs w → ∀ st, SetOk (cnts ws) st → F [encHo nm ws hs, .lst (encR w), .lst (encP st)] = .ok (.fl (encN (said (cnts ws) hs w st)))
def S_loutcome (F : List D → Res M) : Prop := ∀ cs hs, Shape cs hs → ∀ w, Way cs hs w → ∀ st, SetOk cs st → F [.lst (encN cs), .lst (encR hs), .lst (encR w), .lst (encP st)] = .ok (.fl (encN (said cs hs w st)))
theorem dctAt_P : ∀ {st : List (Nat × Nat)} {v : Nat}, dctAt (st.map fun p => (p.1 : Int)) (st.map fun p => D.int (p.2 : Nat)) (v : Nat) = (st.lookup v).map fun (x : Nat) => D.int x
  | [], v => rfl
  | (a, b) :: st, v => by
    have ih := @dctAt_P st v
    simp only [List.map_cons, dctAt]
    rw [List.lookup_cons]
    by_cases h : (a : Int) = v
    · have h' : (v == a) = true := by simp; omega
      rw [if_pos h, h']; rfl
    · have h' : (v == a) = false := by simp; omega
      rw [if_neg h, h']; exact ih
section
variable {Φ : String → List D → Res M} {G : String → Option D} {W : Nat}
theorem outc_dct {kx vx : E} (hk : kx = .slot 4) (hv : vx = .slot 5) (a0 a1 a2 a3 a6 a7 a8 a9 x y : Option M) : ∀ (st : List (Nat × Nat)) (ks : List Int) (xs : List D), st.Pairwise (fun p q => p.1 < q.1) → (∀ p ∈ st, (p.1 : Int) ∉ ks) → ks.length + st.length < lim →
    dctGo (.tp [4, 5]) (fun g => ev Φ G kx g) (fun g => ev Φ G vx g) (encP st) [a0, a1, a2, a3, x, y, a6, a7, a8, a9] ks xs = .ok (ks ++ st.map (fun p => (p.1 : Int)), xs ++ st.map (fun p => D.int (p.2 : Nat)))
  | [], ks, xs, _, _, _ => by simp [encP, dctGo]
  | (a, b) :: st, ks, xs, hp, hn, hl => by
    subst hk hv
    have h1 := hn (a, b) (by simp)
    have h2 : ks.length < lim := by simp at hl; omega
    have ih := outc_dct rfl rfl a0 a1 a2 a3 a6 a7 a8 a9 x y st (ks ++ [(a : Int)]) (xs ++ [.int (b : Nat)]) (List.Pairwise.of_cons hp) (fun p hp' => by
      have := List.rel_of_pairwise_cons hp hp'
      have := hn p (by simp [hp'])
      simp only [List.mem_append, List.mem_singleton, not_or]
      exact ⟨this, by simp only at *; omega⟩) (by simp at hl ⊢; omega)
    simp only [encP, List.map_cons, dctGo] at ih ⊢
    simp only at h1
    simp [h1, h2]
    simpa using ih
theorem s_outcome (hp : S_place (Φ "place")) (hb : S_heard (Φ "heard_bounds")) : S_outcome (evD Φ G W 3 10 ir_outcome) := by
  intro nm ws hs H w hw st ho
  have s := H.shape
  have hl := H.hlen
  have hn := H.len
  have hf := s.few
  rw [cnts_len] at hf
  have hst : st.length < 1000 := by
    have h1 : (st.map (·.1)).Pairwise (· < ·) := List.pairwise_map.mpr ho.asc
    have := sorted_len h1 (n := ws.length) fun u hu => by
      simp only [List.mem_map] at hu
      obtain ⟨p, hp, rfl⟩ := hu
      have := (ho.low p hp).1
      rwa [cnts_len] at this
    rw [List.length_map] at this
    omega
  have e1 := outc_dct (Φ := Φ) (G := G) (kx := .slot 4) (vx := .slot 5) rfl rfl (some (.frz (encHo nm ws hs))) (some (.frz (.lst (encR w)))) (some (.frz (.lst (encP st)))) none none none none none none none st [] [] ho.asc (by simp) (by simp; unfold lim; omega)
  obtain ⟨g', e, x7, x8, x9, hx⟩ := forN (i := 7) (f := fun g => evSs Φ G W ir_outcome_b1 g) ws.length
    (fun i g => ∃ x7 x8 x9, g = [some (.frz (encHo nm ws hs)), some (.frz (.lst (encR w))), some (.frz (.lst (encP st))), some (.frz (.dct (st.map fun p => (p.1 : Int)) (st.map fun p => D.int (p.2 : Nat)))), none, none, some (.fl (encN (saidTo (cnts ws) hs w st i))), x7, x8, x9])
    (g := [some (.frz (encHo nm ws hs)), some (.frz (.lst (encR w))), some (.frz (.lst (encP st))), some (.frz (.dct (st.map fun p => (p.1 : Int)) (st.map fun p => D.int (p.2 : Nat)))), none, none, some (.fl []), none, none, none]) ⟨none, none, none, by simp [saidTo, encN]⟩ (by
      rintro v hv g ⟨x7, x8, x9, rfl⟩
      have hvc : v < (cnts ws).length := by simpa using hv
      have hv2 : v < hs.length := by omega
      have hlt := saidTo_lt s hw ho (n := v) (by omega)
      obtain ⟨p1, p2⟩ := hrow_ok s hvc (said := saidTo (cnts ws) hs w st v) (by simp) hlt
      have hlim : (saidTo (cnts ws) hs w st v).length < lim := by rw [saidTo_len]; unfold lim; omega
      have hsl : (saidTo (cnts ws) hs w st v).length = v := by simp
      rw [saidTo]
      have hd := @dctAt_P st v
      unfold saidAt
      generalize hS : saidTo (cnts ws) hs w st v = S at *
      cases hlk : st.lookup v with
      | some x =>
        rw [hlk] at hd
        refine ⟨_, ?_, some (.frz (.int v)), x8, x9, rfl⟩
        simp [ir_outcome_b1, hd, hlim]
        simp [encN]
      | none =>
        rw [hlk] at hd
        have e0 := hb nm ws hs H v hv2
        have sm := s.small hv2
        have hg := s.hat hv2
        have e2 := hp (bnds (cnts ws) hs[v]) (hrow hs v S) sm (by rw [p1, hg]) _ (.inl rfl)
        have eh := encR_at (r := hs) (i := (v : Int)) rfl hv2
        have ew := encR_getD (l := w) (j := v) (by rw [hw.len]; exact hvc)
        have ea := encN_getD (l := w.getD v []) (j := plc (bnds (cnts ws) (hs.getD v [])) (hrow hs v S)) (by rw [hw.row v hvc]; exact p2)
        have ec : ∀ g : Gm, g = [some (.frz (encHo nm ws hs)), some (.frz (.lst (encR w))), some (.frz (.lst (encP st))), some (.frz (.dct (st.map fun p => (p.1 : Int)) (st.map fun p => D.int (p.2 : Nat)))), none, none, some (.fl (encN S)), some (.frz (.int (v : Nat))), x8, x9] →
            compGo (.nm 9) (fun _ => .ok true) (fun g => ev Φ G ir_outcome_e1 g) (encN hs[v]) g = .ok (encN (hrow hs v S)) := by
          rintro g rfl
          rw [compN1 hs[v] (fun u => .int (S.getD u 0 : Nat)) (by have := s.hfew hv2; unfold lim; omega)]
          · simp -implicitDefEqProofs [-List.getD_eq_getElem?_getD, encN, hrow, hg, Function.comp_def]
          · intro u hu
            have hu' := s.low v hv2 u hu
            exact ⟨.frz (.int (S.getD u 0 : Nat)), [], by simp -implicitDefEqProofs [-List.getD_eq_getElem?_getD, ir_outcome_e1, encN_getD (l := S) (j := u) (by omega)], nrm_nil _, by simp⟩
        refine ⟨_, ?_, some (.frz (.int v)), some (.frz (.int (plc (bnds (cnts ws) hs[v]) (hrow hs v S) : Nat))), x9, rfl⟩
        rw [hg] at ea ⊢
        simp -implicitDefEqProofs [-List.getD_eq_getElem?_getD, ir_outcome_b1, hd, e0, eh, ec _ rfl, e2, ew, ea, hlim]
        simp [encN])
  subst hx
  have hrg : rngR (.int ws.length) = .ok (rngD 0 ws.length, []) := rngR_nat (by omega)
  rw [evD_eq (by rfl)]
  simp only [ev_slot] at e1
  simp -implicitDefEqProofs [ir_outcome, e1, hn, hrg, e, said]
theorem s_law_place : S_place (evD Φ G W 2 4 ir_law_place) := s_place
theorem forGo_step {t : Tg} {f : Gm → Res Out} {d : D} {ds : List D} {g g1 : Gm} (h : (Res.of (bindT t d g)).bind f = .ok (.nx g1)) : forGo t f (d :: ds) g = forGo t f ds g1 := by
  rw [forGo_cons]
  cases hb : bindT t d g with
  | none => rw [hb] at h; cases h
  | some g0 =>
    rw [hb] at h
    simp only [Res.of_some, Res.bind_ok] at h ⊢
    rw [h]; rfl
theorem lout_b1 (a0 a1 a2 a3 a4 : Option M) (v : Nat) : ∀ (st : List (Nat × Nat)) (x : Nat) (y7 y8 : Option M), st.Pairwise (fun p q => p.1 < q.1) →
    ∃ z7 z8, forGo (.tp [7, 8]) (fun g => evSs Φ G W ir_law_outcome_b1 g) (encP st) [a0, a1, a2, a3, a4, some (.frz (.int (v : Nat))), some (.frz (.int (x : Nat))), y7, y8]
      = .ok (.nx [a0, a1, a2, a3, a4, some (.frz (.int (v : Nat))), some (.frz (.int ((st.lookup v).getD x : Nat))), z7, z8])
  | [], x, y7, y8, _ => ⟨y7, y8, by simp [encP]⟩
  | (a, b) :: st, x, y7, y8, hp => by
    have hp2 := List.Pairwise.of_cons hp
    rw [List.lookup_cons]
    simp only [encP, List.map_cons]
    by_cases h : v = a
    · subst h
      obtain ⟨z7, z8, e⟩ := lout_b1 a0 a1 a2 a3 a4 v st b (some (.frz (.int (v : Nat)))) (some (.frz (.int (b : Nat)))) hp2
      have hno : st.lookup v = none := by
        cases hc : st.lookup v with
        | none => rfl
        | some y =>
          have := List.rel_of_pairwise_cons hp (lookup_mem hc)
          simp only at this; omega
      rw [hno] at e
      refine ⟨z7, z8, ?_⟩
      simp only [encP, Option.getD_none] at e
      rw [forGo_step (g1 := [a0, a1, a2, a3, a4, some (.frz (.int (v : Nat))), some (.frz (.int (b : Nat))), some (.frz (.int (v : Nat))), some (.frz (.int (b : Nat)))]) (by simp [ir_law_outcome_b1]), e]
      simp
    · obtain ⟨z7, z8, e⟩ := lout_b1 a0 a1 a2 a3 a4 v st x (some (.frz (.int (a : Nat)))) (some (.frz (.int (b : Nat)))) hp2
      have h' : (v == a) = false := by simpa using h
      have h2 : ¬ (a : Int) = (v : Int) := by omega
      refine ⟨z7, z8, ?_⟩
      rw [h']
      simp only [encP] at e
      rw [forGo_step (g1 := [a0, a1, a2, a3, a4, some (.frz (.int (v : Nat))), some (.frz (.int (x : Nat))), some (.frz (.int (a : Nat))), some (.frz (.int (b : Nat)))]) (by simp [ir_law_outcome_b1, h2]), e]
theorem s_law_outcome (hp : S_place (Φ "_law_place")) (hb : S_bounds (Φ "_law_bounds")) : S_loutcome (evD Φ G W 4 9 ir_law_outcome) := by
  intro cs hs s w hw st ho
  have hl := s.len
  have hf := s.few
  obtain ⟨g', e, x5, x6, x7, x8, hx⟩ := forN (i := 5) (f := fun g => evSs Φ G W ir_law_outcome_b2 g) cs.length
    (fun i g => ∃ x5 x6 x7 x8, g = [some (.frz (.lst (encN cs))), some (.frz (.lst (encR hs))), some (.frz (.lst (encR w))), some (.frz (.lst (encP st))), some (.fl (encN (saidTo cs hs w st i))), x5, x6, x7, x8])
    (g := [some (.frz (.lst (encN cs))), some (.frz (.lst (encR hs))), some (.frz (.lst (encR w))), some (.frz (.lst (encP st))), some (.fl []), none, none, none, none]) ⟨none, none, none, none, by simp [saidTo, encN]⟩ (by
      rintro v hv g ⟨x5, x6, x7, x8, rfl⟩
      have hv2 : v < hs.length := by omega
      have hlt := saidTo_lt s hw ho (n := v) (by omega)
      obtain ⟨p1, p2⟩ := hrow_ok s hv (said := saidTo cs hs w st v) (by simp) hlt
      have hlim : (saidTo cs hs w st v).length < lim := by rw [saidTo_len]; unfold lim; omega
      have hsl : (saidTo cs hs w st v).length = v := by simp
      have eS : saidTo cs hs w st (v + 1) = saidTo cs hs w st v ++ [(st.lookup v).getD ((w.getD v []).getD (plc (bnds cs (hs.getD v [])) (hrow hs v (saidTo cs hs w st v))) 0)] := by
        rw [saidTo, saidAt]; cases st.lookup v <;> rfl
      rw [eS]
      generalize hS : saidTo cs hs w st v = S at *
      have e0 := hb cs hs s v hv2
      have sm := s.small hv2
      have hg := s.hat hv2
      have e2 := hp (bnds cs hs[v]) (hrow hs v S) sm (by rw [p1, hg]) _ (.inl rfl)
      have eh := encR_at (r := hs) (i := (v : Int)) rfl hv2
      have ew := encR_getD (l := w) (j := v) (by rw [hw.len]; exact hv)
      have ea := encN_getD (l := w.getD v []) (j := plc (bnds cs (hs.getD v [])) (hrow hs v S)) (by rw [hw.row v hv]; exact p2)
      have ec : ∀ g : Gm, g = [some (.frz (.lst (encN cs))), some (.frz (.lst (encR hs))), some (.frz (.lst (encR w))), some (.frz (.lst (encP st))), some (.fl (encN S)), some (.frz (.int (v : Nat))), x6, x7, x8] →
          compGo (.nm 7) (fun _ => .ok true) (fun g => ev Φ G ir_law_outcome_e1 g) (encN hs[v]) g = .ok (encN (hrow hs v S)) := by
        rintro g rfl
        rw [compN1 hs[v] (fun u => .int (S.getD u 0 : Nat)) (by have := s.hfew hv2; unfold lim; omega)]
        · simp -implicitDefEqProofs [-List.getD_eq_getElem?_getD, encN, hrow, hg, Function.comp_def]
        · intro u hu
          have hu' := s.low v hv2 u hu
          exact ⟨.frz (.int (S.getD u 0 : Nat)), [], by simp -implicitDefEqProofs [-List.getD_eq_getElem?_getD, ir_law_outcome_e1, encN_getD (l := S) (j := u) (by omega)], nrm_nil _, by simp⟩
      rw [hg] at ea ⊢
      generalize (w.getD v []).getD (plc (bnds cs hs[v]) (hrow hs v S)) 0 = x at *
      obtain ⟨z7, z8, e3⟩ := lout_b1 (Φ := Φ) (G := G) (W := W) (some (.frz (.lst (encN cs)))) (some (.frz (.lst (encR hs)))) (some (.frz (.lst (encR w)))) (some (.frz (.lst (encP st)))) (some (.fl (encN S))) v st x x7 x8 ho.asc
      refine ⟨_, ?_, some (.frz (.int v)), some (.frz (.int ((st.lookup v).getD x : Nat))), z7, z8, rfl⟩
      generalize (st.lookup v).getD x = y at *
      simp -implicitDefEqProofs [-List.getD_eq_getElem?_getD, ir_law_outcome_b2, e0, eh, ec _ rfl, e2, ew, ea, e3, hlim]
      simp [encN])
  subst hx
  have hrg : rngR (.int cs.length) = .ok (rngD 0 cs.length, []) := rngR_nat (by omega)
  rw [evD_eq (by rfl)]
  simp -implicitDefEqProofs [ir_law_outcome, hrg, e, said]
/-- a drawn setting -/
def S_setting (F : List D → Res M) : Prop := ∀ cs hs, Shape cs hs → ∀ r : List Nat, 10 ≤ r.length → ∃ st, SetOk cs st ∧ F [.lst (encN r), .lst (encN cs)] = .ok (.fl (encP st))
theorem s_law_setting : S_setting (evD Φ G W 2 4 ir_law_setting) := by
  intro cs hs s r hr
  have hf := s.few
  obtain ⟨g', e, st, x3, h1, h2, hx⟩ := forN (i := 3) (f := fun g => evSs Φ G W ir_law_setting_b1 g) cs.length
    (fun i g => ∃ st x3, SetOk cs st ∧ (∀ p ∈ st, p.1 < i) ∧ g = [some (.frz (.lst (encN r))), some (.frz (.lst (encN cs))), some (.fl (encP st)), x3])
    (g := [some (.frz (.lst (encN r))), some (.frz (.lst (encN cs))), some (.fl []), none]) ⟨[], none, ⟨by simp, List.Pairwise.nil⟩, by simp, by simp [encP]⟩ (by
      rintro v hv g ⟨st, x3, h1, h2, rfl⟩
      have ea := encN_getD (l := r) (j := v) (by omega)
      have eb := encN_getD (l := r) (j := 5 + v) (by omega)
      rw [show ((5 + v : Nat) : Int) = 5 + (v : Int) by omega] at eb
      have ec := encN_getD (l := cs) (j := v) hv
      have hc : 0 < cs.getD v 0 := by rw [s.cat hv]; rcases s.cnt _ (List.getElem_mem hv) with h | h <;> omega
      have hst : st.length < lim := by
        have h1' : (st.map (·.1)).Pairwise (· < ·) := List.pairwise_map.mpr h1.asc
        have := sorted_len h1' (n := v) fun u hu => by
          simp only [List.mem_map] at hu
          obtain ⟨p, hp, rfl⟩ := hu
          exact h2 p hp
        rw [List.length_map] at this
        unfold lim; omega
      by_cases h3 : r.getD v 0 % 3 = 0
      · have b1 : binR .mod (.int (r.getD v 0 : Nat), []) (.int 3, []) = .ok (.frz (.int 0), []) := by rw [binR_mod (by decide), show ((r.getD v 0 : Nat) : Int) % 3 = 0 by omega]
        have b2 : binR .mod (.int (r.getD (5 + v) 0 : Nat), []) (.int (cs.getD v 0 : Nat), []) = .ok (.frz (.int (r.getD (5 + v) 0 % cs.getD v 0 : Nat)), []) := by rw [binR_mod (by omega)]; simp
        refine ⟨_, ?_, st ++ [(v, r.getD (5 + v) 0 % cs.getD v 0)], some (.frz (.int v)), ⟨?_, ?_⟩, ?_, rfl⟩
        · simp -implicitDefEqProofs [-List.getD_eq_getElem?_getD, ir_law_setting_b1, ea, eb, ec, b1, b2, hst]
          simp [encP]
        · intro p hp
          rcases List.mem_append.mp hp with hp | hp
          · exact h1.low p hp
          · simp only [List.mem_singleton] at hp
            subst hp
            exact ⟨hv, Nat.mod_lt _ hc⟩
        · rw [List.pairwise_append]
          refine ⟨h1.asc, List.pairwise_singleton _ _, fun p hp q hq => ?_⟩
          simp only [List.mem_singleton] at hq
          subst hq
          exact h2 p hp
        · intro p hp
          rcases List.mem_append.mp hp with hp | hp
          · have := h2 p hp; omega
          · simp only [List.mem_singleton] at hp
            subst hp; simp
      · have b1 : binR .mod (.int (r.getD v 0 : Nat), []) (.int 3, []) = .ok (.frz (.int (r.getD v 0 % 3 : Nat)), []) := by rw [binR_mod (by decide)]; simp
        have h3' : ¬ ((r.getD v 0 % 3 : Nat) : Int) = 0 := by omega
        refine ⟨_, ?_, st, some (.frz (.int v)), h1, fun p hp => by have := h2 p hp; omega, rfl⟩
        generalize r.getD v 0 % 3 = q at *
        simp -implicitDefEqProofs [-List.getD_eq_getElem?_getD, ir_law_setting_b1, ea, b1, h3, h3'])
  subst hx
  have hrg : rngR (.int cs.length) = .ok (rngD 0 cs.length, []) := rngR_nat (by omega)
  refine ⟨st, h1, ?_⟩
  rw [evD_eq (by rfl)]
  simp -implicitDefEqProofs [ir_law_setting, hrg, e]
end
theorem Pl.P {n : Nat} {r : List (Nat × Nat)} (h : r.length < 1000000) : Pl (n + 2) (.lst (encP r)) := .lst (by simpa using h) (by
  intro d hd; simp only [encP, List.mem_map] at hd; obtain ⟨a, _, rfl⟩ := hd
  exact .tup (by simp) (by simp; exact ⟨.int, .int⟩))
theorem Pl.L {n : Nat} {r : List D} (h : r.length < 1000000) (k : ∀ d ∈ r, Pl n d) : Pl (n + 1) (.lst r) := .lst h k
theorem SetOk.few {cs st} (ho : SetOk cs st) : st.length ≤ cs.length := by
  have h1' : (st.map (·.1)).Pairwise (· < ·) := List.pairwise_map.mpr ho.asc
  have := sorted_len h1' (n := cs.length) fun u hu => by
    simp only [List.mem_map] at hu
    obtain ⟨p, hp, rfl⟩ := hu
    exact (ho.low p hp).1
  rwa [List.length_map] at this
end Ev

set_option maxRecDepth 100000
set_option maxHeartbeats 4000000
namespace Ev
open PySem PySem.Spec PyProof.Rows L2
def ir_law_gcd_b1 : Ss := (.cons (.ite (.cmp .eq (.slot 1) (.cst (.int 0))) (.cons (.ret (.slot 0)) .nil) .nil) (.cons (.par 0 1 (.slot 1) (.bin .mod (.bi .int (.cons (.slot 0) .nil)) (.slot 1))) .nil))
/-- _law_gcd(_law_a, _law_b); names: 0 _law_a, 1 _law_b, 2 _law_k -/
def ir_law_gcd : Ss := (.cons (.for (.nm 2) (.rng (.bin .add (.bin .mul (.cst (.int 2)) (.bits (.slot 1))) (.cst (.int 2)))) ir_law_gcd_b1) (.cons (.ret (.slot 0)) .nil))
def d_law_gcd : DefI := ⟨2, 3, ir_law_gcd, none⟩
/-- _law_lowest(_law_p, _law_q); names: 0 _law_p, 1 _law_q, 2 _law_common -/
def ir_law_lowest : Ss := (.cons (.set (.nm 2) (.call "_law_gcd" (.cons (.bi .abs (.cons (.slot 0) .nil)) (.cons (.slot 1) .nil)))) (.cons (.ret (.tup (.cons (.bin .fdiv (.slot 0) (.slot 2)) (.cons (.bin .fdiv (.slot 1) (.slot 2)) .nil)))) .nil))
def d_law_lowest : DefI := ⟨2, 3, ir_law_lowest, none⟩
/-- _law_below(_law_a, _law_b); names: 0 _law_a, 1 _law_b -/
def ir_law_below : Ss := (.cons (.ret (.cmp .lt (.bin .mul (.ix (.slot 0) (.cst (.int 0))) (.ix (.slot 1) (.cst (.int 1)))) (.bin .mul (.ix (.slot 1) (.cst (.int 0))) (.ix (.slot 0) (.cst (.int 1)))))) .nil)
def d_law_below : DefI := ⟨2, 2, ir_law_below, none⟩
end Ev

set_option maxRecDepth 100000
set_option maxHeartbeats 4000000
set_option exponentiation.threshold 200000
/-! The laws' fractions. -/
namespace Ev
open PySem PySem.Spec PyProof.Rows L2
def S_gcd (F : List D → Res M) : Prop := ∀ a b : Nat, b < 2 ^ 100000 → F [.int a, .int b] = .ok (.frz (.int (Nat.gcd a b : Nat)))
section
variable {Φ : String → List D → Res M} {G : String → Option D} {W : Nat}
/-- one of Euclid's turns -/
theorem gcd_turn (a b : Nat) (x : Option M) (d : D) : (Res.of (bindT (.nm 2) d [some (.frz (.int a)), some (.frz (.int b)), x])).bind (fun g => evSs Φ G W ir_law_gcd_b1 g) =
    if b = 0 then .ok (.rt (.frz (.int a))) else .ok (.nx [some (.frz (.int b)), some (.frz (.int (a % b : Nat))), some (.frz d)]) := by
  by_cases h0 : b = 0
  · simp [ir_law_gcd_b1, h0]
  · simp [ir_law_gcd_b1, h0, binR_mod (show 0 < (b : Int) by omega)]
theorem gcd_loop : ∀ (n : Nat) (a b : Nat) (x : Option M) (ds : List D), b < 2 ^ n → 2 * n + 1 ≤ ds.length →
    forGo (.nm 2) (fun g => evSs Φ G W ir_law_gcd_b1 g) ds [some (.frz (.int a)), some (.frz (.int b)), x] = .ok (.rt (.frz (.int (Nat.gcd a b : Nat))))
  | n, a, b, x, [], _, h => by simp at h
  | n, a, b, x, d :: ds, hb, hl => by
    have step : ∀ (a b : Nat) x d ds, forGo (.nm 2) (fun g => evSs Φ G W ir_law_gcd_b1 g) (d :: ds) [some (.frz (.int a)), some (.frz (.int b)), x] = if b = 0 then .ok (.rt (.frz (.int a))) else forGo (.nm 2) (fun g => evSs Φ G W ir_law_gcd_b1 g) ds [some (.frz (.int b)), some (.frz (.int (a % b : Nat))), some (.frz d)] := by
      intro a b x d ds
      have := gcd_turn (Φ := Φ) (G := G) (W := W) a b x d
      rw [forGo_cons]
      simp only [bind_nm, Res.of_some, Res.bind_ok] at this ⊢
      rw [this]
      split <;> simp
    rw [step]
    by_cases h0 : b = 0
    · rw [if_pos h0, h0, Nat.gcd_zero_right]
    · rw [if_neg h0]
      match n, ds, hb, hl with
      | 0, _, hb, _ => simp at hb; omega
      | n + 1, d2 :: ds, hb, hl =>
        have e1 : Nat.gcd a b = Nat.gcd b (a % b) := by rw [Nat.gcd_comm a b, Nat.gcd_rec b a, Nat.gcd_comm]
        rw [step, e1]
        by_cases h1 : a % b = 0
        · rw [if_pos h1, h1, Nat.gcd_zero_right]
        · rw [if_neg h1]
          have e2 : Nat.gcd b (a % b) = Nat.gcd (a % b) (b % (a % b)) := by rw [Nat.gcd_comm b, Nat.gcd_rec (a % b) b, Nat.gcd_comm]
          rw [e2]
          exact gcd_loop n (a % b) (b % (a % b)) (some (.frz d2)) ds (by
            have h3 : a % b < b := Nat.mod_lt _ (by omega)
            have h4 : b % (a % b) < a % b := Nat.mod_lt _ (by omega)
            have h5 : b % (a % b) ≤ b - a % b := by rw [Nat.mod_eq_sub_mod (Nat.le_of_lt h3)]; exact Nat.mod_le _ _
            rw [Nat.pow_succ] at hb; omega) (by simp at hl; omega)
theorem bits_lt {b n : Nat} (h : b < 2 ^ n) : Builtin.Int.intBits (b : Int) ≤ n := by
  unfold Builtin.Int.intBits
  split
  · omega
  · rename_i h0
    have : (b : Int).natAbs ≠ 0 := by simpa using h0
    have := (Nat.log2_lt this).mpr (show (b : Int).natAbs < 2 ^ n by simpa using h)
    omega
theorem lt_bits (b : Nat) : b < 2 ^ (Builtin.Int.intBits (b : Int)) := by
  unfold Builtin.Int.intBits
  split
  · rename_i h; simp at h; subst h; decide
  · have := @Nat.lt_log2_self (b : Int).natAbs
    simpa using this
theorem s_law_gcd : S_gcd (evD Φ G W 2 3 ir_law_gcd) := by
  intro a b hb
  have h1 := bits_lt hb
  have h2 := gcd_loop (Φ := Φ) (G := G) (W := W) (Builtin.Int.intBits (b : Int)) a b none (rngD 0 (2 * (Builtin.Int.intBits (b : Int) : Nat) + 2)) (lt_bits b) (by rw [rngD_len]; omega)
  have hr : rngR (.int (2 * (Builtin.Int.intBits (b : Int) : Nat) + 2)) = .ok (rngD 0 (2 * (Builtin.Int.intBits (b : Int) : Nat) + 2), []) := rngR_i (by omega)
  rw [evD_eq (by rfl)]
  simp -implicitDefEqProofs [ir_law_gcd, binR_mul (MulOk.l (i := 2) (j := ((Builtin.Int.intBits (b : Int) : Nat) : Int)) (by decide)), hr, h2]
def S_lowest (F : List D → Res M) : Prop := ∀ (p q : Int), 0 < q → q.natAbs < 2 ^ 8900 → F [.int p, .int q] = .ok (.frz (encQ (Rat.divInt p q)))
theorem abs_if (p : Int) : (if p < 0 then -p else p) = (p.natAbs : Nat) := by omega
theorem s_law_lowest (hg : S_gcd (Φ "_law_gcd")) : S_lowest (evD Φ G W 2 3 ir_law_lowest) := by
  intro p q hq hl
  have h1 := hg p.natAbs q.natAbs (Nat.lt_of_lt_of_le hl (Nat.pow_le_pow_right (by decide) (by decide)))
  have hc : Nat.gcd p.natAbs q.natAbs ≠ 0 := by
    intro e; have := Nat.eq_zero_of_gcd_eq_zero_right e; omega
  have hgl : (Nat.gcd p.natAbs q.natAbs).log2 < 9000 := log_lt hc (Nat.lt_of_le_of_lt (Nat.gcd_le_right _ (by omega)) hl) (by decide)
  have h2 : ((Nat.gcd p.natAbs q.natAbs : Nat) : Int) ≠ 0 ∧ ((Nat.gcd p.natAbs q.natAbs : Nat) : Int).natAbs.log2 < 9000 := ⟨by omega, by simpa using hgl⟩
  have e : encQ (Rat.divInt p q) = .tup [.int (q.sign * p / q.gcd p), .int ((q.natAbs / q.gcd p : Nat) : Int)] := by
    rw [encQ, Rat.num_divInt, Rat.den_divInt, if_neg (by omega)]
  have gc : q.gcd p = Nat.gcd p.natAbs q.natAbs := by rw [Int.gcd_comm]; rfl
  have dp : ((Nat.gcd p.natAbs q.natAbs : Nat) : Int) ∣ p := Int.ofNat_dvd_left.mpr (Nat.gcd_dvd_left _ _)
  have dq : ((Nat.gcd p.natAbs q.natAbs : Nat) : Int) ∣ q := Int.ofNat_dvd_left.mpr (Nat.gcd_dvd_right _ _)
  have eq : (q.natAbs : Int) = q := by omega
  rw [evD_eq (by rfl), e, gc]
  rw [eq] at h1
  generalize hG : Nat.gcd p.natAbs q.natAbs = c at *
  simp [ir_law_lowest, abs_if, h1, binR_fdiv h2, Int.sign_eq_one_of_pos hq]
  rw [Int.fdiv_eq_ediv_of_dvd dp, Int.fdiv_eq_ediv_of_dvd dq]
  refine ⟨rfl, ?_⟩
  congr 1; omega
theorem s_law_below : S_less (evD Φ G W 2 2 ir_law_below) := s_less
end
end Ev

set_option maxRecDepth 100000
set_option maxHeartbeats 4000000
namespace Ev
open PySem PySem.Spec PyProof.Rows L2
def ir_row_bounds_e1 : E := .bi .len (.cons (.ix (.fld (.slot 0) 0 1) (.slot 2)) .nil)
/-- row_bounds(house, seen); names: 0 house, 1 seen, 2 v -/
def ir_row_bounds : Ss := (.cons (.ret (.comp ir_row_bounds_e1 (.nm 2) (.over (.slot 1)) .no)) .nil)
def d_row_bounds : DefI := ⟨2, 3, ir_row_bounds, none⟩
def ir_row_of_e1 : E := .ix (.slot 4) (.slot 5)
/-- row_of(house, setting, seen, way); names: 0 house, 1 setting, 2 seen, 3 way, 4 words, 5 v -/
def ir_row_of : Ss := (.cons (.set (.nm 4) (.call "outcome" (.cons (.slot 0) (.cons (.slot 3) (.cons (.slot 1) .nil))))) (.cons (.ret (.call "place" (.cons (.call "row_bounds" (.cons (.slot 0) (.cons (.slot 2) .nil))) (.cons (.comp ir_row_of_e1 (.nm 5) (.over (.slot 2)) .no) .nil)))) .nil))
def d_row_of : DefI := ⟨4, 6, ir_row_of, none⟩
def ir_law_seen_e1 : E := .ix (.slot 1) (.slot 4)
def ir_law_seen_b1 : Ss := (.cons (.ite (.cmp .gt (.call "_law_size" (.cons (.comp ir_law_seen_e1 (.nm 4) (.over (.slot 3)) .no) .nil)) (.slot 2)) (.cons (.set (.nm 3) (.sl (.slot 3) .no (.yes (.neg (.cst (.int 1)))))) .nil) .nil) .nil)
def ir_law_seen_e2 : E := .slot 4
def ir_law_seen_o1 : E := .cmp .eq (.bin .mod (.bi .int (.cons (.ix (.slot 0) (.slot 4)) .nil)) (.cst (.int 2))) (.cst (.int 0))
/-- _law_seen(_law_row_here, _law_counts, _law_most); names: 0 _law_row_here, 1 _law_counts, 2 _law_most, 3 _law_seen_here, 4 _law_v, 5 _law_turn -/
def ir_law_seen : Ss := (.cons (.set (.nm 3) (.comp ir_law_seen_e2 (.nm 4) (.rng (.bi .len (.cons (.slot 1) .nil))) (.yes ir_law_seen_o1))) (.cons (.ite (.cmp .eq (.slot 3) (.lst .nil)) (.cons (.set (.nm 3) (.lst (.cons (.bin .mod (.bi .int (.cons (.ix (.slot 0) (.cst (.int 0))) .nil)) (.bi .len (.cons (.slot 1) .nil))) .nil))) .nil) .nil) (.cons (.for (.nm 5) (.rng (.cst (.int 4))) ir_law_seen_b1) (.cons (.ret (.slot 3)) .nil))))
def d_law_seen : DefI := ⟨3, 6, ir_law_seen, none⟩
end Ev

set_option maxRecDepth 100000
set_option maxHeartbeats 4000000
namespace Ev
open PySem PySem.Spec PyProof.Rows L2
def ir_is_table_b1 : Ss := (.cons (.ite (.or (.not (.call "at_most" (.cons (.glob "ZERO") (.cons (.slot 5) .nil)))) (.or (.not (.call "at_most" (.cons (.slot 5) (.cons (.slot 6) .nil)))) (.not (.call "at_most" (.cons (.slot 6) (.cons (.glob "ONE") .nil)))))) (.cons (.ret (.cst (.bl false))) .nil) .nil) .nil)
/-- is_table(house, table); names: 0 house, 1 table, 2 setting, 3 seen, 4 bounds, 5 low, 6 high -/
def ir_is_table : Ss := (.cons (.set (.tp [2, 3, 4]) (.slot 1)) (.cons (.ite (.cmp .ne (.bi .len (.cons (.slot 4) .nil)) (.call "size" (.cons (.call "row_bounds" (.cons (.slot 0) (.cons (.slot 3) .nil))) .nil))) (.cons (.ret (.cst (.bl false))) .nil) .nil) (.cons (.for (.tp [5, 6]) (.over (.slot 4)) ir_is_table_b1) (.cons (.ret (.cst (.bl true))) .nil))))
def d_is_table : DefI := ⟨2, 7, ir_is_table, none⟩
end Ev

set_option maxRecDepth 100000
set_option maxHeartbeats 4000000
set_option exponentiation.threshold 200000
/-! Tables. -/
namespace Ev
open PySem PySem.Spec PyProof.Rows L2
/-- variables that are seen -/
structure SeenOk (cs sn : List Nat) : Prop where
  low : ∀ v ∈ sn, v < cs.length
  asc : sn.Pairwise (· < ·)
  ne : sn ≠ []
theorem SeenOk.few {cs hs sn} (s : Shape cs hs) (h : SeenOk cs sn) : sn.length ≤ 5 := Nat.le_trans (sorted_len h.asc h.low) s.few
theorem SeenOk.bnd {cs hs sn} (s : Shape cs hs) (h : SeenOk cs sn) : ∀ b ∈ bnds cs sn, b = 2 ∨ b = 3 := by
  intro b hb
  simp only [bnds, List.mem_map] at hb
  obtain ⟨u, hu, rfl⟩ := hb
  rw [s.cat (h.low u hu)]
  exact s.cnt _ (List.getElem_mem _)
theorem SeenOk.small {cs hs sn} (s : Shape cs hs) (h : SeenOk cs sn) : Small (bnds cs sn) := by
  refine ⟨fun b hb => by rcases h.bnd s b hb with h | h <;> (subst h; decide), ?_⟩
  have := h.few s
  rw [bnds_len]; omega
theorem SeenOk.rows {cs hs sn} (s : Shape cs hs) (h : SeenOk cs sn) : 2 ≤ prod (bnds cs sn) ∧ prod (bnds cs sn) ≤ 243 := by
  have hb := h.bnd s
  constructor
  · cases hsn : sn with
    | nil => exact absurd hsn h.ne
    | cons a l =>
      rw [hsn] at hb
      have e : prod (bnds cs (a :: l)) = (cs.getD a 0) * prod (bnds cs l) := by
        show prod ([cs.getD a 0] ++ bnds cs l) = _
        rw [prod_app]; simp [prod]
      have h1 := hb (cs.getD a 0) (by simp [bnds])
      have h2 : 0 < prod (bnds cs l) := prod_pos fun b hb' => by rcases hb b (by simp only [bnds, List.map_cons, List.mem_cons] at hb' ⊢; exact .inr hb') with h | h <;> omega
      rw [e]
      have := Nat.mul_le_mul (show 2 ≤ cs.getD a 0 by omega) h2
      omega
  · refine Nat.le_trans (prod_le _ fun b h => by rcases hb b h with h | h <;> omega) ?_
    have := h.few s
    rw [bnds_len]
    exact Nat.le_trans (Nat.pow_le_pow_right (by decide) this) (by decide)
def S_rbounds (F : List D → Res M) : Prop := ∀ nm ws hs, House nm ws hs → ∀ sn, SeenOk (cnts ws) sn → F [encHo nm ws hs, .lst (encN sn)] = .ok (.fl (encN (bnds (cnts ws) sn)))
def rowOf (cs : List Nat) (hs : List (List Nat)) (st : List (Nat × Nat)) (sn : List Nat) (w : List (List Nat)) : Nat := plc (bnds cs sn) (sn.map fun v => (said cs hs w st).getD v 0)
def S_row_of (F : List D → Res M) : Prop := ∀ nm ws hs, House nm ws hs → ∀ st, SetOk (cnts ws) st → ∀ sn, SeenOk (cnts ws) sn → ∀ w, Way (cnts ws) hs w →
  F [encHo nm ws hs, .lst (encP st), .lst (encN sn), .lst (encR w)] = .ok (.frz (.int (rowOf (cnts ws) hs st sn w : Nat)))
theorem rowOf_lt {cs hs st sn w} (s : Shape cs hs) (ho : SetOk cs st) (hn : SeenOk cs sn) (hw : Way cs hs w) : rowOf cs hs st sn w < prod (bnds cs sn) := by
  refine plc_lt (by simp) fun k hk => ?_
  have hk' : k < sn.length := by simpa using hk
  have := said_lt s hw ho sn[k] (hn.low _ (List.getElem_mem _))
  unfold bnds
  rw [List.getD_eq_getElem?_getD, List.getD_eq_getElem?_getD, List.getElem?_map, List.getElem?_map, List.getElem?_eq_getElem hk']
  simpa using this
/-- bounds -/
def encB (x : Rat × Rat) : D := .tup [encQ x.1, encQ x.2]
def encBs (l : List (Rat × Rat)) : List D := l.map encB
@[simp] theorem encBs_len {l} : (encBs l).length = l.length := by simp [encBs]
@[simp] theorem flat_Q {x} : (encQ x).flat = true := by simp [encQ]
@[simp] theorem flat_B {x} : (encB x).flat = true := by simp [encB]
@[simp] theorem flats_B {l} : D.flats (encBs l) = true := flats_map fun _ _ => by simp
theorem encBs_at {l : List (Rat × Rat)} {j : Nat} (h : j < l.length) : atI (encBs l) (j : Int) = some (encB l[j]) := by unfold encBs; rw [at_map rfl h]
def BdB (n : Nat) (l : List (Rat × Rat)) : Prop := ∀ x ∈ l, Bd n x.1 ∧ Bd n x.2
theorem BdB.mono {n m l} (h : BdB n l) (k : n ≤ m) : BdB m l := fun x hx => ⟨(h x hx).1.mono k, (h x hx).2.mono k⟩
def okB (x : Rat × Rat) : Bool := decide (0 ≤ x.1) && (decide (x.1 ≤ x.2) && decide (x.2 ≤ 1))
def S_is_table (F : List D → Res M) : Prop := ∀ nm ws hs, House nm ws hs → ∀ st sn, SeenOk (cnts ws) sn → ∀ bs, BdB 4000 bs → bs.length < 100000 →
  F [encHo nm ws hs, .tup [.lst st, .lst (encN sn), .lst (encBs bs)]] = .ok (.frz (.bl (decide (bs.length = prod (bnds (cnts ws) sn)) && bs.all okB)))
def S_seen (F : List D → Res M) : Prop := ∀ cs hs, Shape cs hs → ∀ (r : List Nat) (most : Nat), 5 ≤ r.length → 3 ≤ most → ∃ sn, SeenOk cs sn ∧ prod (bnds cs sn) ≤ most ∧ F [.lst (encN r), .lst (encN cs), .int most] = .ok (.fl (encN sn))
theorem cut_m1 {ds : List D} : cutD ds none (some (-1)) = ds.dropLast := by
  unfold cutD
  rw [HT.sIx_none, List.drop_zero, Nat.sub_zero]
  show ds.take (if (-1 : Int) < 0 then (-1 + (ds.length : Int)).toNat else min (-1 : Int).toNat ds.length) = _
  rw [if_pos (by decide), List.dropLast_eq_take, show (-1 + (ds.length : Int)).toNat = ds.length - 1 by omega]
theorem cmp_eqNil {a : List Nat} : cmpD .eq (.lst (encN a)) (.lst []) = some (decide (a = [])) := cmp_eqN (b := [])
section
variable {Φ : String → List D → Res M} {G : String → Option D} {W : Nat}
theorem s_row_bounds : S_rbounds (evD Φ G W 2 3 ir_row_bounds) := by
  intro nm ws hs H sn hn
  have ec : compGo (.nm 2) (fun _ => .ok true) (fun g => ev Φ G ir_row_bounds_e1 g) (encN sn) [some (M.frz (encHo nm ws hs)), some (.frz (.lst (encN sn))), none] = .ok (encN (bnds (cnts ws) sn)) := by
    rw [compN1 sn (fun u => .int ((cnts ws).getD u 0 : Nat)) (by have := hn.few H.shape; unfold lim; omega)]
    · simp [encN, bnds]
    · intro u hu
      have hu' : u < ws.length := by have := hn.low u hu; simpa using this
      exact ⟨.frz (.int (ws[u].length : Nat)), [], by simp [ir_row_bounds_e1, House.wat hu'], nrm_nil _, by rw [H.cnt hu']; simp⟩
  rw [evD_eq (by rfl)]
  simp [ir_row_bounds, ec]
/-- the words that are seen -/
theorem comp_get {i j : Nat} {g : Gm} {e : E} (he : e = .ix (.slot i) (.slot j)) (hij : i ≠ j) {a : List Nat} (hg : g[i]? = some (some (.frz (.lst (encN a)))) ∨ g[i]? = some (some (.fl (encN a)))) (hj : j < g.length) (l : List Nat) (hl : l.length < lim) (ha : ∀ u ∈ l, u < a.length) :
    compGo (.nm j) (fun _ => .ok true) (fun g => ev Φ G e g) (encN l) g = .ok (encN (l.map fun u => a.getD u 0)) := by
  subst he
  rw [compN1 l (fun u => .int (a.getD u 0 : Nat)) hl]
  · simp -implicitDefEqProofs [-List.getD_eq_getElem?_getD, encN, Function.comp_def]
  · intro u hu
    refine ⟨.frz (.int (a.getD u 0 : Nat)), [], ?_, nrm_nil _, by simp⟩
    have e1 := encN_getD (l := a) (j := u) (ha u hu)
    have e2 : (g.set j (some (.frz (.int (u : Nat)))))[i]? = g[i]? := by rw [List.getElem?_set_ne hij.symm]
    have e3 : (g.set j (some (.frz (.int (u : Nat)))))[j]? = some (some (.frz (.int (u : Nat)))) := by rw [List.getElem?_set_self hj]
    rcases hg with hg | hg <;> simp -implicitDefEqProofs [-List.getD_eq_getElem?_getD, e2, e3, hg, e1]
theorem s_row_of (ho : S_outcome (Φ "outcome")) (hp : S_place (Φ "place")) (hb : S_rbounds (Φ "row_bounds")) : S_row_of (evD Φ G W 4 6 ir_row_of) := by
  intro nm ws hs H st hst sn hn w hw
  have e1 := ho nm ws hs H w hw st hst
  have e2 := hb nm ws hs H sn hn
  have e3 := hp (bnds (cnts ws) sn) (sn.map fun v => (said (cnts ws) hs w st).getD v 0) (hn.small H.shape) (by simp) _ (.inl rfl)
  have ec := comp_get (Φ := Φ) (G := G) (i := 4) (j := 5) (e := ir_row_of_e1) (g := [some (M.frz (encHo nm ws hs)), some (.frz (.lst (encP st))), some (.frz (.lst (encN sn))), some (.frz (.lst (encR w))), some (.fl (encN (said (cnts ws) hs w st))), none]) rfl (by decide) (.inr rfl) (by simp) sn (by have := hn.few H.shape; unfold lim; omega) (fun u hu => by have := hn.low u hu; simpa using this)
  rw [evD_eq (by rfl)]
  simp -implicitDefEqProofs [-List.getD_eq_getElem?_getD, ir_row_of, e1, e2, ec, e3, rowOf]
theorem s_is_table (hO : G "ONE" = some (encQ 1)) (hZ : G "ZERO" = some (encQ 0)) (hz : S_size (Φ "size")) (hb : S_rbounds (Φ "row_bounds")) (ha : S_at_most (Φ "at_most")) : S_is_table (evD Φ G W 2 7 ir_is_table) := by
  intro nm ws hs H st sn hn bs hbd hbl
  have e1 := hb nm ws hs H sn hn
  have e2 := hz _ (hn.small H.shape)
  have b0 : Bd 4000 (0 : Rat) := Bd.zero (by decide)
  have b1 : Bd 4000 (1 : Rat) := ⟨by decide +kernel, by decide +kernel⟩
  rw [evD_eq (by rfl)]
  by_cases hl : bs.length = prod (bnds (cnts ws) sn)
  · have key := forL_rt (t := .tp [5, 6]) (f := fun g => evSs Φ G W ir_is_table_b1 g) bs encB
      (fun i g => ∃ x5 x6, g = [some (M.frz (encHo nm ws hs)), some (.frz (.tup [.lst st, .lst (encN sn), .lst (encBs bs)])), some (.frz (.lst st)), some (.frz (.lst (encN sn))), some (.frz (.lst (encBs bs))), x5, x6])
      (fun x => !okB x) (.frz (.bl false))
      (g := [some (M.frz (encHo nm ws hs)), some (.frz (.tup [.lst st, .lst (encN sn), .lst (encBs bs)])), some (.frz (.lst st)), some (.frz (.lst (encN sn))), some (.frz (.lst (encBs bs))), none, none]) ⟨none, none, rfl⟩ (by
        rintro j hj g ⟨x5, x6, rfl⟩
        obtain ⟨h1, h2⟩ := hbd bs[j] (List.getElem_mem _)
        generalize bs[j] = x at *
        obtain ⟨lo, hi⟩ := x
        simp only at h1 h2
        have c1 := ha 0 lo b0 h1
        have c2 := ha lo hi h1 h2
        have c3 := ha hi 1 h2 b1
        unfold okB
        simp only
        by_cases k1 : 0 ≤ lo
        · by_cases k2 : lo ≤ hi
          · by_cases k3 : hi ≤ 1
            · simp [encB, ir_is_table_b1, hO, hZ, c1, c2, c3, k1, k2, k3]
            · simp [encB, ir_is_table_b1, hO, hZ, c1, c2, c3, k1, k2, k3]
          · simp [encB, ir_is_table_b1, hO, hZ, c1, c2, c3, k1, k2]
        · simp [encB, ir_is_table_b1, hO, hZ, c1, c2, c3, k1])
    have ea : bs.all okB = !bs.any fun x => !okB x := by rw [List.not_any_eq_all_not]; simp
    rw [ea]
    split at key
    · rename_i hq
      rw [hq]
      unfold encBs at *
      simp [ir_is_table, e1, e2, hl, key]
    · rename_i hq
      rw [Bool.not_eq_true] at hq
      rw [hq]
      obtain ⟨g', e, _⟩ := key
      unfold encBs at *
      simp [ir_is_table, e1, e2, hl, e]
  · have hl' : ¬ (bs.length : Int) = (prod (bnds (cnts ws) sn) : Nat) := by omega
    simp [ir_is_table, e1, e2, hl, hl']
theorem s_law_seen (hz : S_size (Φ "_law_size")) : S_seen (evD Φ G W 3 6 ir_law_seen) := by
  intro cs hs s r most hr hm
  have hf := s.few
  have hp := s.pos
  have hrg : rngR (.int cs.length) = .ok (rngD 0 cs.length, []) := rngR_nat (by omega)
  have hrg4 : rngR (.int 4) = .ok (rngD 0 4, []) := rngR_nat (n := 4) (by omega)
  have ec : compGo (.nm 4) (fun g => tv Φ G ir_law_seen_o1 g (ev Φ G ir_law_seen_o1 g)) (fun g => ev Φ G ir_law_seen_e2 g) (rngD 0 cs.length) [some (M.frz (.lst (encN r))), some (.frz (.lst (encN cs))), some (.frz (.int most)), none, none, none] = .ok (encN ((List.range cs.length).filter fun v => r.getD v 0 % 2 == 0)) := by
    rw [rngD_N, compN (List.range cs.length) (fun v => r.getD v 0 % 2 == 0) (fun v => .int (v : Nat)) (by rw [List.length_range]; unfold lim; omega)]
    · rfl
    · intro v hv
      have hv' : v < cs.length := by simpa using hv
      have ea := encN_getD (l := r) (j := v) (by omega)
      have b1 : binR .mod (.int (r.getD v 0 : Nat), []) (.int 2, []) = .ok (.frz (.int (r.getD v 0 % 2 : Nat)), []) := by rw [binR_mod (by decide)]; simp
      refine ⟨?_, fun _ => ⟨.frz (.int (v : Nat)), [], by simp [ir_law_seen_e2], nrm_nil _, by simp⟩⟩
      generalize r.getD v 0 % 2 = q at *
      simp -implicitDefEqProofs [-List.getD_eq_getElem?_getD, ir_law_seen_o1, ea, b1]
      rw [Bool.eq_iff_iff]; simp
  -- what is seen first
  have first : ∃ sn, SeenOk cs sn ∧ (evS Φ G W (.ite (.cmp .eq (.slot 3) (.lst .nil)) (.cons (.set (.nm 3) (.lst (.cons (.bin .mod (.bi .int (.cons (.ix (.slot 0) (.cst (.int 0))) .nil)) (.bi .len (.cons (.slot 1) .nil))) .nil))) .nil) .nil)
      [some (M.frz (.lst (encN r))), some (.frz (.lst (encN cs))), some (.frz (.int most)), some (.fl (encN ((List.range cs.length).filter fun v => r.getD v 0 % 2 == 0))), none, none]) = .ok (.nx [some (M.frz (.lst (encN r))), some (.frz (.lst (encN cs))), some (.frz (.int most)), some (.fl (encN sn)), none, none]) := by
    by_cases hE : (List.range cs.length).filter (fun v => r.getD v 0 % 2 == 0) = []
    · have a0 := encN_getD (l := r) (j := 0) (by omega)
      simp only [Int.ofNat_zero, Int.cast_ofNat_Int] at a0
      have b1 : binR .mod (.int (r.getD 0 0 : Nat), []) (.int (cs.length : Nat), []) = .ok (.frz (.int (r.getD 0 0 % cs.length : Nat)), []) := by rw [binR_mod (by omega)]; simp
      refine ⟨[r.getD 0 0 % cs.length], ⟨fun v hv => ?_, List.pairwise_singleton _ _, by simp⟩, ?_⟩
      · simp only [List.mem_singleton] at hv
        subst hv; exact Nat.mod_lt _ hp
      · generalize r.getD 0 0 % cs.length = q at *
        rw [hE]
        have en : encN [] = [] := rfl
        have cn : cmpD .eq (.lst []) (.lst []) = some true := cmp_eqNil (a := [])
        simp -implicitDefEqProofs [-List.getD_eq_getElem?_getD, en, cn, a0, b1]
        simp [encN]
    · refine ⟨_, ⟨fun v hv => ?_, ?_, hE⟩, ?_⟩
      · have := (List.mem_filter.mp hv).1
        simpa using this
      · exact List.Pairwise.filter _ List.pairwise_lt_range
      · generalize (List.range cs.length).filter (fun v => r.getD v 0 % 2 == 0) = sn at *
        simp [cmp_eqNil, hE]
  obtain ⟨sn0, ok0, e0⟩ := first
  obtain ⟨g', e, sn, x4, x5, ok, hle, hx⟩ := forN (i := 5) (f := fun g => evSs Φ G W ir_law_seen_b1 g) 4
    (fun i g => ∃ sn x4 x5, SeenOk cs sn ∧ (prod (bnds cs sn) ≤ most ∨ sn.length + i ≤ 5) ∧ g = [some (M.frz (.lst (encN r))), some (.frz (.lst (encN cs))), some (.frz (.int (most : Nat))), some (.fl (encN sn)), x4, x5])
    (g := [some (M.frz (.lst (encN r))), some (.frz (.lst (encN cs))), some (.frz (.int (most : Nat))), some (.fl (encN sn0)), none, none]) ⟨sn0, none, none, ok0, .inr (ok0.few s), rfl⟩ (by
      rintro j hj g ⟨sn, x4, x5, ok, hle, rfl⟩
      have e1 := hz _ (ok.small s)
      have ec := fun x => comp_get (Φ := Φ) (G := G) (i := 1) (j := 4) (e := ir_law_seen_e1) (g := [some (M.frz (.lst (encN r))), some (.frz (.lst (encN cs))), some (.frz (.int (most : Nat))), some (.fl (encN sn)), x4, x]) rfl (by decide) (.inl rfl) (by simp) sn (by have := ok.few s; unfold lim; omega) ok.low
      have eb : (sn.map fun u => cs.getD u 0) = bnds cs sn := rfl
      rw [eb] at ec
      by_cases hgt : most < prod (bnds cs sn)
      · have hgt' : ((most : Nat) : Int) < (prod (bnds cs sn) : Nat) := by omega
        have hlen : 2 ≤ sn.length := by
          rcases Nat.lt_or_ge sn.length 2 with h | h
          · exfalso
            have := prod_le (bnds cs sn) fun b hb => by rcases ok.bnd s b hb with h | h <;> omega
            rw [bnds_len] at this
            have := Nat.le_trans this (Nat.pow_le_pow_right (by decide) (show sn.length ≤ 1 by omega))
            omega
          · exact h
        refine ⟨_, ?_, sn.dropLast, x4, some (.frz (.int j)), ⟨fun v hv => ok.low v ((List.dropLast_sublist _).subset hv), List.Pairwise.sublist (List.dropLast_sublist _) ok.asc, ?_⟩, ?_, rfl⟩
        · simp -implicitDefEqProofs [-List.getD_eq_getElem?_getD, ir_law_seen_b1, ec, e1, hgt, hgt', cut_m1]
          simp [encN, List.map_dropLast]
        · intro h
          have := congrArg List.length h
          simp at this; omega
        · rcases hle with h | h
          · omega
          · right; rw [List.length_dropLast]; omega
      · have hgt' : ¬ ((most : Nat) : Int) < (prod (bnds cs sn) : Nat) := by omega
        refine ⟨_, ?_, sn, x4, some (.frz (.int j)), ok, .inl (by omega), rfl⟩
        simp -implicitDefEqProofs [-List.getD_eq_getElem?_getD, ir_law_seen_b1, ec, e1, hgt, hgt'])
  subst hx
  refine ⟨sn, ok, ?_, ?_⟩
  · rcases hle with h | h
    · exact h
    · have := prod_le (bnds cs sn) fun b hb => by rcases ok.bnd s b hb with h | h <;> omega
      rw [bnds_len] at this
      have := Nat.le_trans this (Nat.pow_le_pow_right (by decide) (show sn.length ≤ 1 by omega))
      omega
  · have e01 : evS Φ G W (.set (.nm 3) (.comp ir_law_seen_e2 (.nm 4) (.rng (.bi .len (.cons (.slot 1) .nil))) (.yes ir_law_seen_o1))) [some (M.frz (.lst (encN r))), some (.frz (.lst (encN cs))), some (.frz (.int most)), none, none, none]
        = .ok (.nx [some (M.frz (.lst (encN r))), some (.frz (.lst (encN cs))), some (.frz (.int most)), some (.fl (encN ((List.range cs.length).filter fun v => r.getD v 0 % 2 == 0))), none, none]) := by
      simp -implicitDefEqProofs [-List.getD_eq_getElem?_getD, hrg, ec]
    simp only [Int.cast_ofNat_Int] at e
    rw [evD_eq (by rfl)]
    show (evSs Φ G W ir_law_seen [some (M.frz (.lst (encN r))), some (.frz (.lst (encN cs))), some (.frz (.int most)), none, none, none]).bind defR = _
    rw [ir_law_seen, evSs_cons, e01, Res.bind_ok, seqR_nx, evSs_cons, e0]
    simp -implicitDefEqProofs [hrg4, e]
end
end Ev

set_option maxRecDepth 100000
set_option maxHeartbeats 4000000
namespace Ev
open PySem PySem.Spec PyProof.Rows L2
def ir_holds_b1 : Ss := (.cons (.ite (.cmp .ne (.ix (.call "outcome" (.cons (.slot 0) (.cons (.slot 2) (.cons (.slot 5) .nil)))) (.slot 3)) (.slot 4)) (.cons (.ret (.cst (.bl false))) .nil) .nil) .nil)
/-- holds(house, event, way); names: 0 house, 1 event, 2 way, 3 variable, 4 word, 5 setting -/
def ir_holds : Ss := (.cons (.for (.tp [3, 4, 5]) (.over (.slot 1)) ir_holds_b1) (.cons (.ret (.cst (.bl true))) .nil))
def d_holds : DefI := ⟨3, 6, ir_holds, none⟩
def ir_question_value_b1 : Ss := (.cons (.ite (.call "holds" (.cons (.slot 0) (.cons (.slot 5) (.cons (.slot 2) .nil)))) (.cons (.set (.nm 3) (.call "add" (.cons (.slot 3) (.cons (.slot 4) .nil)))) .nil) .nil) .nil)
/-- question_value(house, question, way); names: 0 house, 1 question, 2 way, 3 total, 4 factor, 5 event -/
def ir_question_value : Ss := (.cons (.set (.nm 3) (.glob "ZERO")) (.cons (.for (.tp [4, 5]) (.over (.slot 1)) ir_question_value_b1) (.cons (.ret (.slot 3)) .nil)))
def d_question_value : DefI := ⟨3, 6, ir_question_value, none⟩
/-- _law_add(_law_a, _law_b); names: 0 _law_a, 1 _law_b -/
def ir_law_add : Ss := (.cons (.ret (.call "_law_lowest" (.cons (.bin .add (.bin .mul (.ix (.slot 0) (.cst (.int 0))) (.ix (.slot 1) (.cst (.int 1)))) (.bin .mul (.ix (.slot 1) (.cst (.int 0))) (.ix (.slot 0) (.cst (.int 1))))) (.cons (.bin .mul (.ix (.slot 0) (.cst (.int 1))) (.ix (.slot 1) (.cst (.int 1)))) .nil)))) .nil)
def d_law_add : DefI := ⟨2, 2, ir_law_add, none⟩
def ir_law_event_b1 : Ss := (.cons (.set (.nm 5) (.sl (.slot 0) (.yes (.bin .mul (.cst (.int 12)) (.slot 4))) (.yes (.bin .add (.bin .mul (.cst (.int 12)) (.slot 4)) (.cst (.int 12)))))) (.cons (.set (.nm 6) (.bin .mod (.bi .int (.cons (.ix (.slot 5) (.cst (.int 10))) .nil)) (.bi .len (.cons (.slot 1) .nil)))) (.cons (.set (.nm 7) (.call "_law_setting" (.cons (.slot 5) (.cons (.slot 1) .nil)))) (.cons (.ite (.cmp .eq (.bin .mod (.bi .int (.cons (.ix (.slot 5) (.cst (.int 11))) .nil)) (.cst (.int 4))) (.cst (.int 0))) (.cons (.set (.nm 7) (.lst .nil)) .nil) .nil) (.cons (.app 3 (.tup (.cons (.slot 6) (.cons (.bin .mod (.bi .int (.cons (.bin .fdiv (.ix (.slot 5) (.cst (.int 11))) (.cst (.int 4))) .nil)) (.ix (.slot 1) (.slot 6))) (.cons (.slot 7) .nil))))) .nil)))))
/-- _law_event(_law_row_here, _law_counts, _law_many); names: 0 _law_row_here, 1 _law_counts, 2 _law_many, 3 _law_event_here, 4 _law_k, 5 _law_part, 6 _law_v, 7 _law_setting_here -/
def ir_law_event : Ss := (.cons (.set (.nm 3) (.lst .nil)) (.cons (.for (.nm 4) (.rng (.slot 2)) ir_law_event_b1) (.cons (.ret (.slot 3)) .nil)))
def d_law_event : DefI := ⟨3, 8, ir_law_event, none⟩
def ir_law_holds_b1 : Ss := (.cons (.ite (.cmp .ne (.ix (.call "_law_outcome" (.cons (.slot 0) (.cons (.slot 1) (.cons (.slot 3) (.cons (.slot 6) .nil))))) (.slot 4)) (.slot 5)) (.cons (.ret (.cst (.bl false))) .nil) .nil) .nil)
/-- _law_holds(_law_counts, _law_heard, _law_event_here, _law_way); names: 0 _law_counts, 1 _law_heard, 2 _law_event_here, 3 _law_way, 4 _law_v, 5 _law_word, 6 _law_setting_here -/
def ir_law_holds : Ss := (.cons (.for (.tp [4, 5, 6]) (.over (.slot 2)) ir_law_holds_b1) (.cons (.ret (.cst (.bl true))) .nil))
def d_law_holds : DefI := ⟨4, 7, ir_law_holds, none⟩
def ir_law_copied_e1 : E := .tup (.cons (.slot 1) (.cons (.slot 2) (.cons (.bi .lst (.cons (.slot 3) .nil)) .nil)))
/-- _law_copied(_law_event_here); names: 0 _law_event_here, 1 _law_v, 2 _law_word, 3 _law_setting_here -/
def ir_law_copied : Ss := (.cons (.ret (.comp ir_law_copied_e1 (.tp [1, 2, 3]) (.over (.slot 0)) .no)) .nil)
def d_law_copied : DefI := ⟨1, 4, ir_law_copied, none⟩
end Ev

set_option maxRecDepth 100000
set_option maxHeartbeats 4000000
set_option exponentiation.threshold 200000
/-! Events and questions. -/
namespace Ev
open PySem PySem.Spec PyProof.Rows L2
structure Cond where
  v : Nat
  w : Nat
  st : List (Nat × Nat)
def Cond.enc (c : Cond) : D := .tup [.int c.v, .int c.w, .lst (encP c.st)]
def encE (e : List Cond) : List D := e.map Cond.enc
@[simp] theorem encE_len {e} : (encE e).length = e.length := by simp [encE]
structure CondOk (cs : List Nat) (c : Cond) : Prop where
  v : c.v < cs.length
  st : SetOk cs c.st
def EvOk (cs : List Nat) (e : List Cond) : Prop := ∀ c ∈ e, CondOk cs c
def holdsC (cs : List Nat) (hs : List (List Nat)) (w : List (List Nat)) (c : Cond) : Bool := (said cs hs w c.st).getD c.v 0 == c.w
def holdsB (cs : List Nat) (hs : List (List Nat)) (e : List Cond) (w : List (List Nat)) : Bool := e.all (holdsC cs hs w)
abbrev Term := Rat × List Cond
def encT (t : Term) : D := .tup [encQ t.1, .lst (encE t.2)]
def encQu (q : List Term) : List D := q.map encT
@[simp] theorem encQu_len {q} : (encQu q).length = q.length := by simp [encQu]
def valueOf (cs : List Nat) (hs : List (List Nat)) (q : List Term) (w : List (List Nat)) : Rat := ((q.filter fun t => holdsB cs hs t.2 w).map (·.1)).sum
structure QuOk (b : Nat) (cs : List Nat) (q : List Term) : Prop where
  bd : ∀ t ∈ q, Bd b t.1
  ev : ∀ t ∈ q, EvOk cs t.2
  few : (b + 1) * q.length + 1 ≤ 4000
def S_holds (F : List D → Res M) : Prop := ∀ nm ws hs, House nm ws hs → ∀ e, EvOk (cnts ws) e → ∀ w, Way (cnts ws) hs w → F [encHo nm ws hs, .lst (encE e), .lst (encR w)] = .ok (.frz (.bl (holdsB (cnts ws) hs e w)))
def S_lholds (F : List D → Res M) : Prop := ∀ cs hs, Shape cs hs → ∀ e, EvOk cs e → ∀ w, Way cs hs w → F [.lst (encN cs), .lst (encR hs), .lst (encE e), .lst (encR w)] = .ok (.frz (.bl (holdsB cs hs e w)))
def S_value (F : List D → Res M) : Prop := ∀ nm ws hs, House nm ws hs → ∀ b q, QuOk b (cnts ws) q → ∀ w, Way (cnts ws) hs w → F [encHo nm ws hs, .lst (encQu q), .lst (encR w)] = .ok (.frz (encQ (valueOf (cnts ws) hs q w)))
def S_copied (F : List D → Res M) : Prop := ∀ e : List Cond, e.length < 1000 → F [.lst (encE e)] = .ok (.fl (encE e))
def S_event (F : List D → Res M) : Prop := ∀ cs hs, Shape cs hs → ∀ (r : List Nat) (m : Nat), 12 * m ≤ r.length → m ≤ 100 → ∃ e, EvOk cs e ∧ e.length = m ∧ F [.lst (encN r), .lst (encN cs), .int m] = .ok (.fl (encE e))
/-- the sum up to a term, and its size -/
theorem partial_bd {b : Nat} {q : List Term} (h : ∀ t ∈ q, Bd b t.1) (p : Term → Bool) : ∀ i, i ≤ q.length → Bd ((b + 1) * i + 1) (((q.take i).filter p).map (·.1)).sum
  | 0, _ => Bd.zero (by simp)
  | i + 1, hi => by
    have ih := partial_bd h p i (by omega)
    have hi' : i < q.length := by omega
    rw [List.take_succ_eq_append_getElem hi', List.filter_append, List.map_append, List.sum_append]
    have k := h q[i] (List.getElem_mem _)
    cases hp : p q[i] with
    | true =>
      have e : List.filter p [q[i]] = [q[i]] := by simp [hp]
      rw [e]
      simp only [List.map_cons, List.map_nil, List.sum_cons, List.sum_nil, Rat.add_zero]
      exact (ih.add k).mono (by rw [Nat.mul_succ]; omega)
    | false =>
      have e : List.filter p [q[i]] = [] := by simp [hp]
      rw [e]
      simp only [List.map_nil, List.sum_nil, Rat.add_zero]
      exact ih.mono (by rw [Nat.mul_succ]; omega)
section
variable {Φ : String → List D → Res M} {G : String → Option D} {W : Nat}
theorem s_holds (ho : S_outcome (Φ "outcome")) : S_holds (evD Φ G W 3 6 ir_holds) := by
  intro nm ws hs H e he w hw
  have key := forL_rt (t := .tp [3, 4, 5]) (f := fun g => evSs Φ G W ir_holds_b1 g) e Cond.enc
    (fun i g => ∃ x3 x4 x5, g = [some (M.frz (encHo nm ws hs)), some (.frz (.lst (encE e))), some (.frz (.lst (encR w))), x3, x4, x5])
    (fun c => !holdsC (cnts ws) hs w c) (.frz (.bl false))
    (g := [some (M.frz (encHo nm ws hs)), some (.frz (.lst (encE e))), some (.frz (.lst (encR w))), none, none, none]) ⟨none, none, none, rfl⟩ (by
      rintro j hj g ⟨x3, x4, x5, rfl⟩
      have hc := he e[j] (List.getElem_mem _)
      generalize e[j] = c at *
      have e1 := ho nm ws hs H w hw c.st hc.st
      have ea := encN_getD (l := said (cnts ws) hs w c.st) (j := c.v) (by simpa using hc.v)
      unfold holdsC
      generalize (said (cnts ws) hs w c.st).getD c.v 0 = x at *
      by_cases hx : x = c.w
      · subst hx
        simp [Cond.enc, ir_holds_b1, e1, ea]
      · have hx' : ¬ (x : Int) = c.w := by omega
        simp [Cond.enc, ir_holds_b1, e1, ea, hx, hx'])
  have ea : holdsB (cnts ws) hs e w = !e.any fun c => !holdsC (cnts ws) hs w c := by unfold holdsB; rw [List.not_any_eq_all_not]; simp
  rw [ea, evD_eq (by rfl)]
  rw [show e.map Cond.enc = encE e from rfl] at key
  split at key
  · rename_i hq; rw [hq]; simp [ir_holds, key]
  · rename_i hq
    rw [Bool.not_eq_true] at hq
    rw [hq]
    obtain ⟨g', e1, _⟩ := key
    simp [ir_holds, e1]
theorem s_law_holds (ho : S_loutcome (Φ "_law_outcome")) : S_lholds (evD Φ G W 4 7 ir_law_holds) := by
  intro cs hs s e he w hw
  have key := forL_rt (t := .tp [4, 5, 6]) (f := fun g => evSs Φ G W ir_law_holds_b1 g) e Cond.enc
    (fun i g => ∃ x3 x4 x5, g = [some (M.frz (.lst (encN cs))), some (.frz (.lst (encR hs))), some (.frz (.lst (encE e))), some (.frz (.lst (encR w))), x3, x4, x5])
    (fun c => !holdsC cs hs w c) (.frz (.bl false))
    (g := [some (M.frz (.lst (encN cs))), some (.frz (.lst (encR hs))), some (.frz (.lst (encE e))), some (.frz (.lst (encR w))), none, none, none]) ⟨none, none, none, rfl⟩ (by
      rintro j hj g ⟨x3, x4, x5, rfl⟩
      have hc := he e[j] (List.getElem_mem _)
      generalize e[j] = c at *
      have e1 := ho cs hs s w hw c.st hc.st
      have ea := encN_getD (l := said cs hs w c.st) (j := c.v) (by simpa using hc.v)
      unfold holdsC
      generalize (said cs hs w c.st).getD c.v 0 = x at *
      by_cases hx : x = c.w
      · subst hx
        simp [Cond.enc, ir_law_holds_b1, e1, ea]
      · have hx' : ¬ (x : Int) = c.w := by omega
        simp [Cond.enc, ir_law_holds_b1, e1, ea, hx, hx'])
  have ea : holdsB cs hs e w = !e.any fun c => !holdsC cs hs w c := by unfold holdsB; rw [List.not_any_eq_all_not]; simp
  rw [ea, evD_eq (by rfl)]
  rw [show e.map Cond.enc = encE e from rfl] at key
  split at key
  · rename_i hq; rw [hq]; simp [ir_law_holds, key]
  · rename_i hq
    rw [Bool.not_eq_true] at hq
    rw [hq]
    obtain ⟨g', e1, _⟩ := key
    simp [ir_law_holds, e1]
theorem s_value (hZ : G "ZERO" = some (encQ 0)) (hh : S_holds (Φ "holds")) (ha : S_add (Φ "add")) : S_value (evD Φ G W 3 6 ir_question_value) := by
  intro nm ws hs H b q hq w hw
  obtain ⟨g', e, x4, x5, hx⟩ := forL (t := .tp [4, 5]) (f := fun g => evSs Φ G W ir_question_value_b1 g) q encT
    (fun i g => ∃ x4 x5, g = [some (M.frz (encHo nm ws hs)), some (.frz (.lst (encQu q))), some (.frz (.lst (encR w))), some (.frz (encQ (((q.take i).filter fun t => holdsB (cnts ws) hs t.2 w).map (·.1)).sum)), x4, x5])
    (g := [some (M.frz (encHo nm ws hs)), some (.frz (.lst (encQu q))), some (.frz (.lst (encR w))), some (.frz (encQ 0)), none, none]) ⟨none, none, by simp⟩ (by
      rintro j hj g ⟨x4, x5, rfl⟩
      have k1 := hq.bd q[j] (List.getElem_mem _)
      have k2 := hq.ev q[j] (List.getElem_mem _)
      have k3 := partial_bd hq.bd (fun t => holdsB (cnts ws) hs t.2 w) j (by omega)
      have hf := hq.few
      have hle : (b + 1) * (j + 1) ≤ (b + 1) * q.length := Nat.mul_le_mul_left _ hj
      rw [Nat.mul_succ] at hle
      rw [List.take_succ_eq_append_getElem hj, List.filter_append, List.map_append, List.sum_append]
      generalize q[j] = t at *
      have e1 := hh nm ws hs H t.2 k2 w hw
      generalize (((q.take j).filter fun t => holdsB (cnts ws) hs t.2 w).map (·.1)).sum = tot at *
      have e2 := ha tot t.1 (k3.mono (by omega)) (k1.mono (by omega))
      refine ⟨_, ?_, some (.frz (encQ t.1)), some (.frz (.lst (encE t.2))), rfl⟩
      cases hp : holdsB (cnts ws) hs t.2 w with
      | true =>
        rw [hp] at e1
        have e3 : List.filter (fun t => holdsB (cnts ws) hs t.2 w) [t] = [t] := by simp [hp]
        rw [e3]
        simp [encT, ir_question_value_b1, e1, e2, Rat.add_zero]
      | false =>
        rw [hp] at e1
        have e3 : List.filter (fun t => holdsB (cnts ws) hs t.2 w) [t] = [] := by simp [hp]
        rw [e3]
        simp [encT, ir_question_value_b1, e1, Rat.add_zero])
  subst hx
  rw [List.take_length] at e
  rw [show q.map encT = encQu q from rfl] at e
  rw [evD_eq (by rfl)]
  simp [ir_question_value, hZ, e, valueOf]
theorem s_law_copied : S_copied (evD Φ G W 1 4 ir_law_copied) := by
  intro e he
  have ec : compGo (.tp [1, 2, 3]) (fun _ => .ok true) (fun g => ev Φ G ir_law_copied_e1 g) (encE e) [some (M.frz (.lst (encE e))), none, none, none] = .ok (encE e) :=
    compL1 e Cond.enc Cond.enc (by unfold lim; omega) fun c hc => ⟨_, rfl, .frz c.enc, [], by simp [ir_law_copied_e1, Cond.enc], nrm_nil _, by simp⟩
  rw [evD_eq (by rfl)]
  simp [ir_law_copied, ec]
theorem s_law_add (hw : S_lowest (Φ "_law_lowest")) : S_add (evD Φ G W 2 2 ir_law_add) := by
  intro x y hx hy
  have d1 := den_lt hx
  have d2 := den_lt hy
  have m1 := mulOk_of hx.1 d2 (by decide)
  have m2 := mulOk_of hy.1 d1 (by decide)
  have m3 := mulOk_of d1 d2 (by decide)
  have hp : (0 : Int) < x.den * y.den := by
    have := x.den_pos; have := y.den_pos
    exact Int.mul_pos (by omega) (by omega)
  have hb : ((x.den : Int) * y.den).natAbs < 2 ^ 8900 := Nat.lt_of_lt_of_le (abs_mul_lt d1 d2) (Nat.pow_le_pow_right (by decide) (by decide))
  have e1 := hw (x.num * y.den + y.num * x.den) (x.den * y.den) hp hb
  rw [add_divInt] at e1
  rw [evD_eq (by rfl)]
  simp [ir_law_add, binR_mul m1, binR_mul m2, binR_mul m3, e1]
theorem s_law_event (hst : S_setting (Φ "_law_setting")) : S_event (evD Φ G W 3 8 ir_law_event) := by
  intro cs hs s r m hr hm
  have hp0 := s.pos
  have hf := s.few
  obtain ⟨g', e, ev, x4, x5, x6, x7, h1, h2, hx⟩ := forN (i := 4) (f := fun g => evSs Φ G W ir_law_event_b1 g) m
    (fun i g => ∃ (ev : List Cond) (x4 x5 x6 x7 : Option M), EvOk cs ev ∧ ev.length = i ∧ g = [some (M.frz (.lst (encN r))), some (.frz (.lst (encN cs))), some (.frz (.int m)), some (.fl (encE ev)), x4, x5, x6, x7])
    (g := [some (M.frz (.lst (encN r))), some (.frz (.lst (encN cs))), some (.frz (.int m)), some (.fl []), none, none, none, none]) ⟨[], none, none, none, none, fun c hc => by simp at hc, rfl, by simp [encE]⟩ (by
      rintro k hk g ⟨ev, x4, x5, x6, x7, h1, h2, rfl⟩
      have hcut : cutD (encN r) (some (12 * (k : Int))) (some (12 * (k : Int) + 12)) = encN ((r.drop (12 * k)).take 12) := by
        rw [show 12 * (k : Int) = ((12 * k : Nat) : Int) by omega, show ((12 * k : Nat) : Int) + 12 = ((12 * k + 12 : Nat) : Int) by omega, cut_nn (by simp; omega), encN_drop, encN_take]
        congr 2; omega
      have hlen : ((r.drop (12 * k)).take 12).length = 12 := by simp; omega
      generalize (r.drop (12 * k)).take 12 = part at *
      have a10 := encN_getD (l := part) (j := 10) (by omega)
      have a11 := encN_getD (l := part) (j := 11) (by omega)
      simp only [Int.cast_ofNat_Int] at a10 a11
      have bv : binR .mod (.int (part.getD 10 0 : Nat), []) (.int (cs.length : Nat), []) = .ok (.frz (.int (part.getD 10 0 % cs.length : Nat)), []) := by rw [binR_mod (by omega)]; simp
      have hv : part.getD 10 0 % cs.length < cs.length := Nat.mod_lt _ hp0
      generalize part.getD 10 0 % cs.length = v at *
      have hcp : 0 < cs.getD v 0 := by rw [s.cat hv]; rcases s.cnt _ (List.getElem_mem hv) with h | h <;> omega
      have acv := encN_getD (l := cs) (j := v) hv
      have b4 : binR .mod (.int (part.getD 11 0 : Nat), []) (.int 4, []) = .ok (.frz (.int (part.getD 11 0 % 4 : Nat)), []) := by rw [binR_mod (by decide)]; simp
      have bd4 : binR .fdiv (.int (part.getD 11 0 : Nat), []) (.int 4, []) = .ok (.frz (.int (part.getD 11 0 / 4 : Nat)), []) := by
        rw [binR_fdiv ⟨by decide, by decide⟩, Int.fdiv_eq_ediv_of_nonneg _ (by omega)]; simp
      have bw : binR .mod (.int (part.getD 11 0 / 4 : Nat), []) (.int (cs.getD v 0 : Nat), []) = .ok (.frz (.int (part.getD 11 0 / 4 % cs.getD v 0 : Nat)), []) := by rw [binR_mod (by omega)]; simp
      generalize part.getD 11 0 / 4 % cs.getD v 0 = wd at *
      generalize part.getD 11 0 % 4 = y at *
      generalize part.getD 11 0 / 4 = z at *
      obtain ⟨st, ok, e1⟩ := hst cs hs s part (by omega)
      have hlim : ev.length < lim := by unfold lim; omega
      have b12 := binR_mul (T := []) (U := []) (MulOk.l (i := 12) (j := (k : Int)) (by decide))
      have fin : ∀ st, SetOk cs st → EvOk cs (ev ++ [⟨v, wd, st⟩]) := fun st ok c hc => by
        rcases List.mem_append.mp hc with hc | hc
        · exact h1 c hc
        · simp only [List.mem_singleton] at hc; subst hc; exact ⟨hv, ok⟩
      have snoc : ∀ st, encE ev ++ [.tup [.int (v : Nat), .int (wd : Nat), .lst (encP st)]] = encE (ev ++ [⟨v, wd, st⟩]) := fun st => by simp [encE, Cond.enc]
      by_cases hy : y = 0
      · subst hy
        refine ⟨_, ?_, ev ++ [⟨v, wd, []⟩], some (.frz (.int k)), some (.fl (encN part)), some (.frz (.int v)), some (.frz (.lst [])), fin [] ⟨by simp, List.Pairwise.nil⟩, by simp [h2], rfl⟩
        rw [← snoc]
        have en : encP [] = [] := rfl
        simp -implicitDefEqProofs [-List.getD_eq_getElem?_getD, ir_law_event_b1, b12, hcut, a10, a11, bv, e1, b4, bd4, acv, bw, hlim, en]
      · have hy' : ¬ (y : Int) = 0 := by omega
        refine ⟨_, ?_, ev ++ [⟨v, wd, st⟩], some (.frz (.int k)), some (.fl (encN part)), some (.frz (.int v)), some (.frz (.lst (encP st))), fin st ok, by simp [h2], rfl⟩
        rw [← snoc]
        simp -implicitDefEqProofs [-List.getD_eq_getElem?_getD, ir_law_event_b1, b12, hcut, a10, a11, bv, e1, b4, bd4, acv, bw, hlim, hy, hy'])
  subst hx
  have hrg : rngR (.int (m : Nat)) = .ok (rngD 0 m, []) := rngR_nat (by omega)
  refine ⟨ev, h1, h2, ?_⟩
  rw [evD_eq (by rfl)]
  simp -implicitDefEqProofs [ir_law_event, hrg, e]
end
end Ev

set_option maxRecDepth 100000
set_option maxHeartbeats 4000000
namespace Ev
open PySem PySem.Spec PyProof.Rows L2
def ir_is_mix_b1 : Ss := (.cons (.ite (.call "less" (.cons (.slot 2) (.cons (.glob "ZERO") .nil))) (.cons (.ret (.cst (.bl false))) .nil) .nil) .nil)
/-- is_mix(data, mix); names: 0 data, 1 mix, 2 x -/
def ir_is_mix : Ss := (.cons (.ite (.cmp .ne (.bi .len (.cons (.slot 1) .nil)) (.bi .len (.cons (.fld (.slot 0) 1 3) .nil))) (.cons (.ret (.cst (.bl false))) .nil) .nil) (.cons (.for (.nm 2) (.over (.slot 1)) ir_is_mix_b1) (.cons (.ret (.cmp .eq (.call "added" (.cons (.slot 1) .nil)) (.glob "ONE"))) .nil)))
def d_is_mix : DefI := ⟨2, 3, ir_is_mix, none⟩
def ir_row_chances_b1 : Ss := (.cons (.ite (.cmp .ne (.ix (.slot 3) (.slot 5)) (.glob "ZERO")) (.cons (.set (.nm 6) (.call "row_of" (.cons (.fld (.slot 0) 1 0) (.cons (.slot 1) (.cons (.slot 2) (.cons (.ix (.fld (.slot 0) 1 3) (.slot 5)) .nil)))))) (.cons (.seti 4 (.slot 6) (.call "add" (.cons (.ix (.slot 4) (.slot 6)) (.cons (.ix (.slot 3) (.slot 5)) .nil)))) .nil)) .nil) .nil)
def ir_row_chances_e1 : E := .glob "ZERO"
/-- row_chances(data, setting, seen, mix); names: 0 data, 1 setting, 2 seen, 3 mix, 4 result, 5 k, 6 at -/
def ir_row_chances : Ss := (.cons (.set (.nm 4) (.comp ir_row_chances_e1 (.nm 5) (.rng (.call "size" (.cons (.call "row_bounds" (.cons (.fld (.slot 0) 1 0) (.cons (.slot 2) .nil))) .nil))) .no)) (.cons (.for (.nm 5) (.rng (.bi .len (.cons (.slot 3) .nil))) ir_row_chances_b1) (.cons (.ret (.slot 4)) .nil)))
def d_row_chances : DefI := ⟨4, 7, ir_row_chances, none⟩
def ir_value_in_e1 : E := .call "question_value" (.cons (.fld (.slot 0) 1 0) (.cons (.slot 1) (.cons (.slot 3) .nil)))
/-- value_in(data, question, mix); names: 0 data, 1 question, 2 mix, 3 way -/
def ir_value_in : Ss := (.cons (.ret (.call "dot" (.cons (.comp ir_value_in_e1 (.nm 3) (.over (.fld (.slot 0) 1 3)) .no) (.cons (.slot 2) .nil)))) .nil)
def d_value_in : DefI := ⟨3, 4, ir_value_in, none⟩
def ir_law_mix_e1 : E := .call "_law_lowest" (.cons (.slot 3) (.cons (.slot 4) .nil))
def ir_law_mix_e2 : E := .tup (.cons (.bi .int (.cons (.cmp .eq (.slot 5) (.bin .mod (.bi .int (.cons (.ix (.slot 0) (.cst (.int 0))) .nil)) (.slot 1))) .nil)) (.cons (.cst (.int 1)) .nil))
def ir_law_mix_e3 : E := .bin .mul (.bin .mod (.bi .int (.cons (.slot 3) .nil)) (.cst (.int 5))) (.bi .int (.cons (.cmp .eq (.bin .mod (.bi .int (.cons (.slot 3) .nil)) (.cst (.int 3))) (.cst (.int 0))) .nil))
/-- _law_mix(_law_row_here, _law_many); names: 0 _law_row_here, 1 _law_many, 2 _law_shares, 3 _law_x, 4 _law_total, 5 _law_k -/
def ir_law_mix : Ss := (.cons (.set (.nm 2) (.comp ir_law_mix_e3 (.nm 3) (.over (.sl (.slot 0) .no (.yes (.slot 1)))) .no)) (.cons (.set (.nm 4) (.bi .sum (.cons (.slot 2) .nil))) (.cons (.ite (.cmp .eq (.slot 4) (.cst (.int 0))) (.cons (.ret (.comp ir_law_mix_e2 (.nm 5) (.rng (.slot 1)) .no)) .nil) .nil) (.cons (.ret (.comp ir_law_mix_e1 (.nm 3) (.over (.slot 2)) .no)) .nil))))
def d_law_mix : DefI := ⟨2, 6, ir_law_mix, none⟩
def ir_law_row_chances_e1 : E := .ix (.slot 10) (.slot 7)
def ir_law_row_chances_b1 : Ss := (.cons (.ite (.cmp .ne (.ix (.ix (.slot 5) (.slot 9)) (.cst (.int 0))) (.cst (.int 0))) (.cons (.set (.nm 10) (.call "_law_outcome" (.cons (.slot 0) (.cons (.slot 1) (.cons (.ix (.slot 2) (.slot 9)) (.cons (.slot 3) .nil)))))) (.cons (.set (.nm 11) (.call "_law_place" (.cons (.slot 6) (.cons (.comp ir_law_row_chances_e1 (.nm 7) (.over (.slot 4)) .no) .nil)))) (.cons (.seti 8 (.slot 11) (.call "_law_add" (.cons (.ix (.slot 8) (.slot 11)) (.cons (.ix (.slot 5) (.slot 9)) .nil)))) .nil))) .nil) .nil)
def ir_law_row_chances_e2 : E := .tup (.cons (.cst (.int 0)) (.cons (.cst (.int 1)) .nil))
def ir_law_row_chances_e3 : E := .ix (.slot 0) (.slot 7)
/-- _law_row_chances(_law_counts, _law_heard, _law_ways_here, _law_setting_here, _law_seen_here, _law_mix_here); names: 0 _law_counts, 1 _law_heard, 2 _law_ways_here, 3 _law_setting_here, 4 _law_seen_here, 5 _law_mix_here, 6 _law_bounds_here, 7 _law_v, 8 _law_found, 9 _law_k, 10 _law_said, 11 _law_at -/
def ir_law_row_chances : Ss := (.cons (.set (.nm 6) (.comp ir_law_row_chances_e3 (.nm 7) (.over (.slot 4)) .no)) (.cons (.set (.nm 8) (.comp ir_law_row_chances_e2 (.nm 9) (.rng (.call "_law_size" (.cons (.slot 6) .nil))) .no)) (.cons (.for (.nm 9) (.rng (.bi .len (.cons (.slot 5) .nil))) ir_law_row_chances_b1) (.cons (.ret (.slot 8)) .nil))))
def d_law_row_chances : DefI := ⟨6, 12, ir_law_row_chances, none⟩
end Ev

set_option maxRecDepth 100000
set_option maxHeartbeats 4000000
set_option exponentiation.threshold 200000
/-! Mixes. -/
namespace Ev
open PySem PySem.Spec PyProof.Rows L2
/-- chances of ways -/
def encX (xs : List Rat) : List D := xs.map encQ
@[simp] theorem encX_len {xs} : (encX xs).length = xs.length := by simp [encX]
@[simp] theorem flats_X {xs} : D.flats (encX xs) = true := flats_map fun _ _ => by simp
theorem encX_getD {l : List Rat} {j : Nat} (h : j < l.length) : atI (encX l) (j : Int) = some (encQ (l.getD j 0)) := by
  unfold encX; rw [at_map rfl h, List.getD_eq_getElem?_getD, List.getElem?_eq_getElem h]; rfl
/-- small chances: every list of them, and every sum of them, is small -/
structure MixOk (b : Nat) (xs : List Rat) : Prop where
  bd : ∀ x ∈ xs, Bd b x
  few : (b + 1) * xs.length + 1 ≤ 4000
theorem sum_bd {b : Nat} {xs : List Rat} (h : ∀ x ∈ xs, Bd b x) : Bd ((b + 1) * xs.length + 1) xs.sum := by
  induction xs with
  | nil => exact Bd.zero (by simp)
  | cons x xs ih =>
    rw [List.sum_cons]
    exact ((h x (by simp)).add (ih fun y hy => h y (by simp [hy]))).mono (by rw [List.length_cons, Nat.mul_succ]; omega)
theorem MixOk.sums {b xs} (h : MixOk b xs) : Sums xs := by
  have hf := h.few
  refine ⟨fun x hx => (h.bd x hx).mono ?_, fun k => (sum_bd fun x hx => h.bd x (List.mem_of_mem_take hx)).mono ?_⟩
  · have : 0 < xs.length := List.length_pos_of_mem hx
    have := Nat.mul_le_mul_left (b + 1) this
    omega
  · have := Nat.mul_le_mul_left (b + 1) (show (xs.take k).length ≤ xs.length by rw [List.length_take]; omega)
    omega
def isMix (n : Nat) (xs : List Rat) : Bool := decide (xs.length = n) && xs.all (fun x => decide (0 ≤ x)) && decide (xs.sum = 1)
/-- the chances of rows, way by way -/
def stepC (f : Nat → Nat) (xs : List Rat) (l : List Rat) (k : Nat) : List Rat := l.set (f k) (l.getD (f k) 0 + xs.getD k 0)
def chTo (N : Nat) (f : Nat → Nat) (xs : List Rat) : Nat → List Rat
  | 0 => List.replicate N 0
  | k + 1 => stepC f xs (chTo N f xs k) k
@[simp] theorem chTo_len {N f xs k} : (chTo N f xs k).length = N := by induction k <;> simp_all [chTo, stepC]
theorem sum_set {l : List Rat} {i : Nat} (h : i < l.length) (y : Rat) : (l.set i (l.getD i 0 + y)).sum = l.sum + y := by
  induction l generalizing i with
  | nil => simp at h
  | cons a l ih =>
    cases i with
    | zero => simp; grind
    | succ i =>
      have := ih (i := i) (by simpa using h)
      simp only [List.set_cons_succ, List.sum_cons, List.getD_cons_succ, this]; grind
theorem chTo_sum {N f xs} : ∀ {k}, (∀ j, j < k → f j < N) → k ≤ xs.length → (chTo N f xs k).sum = (xs.take k).sum
  | 0, _, _ => by
    simp only [chTo, List.take_zero, List.sum_nil]
    induction N with
    | zero => rfl
    | succ n ih => rw [List.replicate_succ, List.sum_cons, ih (fun j hj => absurd hj (by omega)), Rat.add_zero]
  | k + 1, h, hk => by
    rw [chTo, stepC, sum_set (by simpa using h k (by omega)), chTo_sum (fun j hj => h j (by omega)) (by omega), List.take_succ_eq_append_getElem (by omega), List.sum_append]
    simp [List.getD_eq_getElem?_getD, List.getElem?_eq_getElem (show k < xs.length by omega), Rat.add_zero]
/-- the sum of the chances whose number is n -/
def sumAt (f : Nat → Nat) (xs : List Rat) (n k : Nat) : Rat := (((List.range k).filter fun i => f i == n).map fun i => xs.getD i 0).sum
theorem sumAt_succ {f xs n k} : sumAt f xs n (k + 1) = sumAt f xs n k + if f k = n then xs.getD k 0 else 0 := by
  unfold sumAt
  rw [List.range_succ, List.filter_append, List.map_append, List.sum_append]
  congr 1
  by_cases h : f k = n <;> simp [List.filter_cons, h, Rat.add_zero]
theorem chTo_at {N f xs} : ∀ {k n}, n < N → (chTo N f xs k).getD n 0 = sumAt f xs n k
  | 0, n, h => by simp [chTo, sumAt, List.getD_eq_getElem?_getD, List.getElem?_replicate, h]
  | k + 1, n, h => by
    rw [sumAt_succ, chTo, stepC, List.getD_eq_getElem?_getD, List.getElem?_set]
    have ih := @chTo_at N f xs k n h
    rw [List.getD_eq_getElem?_getD] at ih
    by_cases e : f k = n
    · subst e
      rw [if_pos rfl, if_pos rfl, if_pos (by simpa using h)]
      simp only [Option.getD_some]
      rw [List.getD_eq_getElem?_getD, ih, List.getD_eq_getElem?_getD]
    · rw [if_neg e, if_neg e, ih, Rat.add_zero]
theorem sumAt_bd {b f n} {xs : List Rat} (h : ∀ x ∈ xs, Bd b x) {k : Nat} (hk : k ≤ xs.length) : Bd ((b + 1) * k + 1) (sumAt f xs n k) := by
  unfold sumAt
  refine (sum_bd (b := b) fun x hx => ?_).mono ?_
  · simp only [List.mem_map, List.mem_filter, List.mem_range] at hx
    obtain ⟨i, ⟨hi, _⟩, rfl⟩ := hx
    rw [List.getD_eq_getElem?_getD, List.getElem?_eq_getElem (by omega)]
    exact h _ (List.getElem_mem _)
  · rw [List.length_map]
    have h1 := List.length_filter_le (fun i => f i == n) (List.range k)
    rw [List.length_range] at h1
    have := Nat.mul_le_mul_left (b + 1) h1
    omega
def valueIn (cs : List Nat) (hs : List (List Nat)) (q : List Term) (lw : List (List (List Nat))) (xs : List Rat) : Rat := (List.zipWith (· * ·) (lw.map (valueOf cs hs q)) xs).sum
def chances (cs : List Nat) (hs : List (List Nat)) (st : List (Nat × Nat)) (sn : List Nat) (lw : List (List (List Nat))) (xs : List Rat) : List Rat := chTo (prod (bnds cs sn)) (fun k => rowOf cs hs st sn (lw.getD k [])) xs xs.length
def S_is_mix (F : List D → Res M) : Prop := ∀ nm ws hs ss ts b xs, MixOk b xs → F [encDa nm ws hs ss ts, .lst (encX xs)] = .ok (.frz (.bl (isMix (leftOf (cnts ws) hs ss).length xs)))
def S_value_in (F : List D → Res M) : Prop := ∀ nm ws hs, House nm ws hs → ways (cnts ws) hs ≤ 512 → ∀ ss ts b q, QuOk b (cnts ws) q → ∀ c xs, MixOk c xs → xs.length = (leftOf (cnts ws) hs ss).length → ((b + 1) * q.length + c + 2) * xs.length + 1 ≤ 4000 →
  F [encDa nm ws hs ss ts, .lst (encQu q), .lst (encX xs)] = .ok (.frz (encQ (valueIn (cnts ws) hs q (leftOf (cnts ws) hs ss) xs)))
def S_chances (F : List D → Res M) : Prop := ∀ nm ws hs, House nm ws hs → ways (cnts ws) hs ≤ 512 → ∀ ss ts st, SetOk (cnts ws) st → ∀ sn, SeenOk (cnts ws) sn → ∀ c xs, MixOk c xs → xs.length = (leftOf (cnts ws) hs ss).length →
  F [encDa nm ws hs ss ts, .lst (encP st), .lst (encN sn), .lst (encX xs)] = .ok (.fl (encX (chances (cnts ws) hs st sn (leftOf (cnts ws) hs ss) xs)))
def S_lchances (F : List D → Res M) : Prop := ∀ cs hs, Shape cs hs → ∀ lw, (∀ w ∈ lw, Way cs hs w) → ∀ st, SetOk cs st → ∀ sn, SeenOk cs sn → ∀ c xs, MixOk c xs → xs.length = lw.length →
  F [.lst (encN cs), .lst (encR hs), .lst (encWy lw), .lst (encP st), .lst (encN sn), .lst (encX xs)] = .ok (.fl (encX (chances cs hs st sn lw xs)))
def S_mix (F : List D → Res M) : Prop := ∀ (r : List Nat) (m : Nat), 0 < m → m ≤ 64 → m ≤ r.length → ∃ xs, MixOk 10 xs ∧ isMix m xs = true ∧ F [.lst (encN r), .int m] = .ok (.fl (encX xs))
theorem mem_left {cs hs ss} (s : Shape cs hs) {w} (h : w ∈ leftOf cs hs ss) : Way cs hs w := mem_waysOf s (List.mem_filter.mp h).1
theorem left_len {cs hs ss} : (leftOf cs hs ss).length ≤ ways cs hs := by
  have := List.length_filter_le (fun w => ss.all fun s => s.allow cs hs w) (waysOf cs hs)
  rw [waysOf_len] at this; exact this
section
variable {Φ : String → List D → Res M} {G : String → Option D} {W : Nat}
theorem s_is_mix (hZ : G "ZERO" = some (encQ 0)) (hO : G "ONE" = some (encQ 1)) (hl : S_less (Φ "less")) (ha : S_added (Φ "added")) : S_is_mix (evD Φ G W 2 3 ir_is_mix) := by
  intro nm ws hs ss ts b xs h
  have hs1 := h.sums
  have e1 := ha xs hs1
  rw [evD_eq (by rfl)]
  by_cases hn : xs.length = (leftOf (cnts ws) hs ss).length
  · have key := forL_rt (t := .nm 2) (f := fun g => evSs Φ G W ir_is_mix_b1 g) xs encQ
      (fun i g => ∃ x2, g = [some (M.frz (encDa nm ws hs ss ts)), some (.frz (.lst (encX xs))), x2])
      (fun x => decide (x < 0)) (.frz (.bl false))
      (g := [some (M.frz (encDa nm ws hs ss ts)), some (.frz (.lst (encX xs))), none]) ⟨none, rfl⟩ (by
        rintro j hj g ⟨x2, rfl⟩
        have k1 := hs1.1 xs[j] (List.getElem_mem _)
        generalize xs[j] = x at *
        have e2 := hl x 0 k1 (Bd.zero (by decide))
        by_cases hx : x < 0
        · simp [ir_is_mix_b1, hZ, e2, hx]
        · simp [ir_is_mix_b1, hZ, e2, hx])
    have hall : xs.all (fun x => decide (0 ≤ x)) = !xs.any fun x => decide (x < 0) := by
      rw [List.not_any_eq_all_not]; congr 1; funext x; by_cases hx : x < 0
      · have : ¬ 0 ≤ x := by grind
        simp [hx, this]
      · have : 0 ≤ x := by grind
        simp [hx, this]
    rw [show xs.map encQ = encX xs from rfl] at key e1
    unfold isMix
    rw [hall]
    split at key
    · rename_i hq
      rw [hq]
      simp [ir_is_mix, hn, key]
    · rename_i hq
      rw [Bool.not_eq_true] at hq
      obtain ⟨g', e2, x2, hx⟩ := key
      subst hx
      rw [hq]
      simp [ir_is_mix, hn, e2, e1, hO]
  · have hn' : ¬ (xs.length : Int) = ((leftOf (cnts ws) hs ss).length : Nat) := by omega
    unfold isMix
    simp [ir_is_mix, hn, hn']
theorem valueOf_bd {b cs hs q w} (h : QuOk b cs q) : Bd ((b + 1) * q.length + 1) (valueOf cs hs q w) := by
  have := partial_bd h.bd (fun t => holdsB cs hs t.2 w) q.length (Nat.le_refl _)
  rwa [List.take_length] at this
theorem s_value_in (hv : S_value (Φ "question_value")) (hd : S_dot (Φ "dot")) : S_value_in (evD Φ G W 3 4 ir_value_in) := by
  intro nm ws hs H hk ss ts b q hq c xs hx hl hf
  have s := H.shape
  have hll := @left_len (cnts ws) hs ss
  have ec : compGo (.nm 3) (fun _ => .ok true) (fun g => ev Φ G ir_value_in_e1 g) (encWy (leftOf (cnts ws) hs ss)) [some (M.frz (encDa nm ws hs ss ts)), some (.frz (.lst (encQu q))), some (.frz (.lst (encX xs))), none] = .ok (((leftOf (cnts ws) hs ss).map (valueOf (cnts ws) hs q)).map encQ) := by
    have := compL1 (t := .nm 3) (elt := fun g => ev Φ G ir_value_in_e1 g) (g := [some (M.frz (encDa nm ws hs ss ts)), some (.frz (.lst (encQu q))), some (.frz (.lst (encX xs))), none]) (leftOf (cnts ws) hs ss) (fun w => D.lst (encR w)) (fun w => encQ (valueOf (cnts ws) hs q w)) (by unfold lim; omega) fun w hw => by
      have e1 := hv nm ws hs H b q hq w (mem_left s hw)
      exact ⟨_, rfl, .frz (encQ (valueOf (cnts ws) hs q w)), [], by simp [ir_value_in_e1, e1], nrm_nil _, by simp⟩
    rw [List.map_map]
    exact this
  have zb : ∀ x ∈ List.zipWith (· * ·) ((leftOf (cnts ws) hs ss).map (valueOf (cnts ws) hs q)) xs, Bd ((b + 1) * q.length + c + 1) x := by
    intro x hx'
    obtain ⟨i, hi, rfl⟩ := List.getElem_of_mem hx'
    simp only [List.length_zipWith, List.length_map] at hi
    rw [List.getElem_zipWith, List.getElem_map]
    exact ((valueOf_bd hq).mul (hx.bd _ (List.getElem_mem _))).mono (by omega)
  have zok : MixOk ((b + 1) * q.length + c + 1) (List.zipWith (· * ·) ((leftOf (cnts ws) hs ss).map (valueOf (cnts ws) hs q)) xs) := ⟨zb, by
    rw [List.length_zipWith, List.length_map, hl, Nat.min_self, ← hl]; exact hf⟩
  have hqf := hq.few
  have e2 := hd ((leftOf (cnts ws) hs ss).map (valueOf (cnts ws) hs q)) xs (by rw [List.length_map, hl]) (by rw [List.length_map]; omega) (fun x hx' => by
    obtain ⟨w, _, rfl⟩ := List.mem_map.mp hx'
    exact (valueOf_bd hq).mono (by omega)) hx.sums.1 zok.sums
  rw [show xs.map encQ = encX xs from rfl] at e2
  rw [evD_eq (by rfl)]
  rw [List.map_map] at e2 ec
  simp [ir_value_in, ec, e2, valueIn]
theorem set_same {l : List Rat} {i : Nat} : l.set i (l.getD i 0) = l := by
  by_cases h : i < l.length
  · rw [List.getD_eq_getElem?_getD, List.getElem?_eq_getElem h]; exact List.set_getElem_self h
  · exact List.set_eq_of_length_le (by omega)
theorem encX_set {l : List Rat} {i : Nat} {y : Rat} : encX (l.set i y) = (encX l).set i (encQ y) := by simp [encX, List.map_set]
theorem s_chances (hZ : G "ZERO" = some (encQ 0)) (hr : S_row_of (Φ "row_of")) (hb : S_rbounds (Φ "row_bounds")) (hz : S_size (Φ "size")) (ha : S_add (Φ "add")) : S_chances (evD Φ G W 4 7 ir_row_chances) := by
  intro nm ws hs H hk ss ts st hst sn hsn c xs hx hl
  have s := H.shape
  have hll := @left_len (cnts ws) hs ss
  have e1 := hb nm ws hs H sn hsn
  have e2 := hz _ (hsn.small s)
  obtain ⟨r1, r2⟩ := hsn.rows s
  have hf := hx.few
  have hlt : ∀ k, k < xs.length → Way (cnts ws) hs ((leftOf (cnts ws) hs ss).getD k []) := fun k hk' => by
    rw [List.getD_eq_getElem?_getD, List.getElem?_eq_getElem (by omega)]
    exact mem_left s (List.getElem_mem _)
  have hro : ∀ k, k < xs.length → rowOf (cnts ws) hs st sn ((leftOf (cnts ws) hs ss).getD k []) < prod (bnds (cnts ws) sn) := fun k hk' => rowOf_lt s hst hsn (hlt k hk')
  generalize hfd : (fun k => rowOf (cnts ws) hs st sn ((leftOf (cnts ws) hs ss).getD k [])) = f at *
  have hfk : ∀ k, rowOf (cnts ws) hs st sn ((leftOf (cnts ws) hs ss).getD k []) = f k := fun k => by rw [← hfd]
  obtain ⟨g', e, x5, x6, hg⟩ := forN (i := 5) (f := fun g => evSs Φ G W ir_row_chances_b1 g) xs.length
    (fun i g => ∃ x5 x6, g = [some (M.frz (encDa nm ws hs ss ts)), some (.frz (.lst (encP st))), some (.frz (.lst (encN sn))), some (.frz (.lst (encX xs))), some (.fl (encX (chTo (prod (bnds (cnts ws) sn)) f xs i))), x5, x6])
    (g := [some (M.frz (encDa nm ws hs ss ts)), some (.frz (.lst (encP st))), some (.frz (.lst (encN sn))), some (.frz (.lst (encX xs))), some (.fl (encX (chTo (prod (bnds (cnts ws) sn)) f xs 0))), none, none]) ⟨none, none, rfl⟩ (by
      rintro k hk' g ⟨x5, x6, rfl⟩
      have a1 := encX_getD (l := xs) hk'
      have a2 : atI (encWy (leftOf (cnts ws) hs ss)) (k : Int) = some (.lst (encR ((leftOf (cnts ws) hs ss).getD k []))) := by
        unfold encWy
        rw [at_map rfl (show k < (leftOf (cnts ws) hs ss).length by omega), List.getD_eq_getElem?_getD, List.getElem?_eq_getElem (by omega)]; rfl
      have e3 := hr nm ws hs H st hst sn hsn _ (hlt k hk')
      rw [hfk] at e3
      have hfl := hro k hk'
      rw [hfk] at hfl
      have b1 : Bd c (xs.getD k 0) := by rw [List.getD_eq_getElem?_getD, List.getElem?_eq_getElem hk']; exact hx.bd _ (List.getElem_mem _)
      rw [chTo, stepC, encX_set]
      have a3 := encX_getD (l := chTo (prod (bnds (cnts ws) sn)) f xs k) (j := f k) (by simpa using hfl)
      have b2 : Bd ((c + 1) * k + 1) ((chTo (prod (bnds (cnts ws) sn)) f xs k).getD (f k) 0) := by rw [chTo_at hfl]; exact sumAt_bd hx.bd (by omega)
      have hle := Nat.mul_le_mul_left (c + 1) hk'
      rw [Nat.mul_succ] at hle
      generalize hL : chTo (prod (bnds (cnts ws) sn)) f xs k = L at *
      have hLl : L.length = prod (bnds (cnts ws) sn) := by rw [← hL]; simp
      have b3 : Bd 4000 (xs.getD k 0) := b1.mono (by omega)
      have e4 := ha (L.getD (f k) 0) (xs.getD k 0) (b2.mono (by omega)) b3
      have hself : (encX L).set (f k) (encQ (L.getD (f k) 0)) = encX L := by rw [← encX_set, set_same]
      have hlen2 : f k < (encX L).length := by simp; omega
      generalize (leftOf (cnts ws) hs ss).getD k [] = w at *
      generalize L.getD (f k) 0 = y at *
      generalize f k = n at *
      generalize xs.getD k 0 = x at *
      by_cases hx0 : x = 0
      · subst hx0
        rw [Rat.add_zero, hself]
        refine ⟨_, ?_, some (.frz (.int (k : Nat))), x6, rfl⟩
        simp -implicitDefEqProofs [-List.getD_eq_getElem?_getD, ir_row_chances_b1, a1, hZ]
      · refine ⟨_, ?_, some (.frz (.int (k : Nat))), some (.frz (.int (n : Nat))), rfl⟩
        simp -implicitDefEqProofs [-List.getD_eq_getElem?_getD, ir_row_chances_b1, a1, a2, a3, hZ, hx0, e3, e4, ix_nat rfl (show n < L.length by omega)])
  subst hg
  have hrg1 : rngR (.int (prod (bnds (cnts ws) sn) : Nat)) = .ok (rngD 0 (prod (bnds (cnts ws) sn) : Nat), []) := rngR_nat (by omega)
  have hrg2 : rngR (.int (xs.length : Nat)) = .ok (rngD 0 (xs.length : Nat), []) := rngR_nat (by omega)
  have hc0 : chTo (prod (bnds (cnts ws) sn)) f xs 0 = List.replicate (prod (bnds (cnts ws) sn)) 0 := rfl
  rw [hc0] at e
  have ec : compGo (.nm 5) (fun _ => .ok true) (fun g => ev Φ G ir_row_chances_e1 g) (rngD 0 (prod (bnds (cnts ws) sn) : Nat)) [some (M.frz (encDa nm ws hs ss ts)), some (.frz (.lst (encP st))), some (.frz (.lst (encN sn))), some (.frz (.lst (encX xs))), none, none, none] = .ok (encX (List.replicate (prod (bnds (cnts ws) sn)) 0)) := by
    rw [rngD_N, compN1 _ (fun _ => encQ 0) (by unfold lim; simp; omega)]
    · rw [encX, List.map_const', List.length_range, List.map_replicate]
    · intro n _
      exact ⟨.frz (encQ 0), [], by simp [ir_row_chances_e1, hZ], nrm_nil _, rfl⟩
  rw [evD_eq (by rfl)]
  simp -implicitDefEqProofs [-List.getD_eq_getElem?_getD, -List.map_replicate, ir_row_chances, e1, e2, hrg1, hrg2, ec, e, chances, hfd]
end
end Ev

set_option maxRecDepth 100000
set_option maxHeartbeats 4000000
set_option exponentiation.threshold 200000
/-! Mixes, the law's side. -/
namespace Ev
open PySem PySem.Spec PyProof.Rows L2
theorem intsN : ∀ {l : List Nat}, intsOf (encN l) = some (l.map fun (n : Nat) => (n : Int))
  | [] => rfl
  | x :: l => by
    have ih := @intsN l
    simp only [encN, List.map_cons] at ih ⊢
    simp [intsOf, ih]
theorem sumI : ∀ {l : List Nat}, (l.map fun (n : Nat) => (n : Int)).sum = (l.sum : Nat)
  | [] => rfl
  | x :: l => by have := @sumI l; simp only [List.map_cons, List.sum_cons, this]; omega
@[simp] theorem bi_sumN {l : List Nat} : biD .sum [.lst (encN l)] = some (.int (l.sum : Nat)) := by
  show (intsOf (encN l)).map _ = _
  rw [intsN]; simp [sumI]
theorem sum_ge {l : List Nat} {x : Nat} (h : x ∈ l) : x ≤ l.sum := by
  induction l with
  | nil => simp at h
  | cons a l ih =>
    rw [List.sum_cons]
    rcases List.mem_cons.mp h with rfl | h
    · omega
    · have := ih h; omega
theorem sum_le {l : List Nat} {c : Nat} (h : ∀ x ∈ l, x ≤ c) : l.sum ≤ c * l.length := by
  induction l with
  | nil => simp
  | cons a l ih =>
    have h1 := ih fun x hx => h x (by simp [hx])
    have h2 := h a (by simp)
    rw [List.sum_cons, List.length_cons, Nat.mul_succ]; omega
theorem rat_sum {t : Nat} (ht : 0 < t) : ∀ l : List Nat, (l.map fun (n : Nat) => Rat.divInt (n : Int) (t : Int)).sum = Rat.divInt (l.sum : Nat) (t : Int)
  | [] => by simp
  | x :: l => by
    rw [List.map_cons, List.sum_cons, rat_sum ht l, List.sum_cons]
    rw [Rat.divInt_eq_div, Rat.divInt_eq_div, Rat.divInt_eq_div]
    have : ((t : Int) : Rat) ≠ 0 := by exact_mod_cast (show (t : Int) ≠ 0 by omega)
    push_cast
    grind
section
variable {Φ : String → List D → Res M} {G : String → Option D} {W : Nat}
theorem s_law_chances (ho : S_loutcome (Φ "_law_outcome")) (hp : S_place (Φ "_law_place")) (hz : S_size (Φ "_law_size")) (ha : S_add (Φ "_law_add")) : S_lchances (evD Φ G W 6 12 ir_law_row_chances) := by
  intro cs hs s lw hlw st hst sn hsn c xs hx hl
  have e2 := hz _ (hsn.small s)
  obtain ⟨r1, r2⟩ := hsn.rows s
  have hf := hx.few
  have hxl := Nat.le_mul_of_pos_left xs.length (show 0 < c + 1 by omega)
  have hsf := hsn.few s
  have hlt : ∀ k, k < xs.length → Way cs hs (lw.getD k []) := fun k hk' => by
    rw [List.getD_eq_getElem?_getD, List.getElem?_eq_getElem (by omega)]
    exact hlw _ (List.getElem_mem _)
  have hro : ∀ k, k < xs.length → rowOf cs hs st sn (lw.getD k []) < prod (bnds cs sn) := fun k hk' => rowOf_lt s hst hsn (hlt k hk')
  generalize hfd : (fun k => rowOf cs hs st sn (lw.getD k [])) = f at *
  have hfk : ∀ k, rowOf cs hs st sn (lw.getD k []) = f k := fun k => by rw [← hfd]
  obtain ⟨g', e, x7, x9, x10, x11, hg⟩ := forN (i := 9) (f := fun g => evSs Φ G W ir_law_row_chances_b1 g) xs.length
    (fun i g => ∃ x7 x9 x10 x11, g = [some (M.frz (.lst (encN cs))), some (.frz (.lst (encR hs))), some (.frz (.lst (encWy lw))), some (.frz (.lst (encP st))), some (.frz (.lst (encN sn))), some (.frz (.lst (encX xs))), some (.fl (encN (bnds cs sn))), x7, some (.fl (encX (chTo (prod (bnds cs sn)) f xs i))), x9, x10, x11])
    (g := [some (M.frz (.lst (encN cs))), some (.frz (.lst (encR hs))), some (.frz (.lst (encWy lw))), some (.frz (.lst (encP st))), some (.frz (.lst (encN sn))), some (.frz (.lst (encX xs))), some (.fl (encN (bnds cs sn))), none, some (.fl (encX (chTo (prod (bnds cs sn)) f xs 0))), none, none, none]) ⟨none, none, none, none, rfl⟩ (by
      rintro k hk' g ⟨x7, x9, x10, x11, rfl⟩
      have a1 := encX_getD (l := xs) hk'
      have a2 : atI (encWy lw) (k : Int) = some (.lst (encR (lw.getD k []))) := by
        unfold encWy
        rw [at_map rfl (show k < lw.length by omega), List.getD_eq_getElem?_getD, List.getElem?_eq_getElem (by omega)]; rfl
      have e3 := ho cs hs s _ (hlt k hk') st hst
      have hfl := hro k hk'
      have hfl0 := hfl
      have hfe := hfk k
      rw [hfk] at hfl
      unfold rowOf at hfe
      have b1 : Bd c (xs.getD k 0) := by rw [List.getD_eq_getElem?_getD, List.getElem?_eq_getElem hk']; exact hx.bd _ (List.getElem_mem _)
      rw [chTo, stepC, encX_set]
      have a3 := encX_getD (l := chTo (prod (bnds cs sn)) f xs k) (j := f k) (by simpa using hfl)
      have b2 : Bd ((c + 1) * k + 1) ((chTo (prod (bnds cs sn)) f xs k).getD (f k) 0) := by rw [chTo_at hfl]; exact sumAt_bd hx.bd (by omega)
      have hle := Nat.mul_le_mul_left (c + 1) hk'
      rw [Nat.mul_succ] at hle
      have hsl : ∀ u ∈ sn, u < (said cs hs (lw.getD k []) st).length := fun u hu => by simpa using hsn.low u hu
      have e5 := hp (bnds cs sn) (sn.map fun v => (said cs hs (lw.getD k []) st).getD v 0) (hsn.small s) (by simp) _ (.inl rfl)
      rw [hfe] at e5
      generalize said cs hs (lw.getD k []) st = sd at *
      generalize hL : chTo (prod (bnds cs sn)) f xs k = L at *
      have hLl : L.length = prod (bnds cs sn) := by rw [← hL]; simp
      have hnL : f k < L.length := by rw [hLl]; exact hfl
      have b3 : Bd 4000 (xs.getD k 0) := b1.mono (by omega)
      have e4 := ha (L.getD (f k) 0) (xs.getD k 0) (b2.mono (by omega)) b3
      have hself : (encX L).set (f k) (encQ (L.getD (f k) 0)) = encX L := by rw [← encX_set, set_same]
      have ec : compGo (.nm 7) (fun _ => .ok true) (fun g => ev Φ G ir_law_row_chances_e1 g) (encN sn) [some (M.frz (.lst (encN cs))), some (.frz (.lst (encR hs))), some (.frz (.lst (encWy lw))), some (.frz (.lst (encP st))), some (.frz (.lst (encN sn))), some (.frz (.lst (encX xs))), some (.fl (encN (bnds cs sn))), x7, some (.fl (encX L)), some (.frz (.int (k : Nat))), some (.fl (encN sd)), x11] = .ok (encN (sn.map fun u => sd.getD u 0)) :=
        comp_get rfl (by decide) (.inr rfl) (by simp) sn (by unfold lim; omega) hsl
      generalize (sn.map fun u => sd.getD u 0) = rr at *
      generalize lw.getD k [] = w at *
      generalize L.getD (f k) 0 = y at *
      generalize f k = n at *
      generalize xs.getD k 0 = x at *
      by_cases hx0 : x = 0
      · subst hx0
        rw [Rat.add_zero, hself]
        refine ⟨_, ?_, x7, some (.frz (.int (k : Nat))), x10, x11, rfl⟩
        simp -implicitDefEqProofs [-List.getD_eq_getElem?_getD, ir_law_row_chances_b1, a1]
      · have hx1 : ¬ x.num = 0 := num_ne hx0
        refine ⟨_, ?_, x7, some (.frz (.int (k : Nat))), some (.fl (encN sd)), some (.frz (.int (n : Nat))), rfl⟩
        simp -implicitDefEqProofs [-List.getD_eq_getElem?_getD, ir_law_row_chances_b1, a1, a2, a3, hx1, e3, e4, ec, e5, ix_nat rfl hnL])
  subst hg
  have hrg1 : rngR (.int (prod (bnds cs sn) : Nat)) = .ok (rngD 0 (prod (bnds cs sn) : Nat), []) := rngR_nat (by omega)
  have hrg2 : rngR (.int (xs.length : Nat)) = .ok (rngD 0 (xs.length : Nat), []) := rngR_nat (by omega)
  have hc0 : chTo (prod (bnds cs sn)) f xs 0 = List.replicate (prod (bnds cs sn)) 0 := rfl
  rw [hc0] at e
  have ec0 : compGo (.nm 7) (fun _ => .ok true) (fun g => ev Φ G ir_law_row_chances_e3 g) (encN sn) [some (M.frz (.lst (encN cs))), some (.frz (.lst (encR hs))), some (.frz (.lst (encWy lw))), some (.frz (.lst (encP st))), some (.frz (.lst (encN sn))), some (.frz (.lst (encX xs))), none, none, none, none, none, none] = .ok (encN (bnds cs sn)) :=
    comp_get rfl (by decide) (.inl rfl) (by simp) sn (by unfold lim; omega) hsn.low
  have ec : compGo (.nm 9) (fun _ => .ok true) (fun g => ev Φ G ir_law_row_chances_e2 g) (rngD 0 (prod (bnds cs sn) : Nat)) [some (M.frz (.lst (encN cs))), some (.frz (.lst (encR hs))), some (.frz (.lst (encWy lw))), some (.frz (.lst (encP st))), some (.frz (.lst (encN sn))), some (.frz (.lst (encX xs))), some (.fl (encN (bnds cs sn))), none, none, none, none, none] = .ok (encX (List.replicate (prod (bnds cs sn)) 0)) := by
    rw [rngD_N, compN1 _ (fun _ => encQ 0) (by unfold lim; simp; omega)]
    · rw [encX, List.map_const', List.length_range, List.map_replicate]
    · intro n _
      exact ⟨.frz (encQ 0), [], by simp [ir_law_row_chances_e2]; rfl, nrm_nil _, rfl⟩
  rw [evD_eq (by rfl)]
  simp -implicitDefEqProofs [-List.getD_eq_getElem?_getD, -List.map_replicate, ir_law_row_chances, e2, hrg1, hrg2, ec0, ec, e, chances, hfd]
theorem s_law_mix (hw : S_lowest (Φ "_law_lowest")) : S_mix (evD Φ G W 2 6 ir_law_mix) := by
  intro r m hm0 hm hr
  have hcut : cutD (encN r) none (some (m : Int)) = encN (r.take m) := by rw [cut_no, encN_take]
  have ec : compGo (.nm 3) (fun _ => .ok true) (fun g => ev Φ G ir_law_mix_e3 g) (encN (r.take m)) [some (M.frz (.lst (encN r))), some (.frz (.int (m : Nat))), none, none, none, none] = .ok (encN ((r.take m).map fun x => if x % 3 = 0 then x % 5 else 0)) := by
    rw [compN1 (r.take m) (fun x => .int ((if x % 3 = 0 then x % 5 else 0 : Nat) : Int)) (by rw [List.length_take]; unfold lim; omega)]
    · rw [encN, List.map_map]; rfl
    · intro x _
      have b5 : binR .mod (.int (x : Nat), []) (.int 5, []) = .ok (.frz (.int (x % 5 : Nat)), []) := by rw [binR_mod (by decide)]; simp
      have b3 : binR .mod (.int (x : Nat), []) (.int 3, []) = .ok (.frz (.int (x % 3 : Nat)), []) := by rw [binR_mod (by decide)]; simp
      generalize x % 5 = y at *
      generalize x % 3 = z at *
      by_cases hz : z = 0
      · subst hz
        exact ⟨.frz (.int (y : Nat)), [], by simp -implicitDefEqProofs [ir_law_mix_e3, b5, b3, binR_mul (T := []) (U := []) (MulOk.r (i := (y : Int)) (j := 1) (by decide))], nrm_nil _, by simp⟩
      · have hz' : ¬ (z : Int) = 0 := by omega
        exact ⟨.frz (.int (0 : Nat)), [], by simp -implicitDefEqProofs [ir_law_mix_e3, b5, b3, hz, hz', binR_mul (T := []) (U := []) (MulOk.r (i := (y : Int)) (j := 0) (by decide))], nrm_nil _, by simp [hz]⟩
  have hsl : ((r.take m).map fun x => if x % 3 = 0 then x % 5 else 0).length = m := by rw [List.length_map, List.length_take]; omega
  have hs4 : ∀ x ∈ (r.take m).map (fun x => if x % 3 = 0 then x % 5 else 0), x ≤ 4 := by
    intro x hx
    obtain ⟨y, _, rfl⟩ := List.mem_map.mp hx
    split <;> omega
  generalize ((r.take m).map fun x => if x % 3 = 0 then x % 5 else 0) = sh at *
  have hsum := sum_le hs4
  have hge : ∀ x ∈ sh, x ≤ sh.sum := fun x hx => sum_ge hx
  by_cases h0 : sh.sum = 0
  · have b0 : binR .mod (.int (r.getD 0 0 : Nat), []) (.int (m : Nat), []) = .ok (.frz (.int (r.getD 0 0 % m : Nat)), []) := by rw [binR_mod (by omega)]; simp
    have a0 := encN_getD (l := r) (j := 0) (by omega)
    simp only [Int.cast_ofNat_Int] at a0
    have hlt : r.getD 0 0 % m < m := Nat.mod_lt _ hm0
    generalize r.getD 0 0 % m = u at *
    generalize r.getD 0 0 = y at *
    have hrg : rngR (.int (m : Nat)) = .ok (rngD 0 (m : Nat), []) := rngR_nat (by omega)
    have ec2 : compGo (.nm 5) (fun _ => .ok true) (fun g => ev Φ G ir_law_mix_e2 g) (rngD 0 (m : Nat)) [some (M.frz (.lst (encN r))), some (.frz (.int (m : Nat))), some (.fl (encN sh)), none, some (.frz (.int 0)), none] = .ok (encX ((List.range m).map fun k => if k = u then 1 else 0)) := by
      rw [rngD_N, compN1 _ (fun k => encQ (if k = u then 1 else 0)) (by unfold lim; simp; omega)]
      · rw [encX, List.map_map]; rfl
      · intro k _
        by_cases hk : k = u
        · subst hk
          exact ⟨.frz (encQ 1), [], by simp -implicitDefEqProofs [-List.getD_eq_getElem?_getD, ir_law_mix_e2, a0, b0]; rfl, nrm_nil _, by simp⟩
        · have hk' : ¬ (k : Int) = (u : Int) := by omega
          exact ⟨.frz (encQ 0), [], by simp -implicitDefEqProofs [-List.getD_eq_getElem?_getD, ir_law_mix_e2, a0, b0, hk, hk']; rfl, nrm_nil _, by simp [hk]⟩
    refine ⟨(List.range m).map fun k => if k = u then 1 else 0, ⟨?_, by simp; omega⟩, ?_, ?_⟩
    · intro x hx
      obtain ⟨k, _, rfl⟩ := List.mem_map.mp hx
      split
      · exact ⟨by decide, by decide⟩
      · exact Bd.zero (by decide)
    · have key : ∀ n, ((List.range n).map fun k => if k = u then (1 : Rat) else 0).sum = if u < n then 1 else 0 := by
        intro n
        induction n with
        | zero => simp
        | succ n ih =>
          rw [List.range_succ, List.map_append, List.sum_append, ih]
          simp only [List.map_cons, List.map_nil, List.sum_cons, List.sum_nil]
          by_cases h1 : u < n
          · rw [if_pos h1, if_neg (by omega), if_pos (by omega)]; grind
          · by_cases h2 : n = u
            · rw [if_neg h1, if_pos h2, if_pos (by omega)]; grind
            · rw [if_neg h1, if_neg h2, if_neg (by omega)]; grind
      unfold isMix
      rw [key m, if_pos hlt]
      simp only [List.length_map, List.length_range, decide_true, Bool.true_and, Bool.and_true, List.all_eq_true, List.mem_map, decide_eq_true_eq, forall_exists_index, and_imp]
      rintro x k _ rfl
      split <;> decide
    · rw [evD_eq (by rfl)]
      have h0' : (sh.sum : Int) = 0 := by omega
      simp -implicitDefEqProofs [-List.getD_eq_getElem?_getD, ir_law_mix, hcut, ec, h0, hrg, ec2]
  · have h0' : ¬ (sh.sum : Int) = 0 := by omega
    have hp : 0 < sh.sum := by omega
    generalize ht : sh.sum = t at *
    have ec2 : compGo (.nm 3) (fun _ => .ok true) (fun g => ev Φ G ir_law_mix_e1 g) (encN sh) [some (M.frz (.lst (encN r))), some (.frz (.int (m : Nat))), some (.fl (encN sh)), none, some (.frz (.int (t : Nat))), none] = .ok (encX (sh.map fun (n : Nat) => Rat.divInt (n : Int) (t : Int))) := by
      rw [compN1 sh (fun n => encQ (Rat.divInt (n : Int) (t : Int))) (by unfold lim; omega)]
      · rw [encX, List.map_map]; rfl
      · intro x _
        have e1 := hw x t (by omega) (Nat.lt_of_lt_of_le (show (t : Int).natAbs < 2 ^ 9 by omega) (Nat.pow_le_pow_right (by decide) (by decide)))
        exact ⟨.frz (encQ (Rat.divInt (x : Int) (t : Int))), [], by simp -implicitDefEqProofs [ir_law_mix_e1, e1], nrm_nil _, by simp⟩
    refine ⟨sh.map fun (n : Nat) => Rat.divInt (n : Int) (t : Int), ⟨?_, by simp; omega⟩, ?_, ?_⟩
    · intro x hx
      obtain ⟨k, hk, rfl⟩ := List.mem_map.mp hx
      have := hs4 k hk
      exact Bd.divInt (by omega) (by omega) (by omega)
    · unfold isMix
      rw [rat_sum hp, ht, List.length_map, hsl]
      have h1 : Rat.divInt (t : Int) (t : Int) = 1 := by rw [Rat.divInt_self']; omega
      rw [h1]
      simp only [decide_true, Bool.true_and, Bool.and_true, List.all_eq_true, List.mem_map, decide_eq_true_eq, forall_exists_index, and_imp]
      rintro x k _ rfl
      exact Rat.divInt_nonneg (by omega) (by omega)
    · rw [evD_eq (by rfl)]
      simp -implicitDefEqProofs [-List.getD_eq_getElem?_getD, ir_law_mix, hcut, ec, ht, h0, h0', ec2]
end
end Ev

set_option maxRecDepth 100000
set_option maxHeartbeats 4000000
namespace Ev
open PySem PySem.Spec PyProof.Rows L2
def ir_law_sentence_e1 : E := .slot 4
def ir_law_sentence_o1 : E := .ix (.slot 2) (.slot 4)
/-- _law_sentence(_law_row_here, _law_counts, _law_heard); names: 0 _law_row_here, 1 _law_counts, 2 _law_heard, 3 _law_able, 4 _law_v, 5 _law_u -/
def ir_law_sentence : Ss := (.cons (.set (.nm 3) (.comp ir_law_sentence_e1 (.nm 4) (.rng (.bi .len (.cons (.slot 1) .nil))) (.yes ir_law_sentence_o1))) (.cons (.ite (.cmp .eq (.slot 3) (.lst .nil)) (.cons (.ret (.cst .non)) .nil) .nil) (.cons (.set (.nm 4) (.ix (.slot 3) (.bin .mod (.bi .int (.cons (.ix (.slot 0) (.cst (.int 0))) .nil)) (.bi .len (.cons (.slot 3) .nil))))) (.cons (.set (.nm 5) (.ix (.ix (.slot 2) (.slot 4)) (.bin .mod (.bi .int (.cons (.ix (.slot 0) (.cst (.int 1))) .nil)) (.bi .len (.cons (.ix (.slot 2) (.slot 4)) .nil))))) (.cons (.ite (.cmp .gt (.bin .mod (.bi .int (.cons (.ix (.slot 0) (.cst (.int 2))) .nil)) (.cst (.int 5))) (.cst (.int 2))) (.cons (.ret (.tup (.cons (.cst (.str "never")) (.cons (.slot 4) (.cons (.bin .mod (.bi .int (.cons (.ix (.slot 0) (.cst (.int 3))) .nil)) (.ix (.slot 1) (.slot 4))) (.cons (.slot 5) (.cons (.bin .mod (.bi .int (.cons (.ix (.slot 0) (.cst (.int 4))) .nil)) (.ix (.slot 1) (.slot 5))) .nil))))))) .nil) .nil) (.cons (.ret (.tup (.cons (.ix (.lst (.cons (.cst (.str "ignores")) (.cons (.cst (.str "rises")) (.cons (.cst (.str "falls")) .nil)))) (.bin .mod (.bi .int (.cons (.ix (.slot 0) (.cst (.int 2))) .nil)) (.cst (.int 5)))) (.cons (.slot 4) (.cons (.slot 5) .nil))))) .nil))))))
def d_law_sentence : DefI := ⟨3, 6, ir_law_sentence, none⟩
def ir_law_allows_b1 : Ss := (.cons (.set (.nm 10) (.cmp .eq (.bin .add (.sl (.ix (.slot 7) (.slot 8)) .no (.yes (.slot 6))) (.sl (.ix (.slot 7) (.slot 8)) (.yes (.bin .add (.slot 6) (.cst (.int 1)))) .no)) (.bin .add (.sl (.ix (.slot 7) (.slot 9)) .no (.yes (.slot 6))) (.sl (.ix (.slot 7) (.slot 9)) (.yes (.bin .add (.slot 6) (.cst (.int 1)))) .no)))) (.cons (.ite (.and (.cmp .ne (.ix (.slot 2) (.cst (.int 0))) (.cst (.str "never"))) (.and (.slot 10) (.cmp .lt (.ix (.ix (.slot 7) (.slot 8)) (.slot 6)) (.ix (.ix (.slot 7) (.slot 9)) (.slot 6))))) (.cons (.ite (.and (.cmp .eq (.ix (.slot 2) (.cst (.int 0))) (.cst (.str "ignores"))) (.cmp .ne (.ix (.ix (.slot 3) (.slot 4)) (.slot 8)) (.ix (.ix (.slot 3) (.slot 4)) (.slot 9)))) (.cons (.ret (.cst (.bl false))) .nil) .nil) (.cons (.ite (.and (.cmp .eq (.ix (.slot 2) (.cst (.int 0))) (.cst (.str "rises"))) (.cmp .lt (.ix (.ix (.slot 3) (.slot 4)) (.slot 9)) (.ix (.ix (.slot 3) (.slot 4)) (.slot 8)))) (.cons (.ret (.cst (.bl false))) .nil) .nil) (.cons (.ite (.and (.cmp .eq (.ix (.slot 2) (.cst (.int 0))) (.cst (.str "falls"))) (.cmp .lt (.ix (.ix (.slot 3) (.slot 4)) (.slot 8)) (.ix (.ix (.slot 3) (.slot 4)) (.slot 9)))) (.cons (.ret (.cst (.bl false))) .nil) .nil) .nil))) .nil) .nil))
def ir_law_allows_b2 : Ss := (.cons (.ite (.and (.cmp .eq (.ix (.slot 2) (.cst (.int 0))) (.cst (.str "never"))) (.and (.cmp .eq (.ix (.ix (.slot 7) (.slot 8)) (.slot 6)) (.ix (.slot 2) (.cst (.int 4)))) (.cmp .eq (.ix (.ix (.slot 3) (.slot 4)) (.slot 8)) (.ix (.slot 2) (.cst (.int 2)))))) (.cons (.ret (.cst (.bl false))) .nil) .nil) (.cons (.for (.nm 9) (.rng (.bi .len (.cons (.slot 7) .nil))) ir_law_allows_b1) .nil))
/-- _law_allows(_law_counts, _law_heard, _law_sentence_here, _law_way); names: 0 _law_counts, 1 _law_heard, 2 _law_sentence_here, 3 _law_way, 4 _law_v, 5 _law_u, 6 _law_at, 7 _law_found, 8 _law_n, 9 _law_m, 10 _law_same_here -/
def ir_law_allows : Ss := (.cons (.set (.nm 4) (.ix (.slot 2) (.cst (.int 1)))) (.cons (.set (.nm 5) (.ix (.slot 2) (.neg (.cst (.int 1))))) (.cons (.ite (.cmp .eq (.ix (.slot 2) (.cst (.int 0))) (.cst (.str "never"))) (.cons (.set (.nm 5) (.ix (.slot 2) (.cst (.int 3)))) .nil) .nil) (.cons (.set (.nm 6) (.idx (.ix (.slot 1) (.slot 4)) (.slot 5))) (.cons (.set (.nm 7) (.call "_law_rows" (.cons (.call "_law_bounds" (.cons (.slot 0) (.cons (.slot 1) (.cons (.slot 4) .nil)))) .nil))) (.cons (.for (.nm 8) (.rng (.bi .len (.cons (.slot 7) .nil))) ir_law_allows_b2) (.cons (.ret (.cst (.bl true))) .nil)))))))
def d_law_allows : DefI := ⟨4, 11, ir_law_allows, none⟩
end Ev

set_option maxRecDepth 100000
set_option maxHeartbeats 4000000
set_option exponentiation.threshold 200000
/-! Sentences, the law's side. -/
namespace Ev
open PySem PySem.Spec PyProof.Rows L2
theorem prod_cons {b : Nat} {bs : List Nat} : prod (b :: bs) = b * prod bs := by
  show prod ([b] ++ bs) = _
  rw [prod_app]; simp [prod]
theorem plcGo_lin : ∀ {bs r : List Nat} {a : Nat}, r.length = bs.length → plcGo a bs r = a * prod bs + plcGo 0 bs r
  | [], [], a, _ => by simp [plcGo, prod]
  | b :: bs, x :: r, a, h => by
    have h' : r.length = bs.length := by simpa using h
    rw [plcGo, plcGo, plcGo_lin h', plcGo_lin (a := 0 * b + x) h', prod_cons, Nat.add_mul, Nat.add_mul, ← Nat.mul_assoc]
    simp only [Nat.zero_mul]; omega
theorem plcGo_mono {bs r : List Nat} {a b : Nat} (hl : r.length = bs.length) (hp : 0 < prod bs) (h : a < b) : plcGo a bs r < plcGo b bs r := by
  rw [plcGo_lin hl, plcGo_lin (a := b) hl]
  have := Nat.mul_lt_mul_of_pos_right h hp
  omega
theorem apart_mono : ∀ {bs a b : List Nat} {p x : Nat}, a.length = bs.length → b.length = bs.length → (∀ c ∈ bs, 0 < c) → p < bs.length → a.take p ++ a.drop (p + 1) = b.take p ++ b.drop (p + 1) → a.getD p 0 < b.getD p 0 → plcGo x bs a < plcGo x bs b
  | c :: bs, u :: a, v :: b, 0, x, ha, hb, hp, _, he, hlt => by
    simp only [List.take_zero, List.nil_append, Nat.zero_add, List.drop_succ_cons, List.drop_zero] at he
    subst he
    simp only [List.getD_cons_zero] at hlt
    rw [plcGo, plcGo]
    exact plcGo_mono (by simpa using ha) (prod_pos fun b hb => hp b (by simp [hb])) (by omega)
  | c :: bs, u :: a, v :: b, p + 1, x, ha, hb, hp, hpl, he, hlt => by
    simp only [List.take_succ_cons, List.cons_append, List.drop_succ_cons, List.cons.injEq] at he
    obtain ⟨rfl, he⟩ := he
    rw [plcGo, plcGo]
    exact apart_mono (by simpa using ha) (by simpa using hb) (fun b hb => hp b (by simp [hb])) (by simpa using hpl) he (by simpa using hlt)
theorem apart_eq {a b : List Nat} {p : Nat} (ha : p < a.length) (hb : p < b.length) (he : a.take p ++ a.drop (p + 1) = b.take p ++ b.drop (p + 1)) (h : a.getD p 0 = b.getD p 0) : a = b := by
  have hl : (a.take p).length = (b.take p).length := by simp; omega
  obtain ⟨h1, h2⟩ := List.append_inj he hl
  rw [← List.take_append_drop p a, ← List.take_append_drop p b, h1, List.drop_eq_getElem_cons ha, List.drop_eq_getElem_cons hb, h2]
  rw [List.getD_eq_getElem?_getD, List.getD_eq_getElem?_getD, List.getElem?_eq_getElem ha, List.getElem?_eq_getElem hb] at h
  simp only [Option.getD_some] at h
  rw [h]
/-- of two rows that differ at one place alone, the later one has more there -/
theorem apart_lt {bs : List Nat} (hb : ∀ c ∈ bs, 0 < c) {p n m : Nat} (hp : p < bs.length) (hn : n < prod bs) (hm : m < prod bs) (h : apart (rowAt bs n) (rowAt bs m) p = true) :
    ((rowAt bs n).getD p 0 < (rowAt bs m).getD p 0) ↔ n < m := by
  simp only [apart, decide_eq_true_eq] at h
  have e1 := plc_rowAt bs n hn
  have e2 := plc_rowAt bs m hm
  have go : ∀ {i j : Nat}, i < prod bs → j < prod bs → (rowAt bs i).take p ++ (rowAt bs i).drop (p + 1) = (rowAt bs j).take p ++ (rowAt bs j).drop (p + 1) → (rowAt bs i).getD p 0 < (rowAt bs j).getD p 0 → i < j := by
    intro i j hi hj he hlt
    have := apart_mono (x := 0) (by simp) (by simp) hb hp he hlt
    have e1 := plc_rowAt bs i hi
    have e2 := plc_rowAt bs j hj
    unfold plc at e1 e2
    omega
  refine ⟨go hn hm h, fun hlt => ?_⟩
  rcases Nat.lt_trichotomy ((rowAt bs n).getD p 0) ((rowAt bs m).getD p 0) with h1 | h1 | h1
  · exact h1
  · have := apart_eq (by simpa using hp) (by simpa using hp) h h1
    rw [this] at e1
    omega
  · have := go hm hn h.symm h1
    omega
def S_lsent (F : List D → Res M) : Prop := ∀ cs hs, Shape cs hs → ∀ r : List Nat, 5 ≤ r.length → F [.lst (encN r), .lst (encN cs), .lst (encR hs)] = .ok (.frz .non) ∨ ∃ s, Sent.Ok cs hs s ∧ F [.lst (encN r), .lst (encN cs), .lst (encR hs)] = .ok (.frz s.enc)
def S_lallows (F : List D → Res M) : Prop := ∀ cs hs, Shape cs hs → ∀ s, Sent.Ok cs hs s → ∀ w, Way cs hs w → F [.lst (encN cs), .lst (encR hs), s.enc, .lst (encR w)] = .ok (.frz (.bl (s.allow cs hs w)))
section
variable {Φ : String → List D → Res M} {G : String → Option D} {W : Nat}
theorem s_law_sentence : S_lsent (evD Φ G W 3 6 ir_law_sentence) := by
  intro cs hs s r hr
  have hf := s.few
  have hl := s.len
  have ec : compGo (.nm 4) (fun g => tv Φ G ir_law_sentence_o1 g (ev Φ G ir_law_sentence_o1 g)) (fun g => ev Φ G ir_law_sentence_e1 g) (rngD 0 (cs.length : Nat)) [some (M.frz (.lst (encN r))), some (.frz (.lst (encN cs))), some (.frz (.lst (encR hs))), none, none, none] = .ok (encN ((List.range cs.length).filter fun v => !(hs.getD v []).isEmpty)) := by
    rw [rngD_N, compN _ (fun v => !(hs.getD v []).isEmpty) (fun v => .int (v : Nat)) (by unfold lim; simp; omega)]
    · rfl
    · intro v hv
      have hv' : v < hs.length := by have := List.mem_range.mp hv; omega
      have eh := encR_getD (l := hs) hv'
      refine ⟨?_, fun _ => ⟨.frz (.int (v : Nat)), [], by simp [ir_law_sentence_e1], nrm_nil _, by simp⟩⟩
      generalize hs.getD v [] = h at *
      cases h <;> simp -implicitDefEqProofs [-List.getD_eq_getElem?_getD, ir_law_sentence_o1, eh, encN]
  have hrg : rngR (.int (cs.length : Nat)) = .ok (rngD 0 (cs.length : Nat), []) := rngR_nat (by omega)
  have hmem : ∀ v ∈ (List.range cs.length).filter (fun v => !(hs.getD v []).isEmpty), v < cs.length ∧ hs.getD v [] ≠ [] := by
    intro v hv
    simp only [List.mem_filter, List.mem_range] at hv
    exact ⟨hv.1, fun e => by rw [e] at hv; simp at hv⟩
  generalize (List.range cs.length).filter (fun v => !(hs.getD v []).isEmpty) = ab at *
  rw [evD_eq (by rfl)]
  by_cases hab : ab = []
  · subst hab
    left
    have cnil : cmpD .eq (.lst (encN [])) (.lst []) = some true := cmp_eqN (a := []) (b := [])
    simp -implicitDefEqProofs [-List.getD_eq_getElem?_getD, ir_law_sentence, hrg, ec, cnil]
  · right
    have hpos : 0 < ab.length := List.length_pos_iff.mpr hab
    have a0 := encN_getD (l := r) (j := 0) (by omega)
    have a1 := encN_getD (l := r) (j := 1) (by omega)
    have a2 := encN_getD (l := r) (j := 2) (by omega)
    have a3 := encN_getD (l := r) (j := 3) (by omega)
    have a4 := encN_getD (l := r) (j := 4) (by omega)
    simp only [Int.cast_ofNat_Int] at a0 a1 a2 a3 a4
    have b0 : binR .mod (.int (r.getD 0 0 : Nat), []) (.int (ab.length : Nat), []) = .ok (.frz (.int (r.getD 0 0 % ab.length : Nat)), []) := by rw [binR_mod (by omega)]; simp
    have hvl : r.getD 0 0 % ab.length < ab.length := Nat.mod_lt _ hpos
    generalize r.getD 0 0 % ab.length = i0 at *
    have av := encN_getD (l := ab) hvl
    obtain ⟨hv, hne⟩ := hmem (ab.getD i0 0) (by rw [List.getD_eq_getElem?_getD, List.getElem?_eq_getElem hvl]; exact List.getElem_mem _)
    generalize ab.getD i0 0 = v at *
    have eh := encR_getD (l := hs) (j := v) (by omega)
    have hlow : ∀ u ∈ hs.getD v [], u < v := by rw [s.hat (by omega)]; exact s.low v (by omega)
    have hhp : 0 < (hs.getD v []).length := List.length_pos_iff.mpr hne
    have b1 : binR .mod (.int (r.getD 1 0 : Nat), []) (.int ((hs.getD v []).length : Nat), []) = .ok (.frz (.int (r.getD 1 0 % (hs.getD v []).length : Nat)), []) := by rw [binR_mod (by omega)]; simp
    have hul : r.getD 1 0 % (hs.getD v []).length < (hs.getD v []).length := Nat.mod_lt _ hhp
    generalize r.getD 1 0 % (hs.getD v []).length = i1 at *
    have au := encN_getD (l := hs.getD v []) hul
    have hu : (hs.getD v []).getD i1 0 ∈ hs.getD v [] := by
      rw [List.getD_eq_getElem?_getD (l := hs.getD v []), List.getElem?_eq_getElem hul]; exact List.getElem_mem _
    have huv := hlow _ hu
    have hlen : (encN (hs.getD v [])).length = (hs.getD v []).length := by simp
    generalize hud : (hs.getD v []).getD i1 0 = u at *
    have acv := encN_getD (l := cs) (j := v) hv
    have acu := encN_getD (l := cs) (j := u) (by omega)
    have hcv : 0 < cs.getD v 0 := by rw [s.cat hv]; rcases s.cnt _ (List.getElem_mem hv) with h | h <;> omega
    have hcu : 0 < cs.getD u 0 := by rw [s.cat (show u < cs.length by omega)]; rcases s.cnt _ (List.getElem_mem (show u < cs.length by omega)) with h | h <;> omega
    have b2 : binR .mod (.int (r.getD 2 0 : Nat), []) (.int 5, []) = .ok (.frz (.int (r.getD 2 0 % 5 : Nat)), []) := by rw [binR_mod (by decide)]; simp
    have b3 : binR .mod (.int (r.getD 3 0 : Nat), []) (.int (cs.getD v 0 : Nat), []) = .ok (.frz (.int (r.getD 3 0 % cs.getD v 0 : Nat)), []) := by rw [binR_mod (by omega)]; simp
    have b4 : binR .mod (.int (r.getD 4 0 : Nat), []) (.int (cs.getD u 0 : Nat), []) = .ok (.frz (.int (r.getD 4 0 % cs.getD u 0 : Nat)), []) := by rw [binR_mod (by omega)]; simp
    have l3 : r.getD 3 0 % cs.getD v 0 < cs.getD v 0 := Nat.mod_lt _ hcv
    have l4 : r.getD 4 0 % cs.getD u 0 < cs.getD u 0 := Nat.mod_lt _ hcu
    have l2 : r.getD 2 0 % 5 < 5 := Nat.mod_lt _ (by decide)
    generalize r.getD 3 0 % cs.getD v 0 = wd at *
    generalize r.getD 4 0 % cs.getD u 0 = o at *
    generalize r.getD 2 0 % 5 = k at *
    have cnil : cmpD .eq (.lst (encN ab)) (.lst []) = some (decide (ab = [])) := cmp_eqN (b := [])
    have habn : ¬ encN ab = [] := by intro e; apply hab; have := congrArg List.length e; simp at this; exact this
    generalize hhd : hs.getD v [] = h at *
    have hk : k = 0 ∨ k = 1 ∨ k = 2 ∨ 2 < k := by omega
    rcases hk with rfl | rfl | rfl | hk
    · refine ⟨.ign v u, ⟨hv, by rw [Sent.v, hhd]; exact hu, fun _ _ _ _ e => by cases e⟩, ?_⟩
      simp -implicitDefEqProofs [-List.getD_eq_getElem?_getD, ir_law_sentence, hrg, ec, a0, a1, a2, b0, b1, b2, av, eh, au, hab, cnil, Sent.enc]
    · refine ⟨.ris v u, ⟨hv, by rw [Sent.v, hhd]; exact hu, fun _ _ _ _ e => by cases e⟩, ?_⟩
      simp -implicitDefEqProofs [-List.getD_eq_getElem?_getD, ir_law_sentence, hrg, ec, a0, a1, a2, b0, b1, b2, av, eh, au, hab, cnil, Sent.enc]
    · refine ⟨.fal v u, ⟨hv, by rw [Sent.v, hhd]; exact hu, fun _ _ _ _ e => by cases e⟩, ?_⟩
      simp -implicitDefEqProofs [-List.getD_eq_getElem?_getD, ir_law_sentence, hrg, ec, a0, a1, a2, b0, b1, b2, av, eh, au, hab, cnil, Sent.enc]
    · have hk' : (2 : Int) < k := by omega
      refine ⟨.nev v wd u o, ⟨hv, by rw [Sent.v, hhd]; exact hu, fun v' w' u' o' e => by cases e; exact ⟨l3, l4⟩⟩, ?_⟩
      simp -implicitDefEqProofs [-List.getD_eq_getElem?_getD, ir_law_sentence, hrg, ec, a0, a1, a2, a3, a4, b0, b1, b2, b3, b4, acv, acu, av, eh, au, hab, cnil, hk', Sent.enc]
def lcond (bs : List Nat) (p : Nat) (rr : List Nat) (iN i1 i2 i3 : Bool) (n m : Nat) : Bool :=
  !iN && (apart (rowAt bs n) (rowAt bs m) p && decide ((rowAt bs n).getD p 0 < (rowAt bs m).getD p 0)) && ((i1 && rr.getD n 0 != rr.getD m 0) || (i2 && decide (rr.getD m 0 < rr.getD n 0)) || (i3 && decide (rr.getD n 0 < rr.getD m 0)))
theorem lallows_in {iN i1 i2 i3 : Bool} (kd : Str) (sd : D) (hix : ixD sd (.int 0) = some (.str kd)) (hi : (iN, i1, i2, i3) = (true, false, false, false) ∨ (iN, i1, i2, i3) = (false, true, false, false) ∨ (iN, i1, i2, i3) = (false, false, true, false) ∨ (iN, i1, i2, i3) = (false, false, false, true))
    (c0 : cmpD .eq (.str kd) (.str "never") = some iN) (c1 : cmpD .eq (.str kd) (.str "ignores") = some i1) (c2 : cmpD .eq (.str kd) (.str "rises") = some i2) (c3 : cmpD .eq (.str kd) (.str "falls") = some i3)
    {bs : List Nat} (hb : Small bs) (hN : prod bs ≤ 100) (a0 a1 a5 : Option M) (v p : Nat) (hp : p < bs.length) {w : List (List Nat)} (hvw : v < w.length) (hwr : (w.getD v []).length = prod bs) (n : Nat) (hn : n < prod bs)
    (x7 : M) (h7 : IsL x7 (encR (rowsOf bs))) (x9 x10 : Option M) :
    (if (List.range (prod bs)).any (lcond bs p (w.getD v []) iN i1 i2 i3 n) then
      forGo (.nm 9) (fun g => evSs Φ G W ir_law_allows_b1 g) (rngD 0 (prod bs : Nat)) [a0, a1, some (.frz sd), some (.frz (.lst (encR w))), some (.frz (.int (v : Nat))), a5, some (.frz (.int (p : Nat))), some x7, some (.frz (.int (n : Nat))), x9, x10] = .ok (.rt (.frz (.bl false)))
    else ∃ y9 y10, forGo (.nm 9) (fun g => evSs Φ G W ir_law_allows_b1 g) (rngD 0 (prod bs : Nat)) [a0, a1, some (.frz sd), some (.frz (.lst (encR w))), some (.frz (.int (v : Nat))), a5, some (.frz (.int (p : Nat))), some x7, some (.frz (.int (n : Nat))), x9, x10] = .ok (.nx [a0, a1, some (.frz sd), some (.frz (.lst (encR w))), some (.frz (.int (v : Nat))), a5, some (.frz (.int (p : Nat))), some x7, some (.frz (.int (n : Nat))), y9, y10])) := by
  have key := forN_rt (i := 9) (f := fun g => evSs Φ G W ir_law_allows_b1 g) (prod bs)
    (fun i g => ∃ x9 x10, g = [a0, a1, some (.frz sd), some (.frz (.lst (encR w))), some (.frz (.int (v : Nat))), a5, some (.frz (.int (p : Nat))), some x7, some (.frz (.int (n : Nat))), x9, x10])
    (lcond bs p (w.getD v []) iN i1 i2 i3 n) (.frz (.bl false))
    (g := [a0, a1, some (.frz sd), some (.frz (.lst (encR w))), some (.frz (.int (v : Nat))), a5, some (.frz (.int (p : Nat))), some x7, some (.frz (.int (n : Nat))), x9, x10]) ⟨x9, x10, rfl⟩ (by
      rintro m hm g ⟨x9, x10, rfl⟩
      have l2 : min p bs.length + (bs.length - (p + 1)) < lim := by have := hb.2; unfold lim; omega
      have cc1 : ∀ l : List Nat, cutD (encN l) none (some (p : Int)) = encN (l.take p) := fun l => by rw [cut_no, encN_take]
      have cc2 : ∀ l : List Nat, cutD (encN l) (some ((p : Int) + 1)) none = encN (l.drop (p + 1)) := fun l => by rw [show (p : Int) + 1 = ((p + 1 : Nat) : Int) by omega, cut_on, encN_drop]
      have rw1 : ∀ q, q < prod bs → atI (encR (rowsOf bs)) (q : Int) = some (.lst (encN (rowAt bs q))) := fun q hq => by
        rw [encR_at rfl (by simpa using hq), rowsOf_get (by simpa using hq)]
      have r1 := rw1 n hn
      have r2 := rw1 m hm
      have ew := encR_getD (l := w) (j := v) hvw
      have e1 := encN_getD (l := w.getD v []) (j := n) (by omega)
      have e2 := encN_getD (l := w.getD v []) (j := m) (by omega)
      have e3 := encN_getD (l := rowAt bs n) (j := p) (by simpa using hp)
      have e4 := encN_getD (l := rowAt bs m) (j := p) (by simpa using hp)
      have cne : cmpD .ne (.str kd) (.str "never") = some (!iN) := by
        simp only [cmpD] at c0 ⊢
        simpa using c0
      unfold lcond
      generalize w.getD v [] = r at *
      have ap : ∀ b, apart (rowAt bs n) (rowAt bs m) p = b → cmpD .eq (.lst (encN ((rowAt bs n).take p ++ (rowAt bs n).drop (p + 1)))) (.lst (encN ((rowAt bs m).take p ++ (rowAt bs m).drop (p + 1)))) = some b := fun b hb => by rw [cmp_eqN]; unfold apart at hb; rw [hb]
      generalize hap : apart (rowAt bs n) (rowAt bs m) p = ab at *
      have ap' := ap ab rfl
      generalize r.getD n 0 = x at *
      generalize r.getD m 0 = y at *
      have hlA : (rowAt bs n).length = bs.length := by simp
      have hlB : (rowAt bs m).length = bs.length := by simp
      generalize rowAt bs n = A at *
      generalize rowAt bs m = B at *
      generalize A.getD p 0 = s at *
      generalize B.getD p 0 = t at *
      have l3 : ((A.take p).length + (A.drop (p + 1)).length) < lim := by simp only [List.length_take, List.length_drop]; omega
      have l4 : ((B.take p).length + (B.drop (p + 1)).length) < lim := by simp only [List.length_take, List.length_drop]; omega
      simp only [List.length_take, List.length_drop] at l3 l4
      rcases hi with h | h | h | h <;> (simp only [Prod.mk.injEq] at h; obtain ⟨rfl, rfl, rfl, rfl⟩ := h)
      · rcases h7 with rfl | rfl <;> simp [ir_law_allows_b1, r1, r2, cc1, cc2, ← encN_app, ap', l3, l4, hix, cne]
      all_goals
        cases ab with
        | false => rcases h7 with rfl | rfl <;> simp [ir_law_allows_b1, r1, r2, cc1, cc2, ← encN_app, ap', l3, l4, hix, cne]
        | true =>
          by_cases hst : s < t
          · have hst' : (s : Int) < t := by omega
            rcases Nat.lt_trichotomy x y with h | h | h
            all_goals first
              | (have h1 : (x : Int) < y := by omega
                 have h2 : ¬ (y : Int) < x := by omega
                 have h3 : ¬ (x : Int) = y := by omega
                 have h4 : ¬ x = y := by omega
                 have h5 : ¬ y < x := by omega
                 rcases h7 with rfl | rfl <;> simp [ir_law_allows_b1, r1, r2, cc1, cc2, ← encN_app, ap', l3, l4, hix, cne, e1, e2, e3, e4, ew, c1, c2, c3, hst, hst', h, h1, h2, h3, h4, h5]; done)
              | (subst h
                 rcases h7 with rfl | rfl <;> simp [ir_law_allows_b1, r1, r2, cc1, cc2, ← encN_app, ap', l3, l4, hix, cne, e1, e2, e3, e4, ew, c1, c2, c3, hst, hst']; done)
              | (have h1 : (y : Int) < x := by omega
                 have h2 : ¬ (x : Int) < y := by omega
                 have h3 : ¬ (x : Int) = y := by omega
                 have h4 : ¬ x = y := by omega
                 have h5 : ¬ x < y := by omega
                 rcases h7 with rfl | rfl <;> simp [ir_law_allows_b1, r1, r2, cc1, cc2, ← encN_app, ap', l3, l4, hix, cne, e1, e2, e3, e4, ew, c1, c2, c3, hst, hst', h, h1, h2, h3, h4, h5]; done)
          · have hst' : ¬ (s : Int) < t := by omega
            rcases h7 with rfl | rfl <;> simp [ir_law_allows_b1, r1, r2, cc1, cc2, ← encN_app, ap', l3, l4, hix, cne, e3, e4, hst, hst'])
  split
  · rename_i hq; rw [if_pos hq] at key; exact key
  · rename_i hq; rw [if_neg hq] at key; obtain ⟨g', e, y9, y10, rfl⟩ := key; exact ⟨y9, y10, e⟩
def lqn (bs : List Nat) (p : Nat) (rr : List Nat) (o wd : Nat) (iN i1 i2 i3 : Bool) (n : Nat) : Bool :=
  (iN && ((rowAt bs n).getD p 0 == o && rr.getD n 0 == wd)) || (List.range (prod bs)).any (lcond bs p rr iN i1 i2 i3 n)
theorem lallows_out {iN i1 i2 i3 : Bool} (kd : Str) (sd : D) (o wd : Nat) (hix : ixD sd (.int 0) = some (.str kd)) (hNv : iN = true → ixD sd (.int 4) = some (.int (o : Nat)) ∧ ixD sd (.int 2) = some (.int (wd : Nat))) (hi : (iN, i1, i2, i3) = (true, false, false, false) ∨ (iN, i1, i2, i3) = (false, true, false, false) ∨ (iN, i1, i2, i3) = (false, false, true, false) ∨ (iN, i1, i2, i3) = (false, false, false, true))
    (c0 : cmpD .eq (.str kd) (.str "never") = some iN) (c1 : cmpD .eq (.str kd) (.str "ignores") = some i1) (c2 : cmpD .eq (.str kd) (.str "rises") = some i2) (c3 : cmpD .eq (.str kd) (.str "falls") = some i3)
    {bs : List Nat} (hb : Small bs) (hN : prod bs ≤ 100) (a0 a1 a5 : Option M) (v p : Nat) (hp : p < bs.length) {w : List (List Nat)} (hvw : v < w.length) (hwr : (w.getD v []).length = prod bs)
    (x7 : M) (h7 : IsL x7 (encR (rowsOf bs))) :
    (if (List.range (prod bs)).any (lqn bs p (w.getD v []) o wd iN i1 i2 i3) then
      forGo (.nm 8) (fun g => evSs Φ G W ir_law_allows_b2 g) (rngD 0 (prod bs : Nat)) [a0, a1, some (.frz sd), some (.frz (.lst (encR w))), some (.frz (.int (v : Nat))), a5, some (.frz (.int (p : Nat))), some x7, none, none, none] = .ok (.rt (.frz (.bl false)))
    else ∃ g', forGo (.nm 8) (fun g => evSs Φ G W ir_law_allows_b2 g) (rngD 0 (prod bs : Nat)) [a0, a1, some (.frz sd), some (.frz (.lst (encR w))), some (.frz (.int (v : Nat))), a5, some (.frz (.int (p : Nat))), some x7, none, none, none] = .ok (.nx g')) := by
  have key := forN_rt (i := 8) (f := fun g => evSs Φ G W ir_law_allows_b2 g) (prod bs)
    (fun i g => ∃ x8 x9 x10, g = [a0, a1, some (.frz sd), some (.frz (.lst (encR w))), some (.frz (.int (v : Nat))), a5, some (.frz (.int (p : Nat))), some x7, x8, x9, x10])
    (lqn bs p (w.getD v []) o wd iN i1 i2 i3) (.frz (.bl false))
    (g := [a0, a1, some (.frz sd), some (.frz (.lst (encR w))), some (.frz (.int (v : Nat))), a5, some (.frz (.int (p : Nat))), some x7, none, none, none]) ⟨none, none, none, rfl⟩ (by
      rintro n hn g ⟨x8, x9, x10, rfl⟩
      have hin := lallows_in (Φ := Φ) (G := G) (W := W) kd sd hix hi c0 c1 c2 c3 hb hN a0 a1 a5 v p hp hvw hwr n hn x7 h7 x9 x10
      have r1 : atI (encR (rowsOf bs)) (n : Int) = some (.lst (encN (rowAt bs n))) := by
        rw [encR_at rfl (by simpa using hn), rowsOf_get (by simpa using hn)]
      have ew := encR_getD (l := w) (j := v) hvw
      have e1 := encN_getD (l := w.getD v []) (j := n) (by omega)
      have e3 := encN_getD (l := rowAt bs n) (j := p) (by simpa using hp)
      have hrg : rngR (.int (prod bs : Nat)) = .ok (rngD 0 (prod bs : Nat), []) := rngR_nat (by omega)
      have hll : (encR (rowsOf bs)).length = prod bs := by simp
      unfold lqn
      generalize hqq : (List.range (prod bs)).any (lcond bs p (w.getD v []) iN i1 i2 i3 n) = qq at *
      generalize (w.getD v []).getD n 0 = x at *
      generalize (rowAt bs n).getD p 0 = y at *
      cases iN with
      | false =>
        cases qq with
        | true =>
          rw [if_pos rfl] at hin
          rcases h7 with rfl | rfl <;> simp -implicitDefEqProofs [-List.getD_eq_getElem?_getD, ir_law_allows_b2, hix, c0, hrg, hin]
        | false =>
          rw [if_neg (by simp)] at hin
          obtain ⟨y9, y10, e⟩ := hin
          rcases h7 with rfl | rfl <;> simp -implicitDefEqProofs [-List.getD_eq_getElem?_getD, ir_law_allows_b2, hix, c0, hrg, e]
      | true =>
        obtain ⟨hq4, hq2⟩ := hNv rfl
        have hq0 : qq = false := by
          rw [← hqq]
          simp [lcond]
        subst hq0
        rw [if_neg (by simp)] at hin
        obtain ⟨y9, y10, e⟩ := hin
        by_cases hy : y = o
        · by_cases hx : x = wd
          · rcases h7 with rfl | rfl <;> simp -implicitDefEqProofs [-List.getD_eq_getElem?_getD, ir_law_allows_b2, hix, c0, r1, e3, hq4, hq2, ew, e1, hy, hx]
          · have hx' : ¬ (x : Int) = wd := by omega
            rcases h7 with rfl | rfl <;> simp -implicitDefEqProofs [-List.getD_eq_getElem?_getD, ir_law_allows_b2, hix, c0, r1, e3, hq4, hq2, ew, e1, hy, hx, hx', hrg, e]
        · have hy' : ¬ (y : Int) = o := by omega
          rcases h7 with rfl | rfl <;> simp -implicitDefEqProofs [-List.getD_eq_getElem?_getD, ir_law_allows_b2, hix, c0, r1, e3, hq4, hq2, ew, e1, hy, hy', hrg, e])
  split
  · rename_i hq; rw [if_pos hq] at key; exact key
  · rename_i hq; rw [if_neg hq] at key; obtain ⟨g', e, _⟩ := key; exact ⟨g', e⟩
theorem mem_pairs {bs : List Nat} {p : Nat} {x : Nat × Nat} : x ∈ pairsTo bs p (prod bs) ↔ x.1 < x.2 ∧ x.2 < prod bs ∧ apart (rowAt bs x.1) (rowAt bs x.2) p = true := by
  obtain ⟨n, m⟩ := x
  unfold pairsTo pairsAt
  simp only [List.mem_flatMap, List.mem_range, List.mem_map, List.mem_filter, List.mem_range'_1, Prod.mk.injEq]
  constructor
  · rintro ⟨a, ha, b, ⟨hb, hap⟩, rfl, rfl⟩
    exact ⟨by omega, by omega, hap⟩
  · rintro ⟨h1, h2, h3⟩
    exact ⟨n, by omega, m, ⟨⟨by omega, by omega⟩, h3⟩, rfl, rfl⟩
theorem pairs_any {bs : List Nat} (hb : ∀ c ∈ bs, 0 < c) {p : Nat} (hp : p < bs.length) (q : Nat → Nat → Bool) :
    (pairsTo bs p (prod bs)).any (fun x => q x.1 x.2) = (List.range (prod bs)).any fun n => (List.range (prod bs)).any fun m => (apart (rowAt bs n) (rowAt bs m) p && decide ((rowAt bs n).getD p 0 < (rowAt bs m).getD p 0)) && q n m := by
  rw [Bool.eq_iff_iff]
  simp only [List.any_eq_true, mem_pairs, List.mem_range, Bool.and_eq_true, decide_eq_true_eq]
  constructor
  · rintro ⟨⟨n, m⟩, ⟨h1, h2, h3⟩, h4⟩
    exact ⟨n, by simp only at *; omega, m, h2, ⟨h3, (apart_lt hb hp (by simp only at *; omega) h2 h3).mpr h1⟩, h4⟩
  · rintro ⟨n, hn, m, hm, ⟨h3, h5⟩, h4⟩
    exact ⟨(n, m), ⟨(apart_lt hb hp hn hm h3).mp h5, hm, h3⟩, h4⟩
theorem lallows_main (hbd : S_bounds (Φ "_law_bounds")) (hr : S_rows (Φ "_law_rows")) {cs hs} (s : Shape cs hs) {w : List (List Nat)} (hw : Way cs hs w) {v u : Nat} (hvc : v < cs.length) (hu : u ∈ hs.getD v [])
    {iN i1 i2 i3 : Bool} (kd : Str) (sd d5 : D) (o wd : Nat) (hix : ixD sd (.int 0) = some (.str kd)) (hx1 : ixD sd (.int 1) = some (.int (v : Nat))) (hx5 : ixD sd (.int (-1)) = some d5) (hu5 : iN = false → d5 = .int (u : Nat)) (hu3 : iN = true → ixD sd (.int 3) = some (.int (u : Nat)))
    (hNv : iN = true → ixD sd (.int 4) = some (.int (o : Nat)) ∧ ixD sd (.int 2) = some (.int (wd : Nat))) (hi : (iN, i1, i2, i3) = (true, false, false, false) ∨ (iN, i1, i2, i3) = (false, true, false, false) ∨ (iN, i1, i2, i3) = (false, false, true, false) ∨ (iN, i1, i2, i3) = (false, false, false, true))
    (c0 : cmpD .eq (.str kd) (.str "never") = some iN) (c1 : cmpD .eq (.str kd) (.str "ignores") = some i1) (c2 : cmpD .eq (.str kd) (.str "rises") = some i2) (c3 : cmpD .eq (.str kd) (.str "falls") = some i3) :
    evD Φ G W 4 11 ir_law_allows [.lst (encN cs), .lst (encR hs), sd, .lst (encR w)] = .ok (.frz (.bl (!(List.range (prod (bnds cs (hs.getD v [])))).any (lqn (bnds cs (hs.getD v [])) ((hs.getD v []).idxOf u) (w.getD v []) o wd iN i1 i2 i3)))) := by
  have hl := s.len
  have hf := s.few
  have hv : v < hs.length := by omega
  have hwr := hw.row v hvc
  have hvw : v < w.length := by rw [hw.len]; exact hvc
  have e0 := hbd cs hs s v hv
  have sm := s.small hv
  obtain ⟨r1, r2⟩ := s.rows hv
  have eh := encR_getD (l := hs) hv
  have ei := @idxR_N (hs.getD v []) u [] hu
  have hp : (hs.getD v []).idxOf u < (bnds cs (hs.getD v [])).length := by rw [bnds_len]; exact List.idxOf_lt_length_iff.mpr hu
  have hpos : ∀ c ∈ bnds cs (hs.getD v []), 0 < c := fun c hc => by rw [s.hat hv] at hc; rcases s.bnd hv c hc with h | h <;> omega
  have hbl : (bnds cs (hs.getD v [])).length < 100000 := by
    rw [s.hat hv, bnds_len]
    have := s.hfew hv
    omega
  rw [← s.hat hv] at e0 sm r1 r2
  obtain ⟨m7, h7, e7⟩ := hr _ sm hbl fun k => Nat.le_trans (prod_take_le hpos k) (by omega)
  have hrg : rngR (.int (prod (bnds cs (hs.getD v [])) : Nat)) = .ok (rngD 0 (prod (bnds cs (hs.getD v [])) : Nat), []) := rngR_nat (by omega)
  have key := lallows_out (Φ := Φ) (G := G) (W := W) kd sd o wd hix hNv hi c0 c1 c2 c3 sm (by omega) (some (.frz (.lst (encN cs)))) (some (.frz (.lst (encR hs)))) (some (.frz (.int (u : Nat)))) v _ hp hvw hwr m7 h7
  rw [evD_eq (by rfl)]
  generalize bnds cs (hs.getD v []) = bs at *
  generalize (hs.getD v []).idxOf u = p at *
  generalize (List.range (prod bs)).any (lqn bs p (w.getD v []) o wd iN i1 i2 i3) = bb at *
  cases iN with
  | false =>
    have := hu5 rfl
    subst this
    cases bb with
    | true => rw [if_pos rfl] at key; rcases h7 with rfl | rfl <;> simp -implicitDefEqProofs [-List.getD_eq_getElem?_getD, ir_law_allows, hix, hx1, hx5, c0, eh, ei, e0, e7, hrg, key]
    | false => rw [if_neg (by simp)] at key; obtain ⟨g', e⟩ := key; rcases h7 with rfl | rfl <;> simp -implicitDefEqProofs [-List.getD_eq_getElem?_getD, ir_law_allows, hix, hx1, hx5, c0, eh, ei, e0, e7, hrg, e]
  | true =>
    have h3 := hu3 rfl
    cases bb with
    | true => rw [if_pos rfl] at key; rcases h7 with rfl | rfl <;> simp -implicitDefEqProofs [-List.getD_eq_getElem?_getD, ir_law_allows, hix, hx1, hx5, h3, c0, eh, ei, e0, e7, hrg, key]
    | false => rw [if_neg (by simp)] at key; obtain ⟨g', e⟩ := key; rcases h7 with rfl | rfl <;> simp -implicitDefEqProofs [-List.getD_eq_getElem?_getD, ir_law_allows, hix, hx1, hx5, h3, c0, eh, ei, e0, e7, hrg, e]
theorem c_ni : cmpD .eq (.str "never") (.str "ignores") = some false := by decide +kernel
theorem c_nr : cmpD .eq (.str "never") (.str "rises") = some false := by decide +kernel
theorem c_nf : cmpD .eq (.str "never") (.str "falls") = some false := by decide +kernel
theorem s_law_allows (hbd : S_bounds (Φ "_law_bounds")) (hr : S_rows (Φ "_law_rows")) : S_lallows (evD Φ G W 4 11 ir_law_allows) := by
  intro cs hs s st ok w hw
  have hv := ok.v
  have hu := ok.u
  have hpos : ∀ c ∈ bnds cs (hs.getD st.v []), 0 < c := fun c hc => by
    have hl := s.len
    have hv' : st.v < hs.length := by omega
    rw [s.hat hv'] at hc; rcases s.bnd hv' c hc with h | h <;> omega
  have hp : (hs.getD st.v []).idxOf st.u < (bnds cs (hs.getD st.v [])).length := by rw [bnds_len]; exact List.idxOf_lt_length_iff.mpr ok.u
  cases st with
  | ign v u =>
    refine Eq.trans (lallows_main hbd hr s hw (v := v) (u := u) hv hu "ignores" _ (.int u) 0 0 (by simp [Sent.enc] <;> rfl) (by simp [Sent.enc] <;> rfl) (by simp [Sent.enc] <;> rfl) (fun _ => rfl) (by simp) (by simp) (.inr (.inl rfl)) c_in c_ii c_ir c_if) (congrArg (fun b => Res.ok (M.frz (D.bl (!b)))) ?_)
    simp only [Sent.v, Sent.u] at hpos hp ⊢
    rw [pairs_any hpos hp fun n m => (w.getD v []).getD n 0 != (w.getD v []).getD m 0]
    congr 1; funext n; unfold lqn; rw [Bool.false_and, Bool.false_or]; congr 1; funext m; unfold lcond; simp -implicitDefEqProofs [-List.getD_eq_getElem?_getD]
  | ris v u =>
    refine Eq.trans (lallows_main hbd hr s hw (v := v) (u := u) hv hu "rises" _ (.int u) 0 0 (by simp [Sent.enc] <;> rfl) (by simp [Sent.enc] <;> rfl) (by simp [Sent.enc] <;> rfl) (fun _ => rfl) (by simp) (by simp) (.inr (.inr (.inl rfl))) c_rn c_ri c_rr c_rf) (congrArg (fun b => Res.ok (M.frz (D.bl (!b)))) ?_)
    simp only [Sent.v, Sent.u] at hpos hp
    refine Eq.trans ?_ (pairs_any hpos hp fun n m => decide ((w.getD v []).getD m 0 < (w.getD v []).getD n 0)).symm
    congr 1; funext n; unfold lqn; rw [Bool.false_and, Bool.false_or]; congr 1; funext m; unfold lcond; simp -implicitDefEqProofs [-List.getD_eq_getElem?_getD]
  | fal v u =>
    refine Eq.trans (lallows_main hbd hr s hw (v := v) (u := u) hv hu "falls" _ (.int u) 0 0 (by simp [Sent.enc] <;> rfl) (by simp [Sent.enc] <;> rfl) (by simp [Sent.enc] <;> rfl) (fun _ => rfl) (by simp) (by simp) (.inr (.inr (.inr rfl))) c_fn c_fi c_fr c_ff) (congrArg (fun b => Res.ok (M.frz (D.bl (!b)))) ?_)
    simp only [Sent.v, Sent.u] at hpos hp
    refine Eq.trans ?_ (pairs_any hpos hp fun n m => decide ((w.getD v []).getD n 0 < (w.getD v []).getD m 0)).symm
    congr 1 <;> (funext n; unfold lqn; rw [Bool.false_and, Bool.false_or]; congr 1 <;> (funext m; unfold lcond; simp -implicitDefEqProofs [-List.getD_eq_getElem?_getD]))
  | nev v wd u o =>
    refine Eq.trans (lallows_main hbd hr s hw (v := v) (u := u) hv hu "never" _ (.int o) o wd (by simp [Sent.enc] <;> rfl) (by simp [Sent.enc] <;> rfl) (by simp [Sent.enc] <;> rfl) (by simp) (fun _ => by simp [Sent.enc] <;> rfl) (fun _ => ⟨by simp [Sent.enc] <;> rfl, by simp [Sent.enc] <;> rfl⟩) (.inl rfl) c_nn c_ni c_nr c_nf) (congrArg (fun b => Res.ok (M.frz (D.bl (!b)))) ?_)
    simp only [Sent.v, Sent.u]
    refine congrArg (fun f => (List.range (prod (bnds cs (hs.getD v [])))).any f) ?_
    funext n; unfold lqn
    have : (List.range (prod (bnds cs (hs.getD v [])))).any (lcond (bnds cs (hs.getD v [])) ((hs.getD v []).idxOf u) (w.getD v []) true false false false n) = false := by simp [lcond]
    rw [this]; simp -implicitDefEqProofs [-List.getD_eq_getElem?_getD]
end
end Ev

set_option maxRecDepth 100000
set_option maxHeartbeats 4000000
namespace Ev
open PySem PySem.Spec PyProof.Rows L2
/-- copy_table(table); names: 0 table, 1 setting, 2 seen, 3 bounds -/
def ir_copy_tableO : Ss := (.cons (.set (.tp [1, 2, 3]) (.slot 0)) (.cons (.retT (.cons (.bi .lst (.cons (.slot 1) .nil)) (.cons (.bi .lst (.cons (.slot 2) .nil)) (.cons (.bi .lst (.cons (.slot 3) .nil)) .nil)))) .nil))
def d_copy_tableO : DefI := ⟨1, 4, ir_copy_tableO, none⟩
def ir_O_Data_e1 : E := .call "copy_table" (.cons (.slot 4) .nil)
def esO_Data : List E := [.slot 1, .bi .lst (.cons (.slot 2) .nil), .compO ir_O_Data_e1 (.nm 4) (.over (.slot 3)), .call "ways_left" (.cons (.slot 1) (.cons (.slot 2) .nil))]
def dK_Data : DefI := ⟨3, 5, .nil, some (1, esO_Data)⟩
def ir_agrees_b1 : Ss := (.cons (.ite (.or (.not (.call "at_most" (.cons (.ix (.ix (.slot 4) (.slot 6)) (.cst (.int 0))) (.cons (.ix (.slot 5) (.slot 6)) .nil)))) (.not (.call "at_most" (.cons (.ix (.slot 5) (.slot 6)) (.cons (.ix (.ix (.slot 4) (.slot 6)) (.cst (.int 1))) .nil))))) (.cons (.ret (.cst (.bl false))) .nil) .nil) .nil)
def ir_agrees_b2 : Ss := (.cons (.set (.nm 5) (.call "row_chances" (.cons (.slot 0) (.cons (.slot 2) (.cons (.slot 3) (.cons (.slot 1) .nil)))))) (.cons (.for (.nm 6) (.rng (.bi .len (.cons (.slot 4) .nil))) ir_agrees_b1) .nil))
/-- agrees(data, mix); names: 0 data, 1 mix, 2 setting, 3 seen, 4 bounds, 5 chances, 6 k -/
def ir_agrees : Ss := (.cons (.ite (.not (.call "is_mix" (.cons (.slot 0) (.cons (.slot 1) .nil)))) (.cons (.ret (.cst (.bl false))) .nil) .nil) (.cons (.for (.tp [2, 3, 4]) (.over (.fld (.slot 0) 1 2)) ir_agrees_b2) (.cons (.ret (.cst (.bl true))) .nil)))
def d_agrees : DefI := ⟨2, 7, ir_agrees, none⟩
/-- _law_less(_law_a, _law_b); names: 0 _law_a, 1 _law_b -/
def ir_law_less : Ss := (.cons (.ret (.cmp .lt (.bin .mul (.ix (.slot 0) (.cst (.int 0))) (.ix (.slot 1) (.cst (.int 1)))) (.bin .mul (.ix (.slot 1) (.cst (.int 0))) (.ix (.slot 0) (.cst (.int 1)))))) .nil)
def d_law_less : DefI := ⟨2, 2, ir_law_less, none⟩
def ir_law_is_mix_b1 : Ss := (.cons (.ite (.cmp .lt (.ix (.slot 3) (.cst (.int 0))) (.cst (.int 0))) (.cons (.ret (.cst (.bl false))) .nil) .nil) (.cons (.set (.nm 2) (.call "_law_add" (.cons (.slot 2) (.cons (.slot 3) .nil)))) .nil))
/-- _law_is_mix(_law_ways_here, _law_mix_here); names: 0 _law_ways_here, 1 _law_mix_here, 2 _law_total, 3 _law_x -/
def ir_law_is_mix : Ss := (.cons (.ite (.cmp .ne (.bi .len (.cons (.slot 1) .nil)) (.bi .len (.cons (.slot 0) .nil))) (.cons (.ret (.cst (.bl false))) .nil) .nil) (.cons (.set (.nm 2) (.tup (.cons (.cst (.int 0)) (.cons (.cst (.int 1)) .nil)))) (.cons (.for (.nm 3) (.over (.slot 1)) ir_law_is_mix_b1) (.cons (.ret (.cmp .eq (.slot 2) (.tup (.cons (.cst (.int 1)) (.cons (.cst (.int 1)) .nil))))) .nil))))
def d_law_is_mix : DefI := ⟨2, 4, ir_law_is_mix, none⟩
/-- _law_within(_law_x, _law_bound); names: 0 _law_x, 1 _law_bound -/
def ir_law_within : Ss := (.cons (.ret (.and (.not (.call "_law_less" (.cons (.slot 0) (.cons (.ix (.slot 1) (.cst (.int 0))) .nil)))) (.not (.call "_law_less" (.cons (.ix (.slot 1) (.cst (.int 1))) (.cons (.slot 0) .nil)))))) .nil)
def d_law_within : DefI := ⟨2, 2, ir_law_within, none⟩
def ir_law_agrees_b1 : Ss := (.cons (.ite (.not (.call "_law_within" (.cons (.ix (.slot 8) (.slot 9)) (.cons (.ix (.slot 7) (.slot 9)) .nil)))) (.cons (.ret (.cst (.bl false))) .nil) .nil) .nil)
def ir_law_agrees_b2 : Ss := (.cons (.set (.nm 8) (.call "_law_row_chances" (.cons (.slot 0) (.cons (.slot 1) (.cons (.slot 2) (.cons (.slot 5) (.cons (.slot 6) (.cons (.slot 4) .nil)))))))) (.cons (.for (.nm 9) (.rng (.bi .len (.cons (.slot 7) .nil))) ir_law_agrees_b1) .nil))
/-- _law_agrees(_law_counts, _law_heard, _law_ways_here, _law_tables, _law_mix_here); names: 0 _law_counts, 1 _law_heard, 2 _law_ways_here, 3 _law_tables, 4 _law_mix_here, 5 _law_setting_here, 6 _law_seen_here, 7 _law_bounds_here, 8 _law_chances, 9 _law_n -/
def ir_law_agrees : Ss := (.cons (.for (.tp [5, 6, 7]) (.over (.slot 3)) ir_law_agrees_b2) (.cons (.ret (.cst (.bl true))) .nil))
def d_law_agrees : DefI := ⟨5, 10, ir_law_agrees, none⟩
def ir_law_table_b1 : Ss := (.cons (.set (.nm 9) (.slot 8)) (.cons (.set (.nm 10) (.slot 8)) (.cons (.ite (.cmp .eq (.bin .mod (.bi .int (.cons (.ix (.slot 0) (.cst (.int 20))) .nil)) (.cst (.int 2))) (.cst (.int 0))) (.cons (.set (.nm 9) (.call "_law_lowest" (.cons (.bi .max2 (.cons (.cst (.int 0)) (.cons (.bin .sub (.bin .mul (.cst (.int 20)) (.ix (.slot 8) (.cst (.int 0)))) (.ix (.slot 8) (.cst (.int 1)))) .nil))) (.cons (.bin .mul (.cst (.int 20)) (.ix (.slot 8) (.cst (.int 1)))) .nil)))) (.cons (.set (.nm 10) (.call "_law_lowest" (.cons (.bi .min2 (.cons (.bin .mul (.cst (.int 20)) (.ix (.slot 8) (.cst (.int 1)))) (.cons (.bin .add (.bin .mul (.cst (.int 20)) (.ix (.slot 8) (.cst (.int 0)))) (.ix (.slot 8) (.cst (.int 1)))) .nil))) (.cons (.bin .mul (.cst (.int 20)) (.ix (.slot 8) (.cst (.int 1)))) .nil)))) .nil)) .nil) (.cons (.app 7 (.tup (.cons (.slot 9) (.cons (.slot 10) .nil)))) .nil))))
/-- _law_table(_law_row_here, _law_counts, _law_heard, _law_ways_here, _law_mix_here); names: 0 _law_row_here, 1 _law_counts, 2 _law_heard, 3 _law_ways_here, 4 _law_mix_here, 5 _law_setting_here, 6 _law_seen_here, 7 _law_bounds_here, 8 _law_x, 9 _law_low, 10 _law_high -/
def ir_law_table : Ss := (.cons (.set (.nm 5) (.call "_law_setting" (.cons (.slot 0) (.cons (.slot 1) .nil)))) (.cons (.set (.nm 6) (.call "_law_seen" (.cons (.sl (.slot 0) (.yes (.cst (.int 10))) .no) (.cons (.slot 1) (.cons (.cst (.int 6)) .nil))))) (.cons (.set (.nm 7) (.lst .nil)) (.cons (.for (.nm 8) (.over (.call "_law_row_chances" (.cons (.slot 1) (.cons (.slot 2) (.cons (.slot 3) (.cons (.slot 5) (.cons (.slot 6) (.cons (.slot 4) .nil)))))))) ir_law_table_b1) (.cons (.ret (.tup (.cons (.slot 5) (.cons (.slot 6) (.cons (.slot 7) .nil))))) .nil)))))
def d_law_table : DefI := ⟨5, 11, ir_law_table, none⟩
def ir_law_changed_t1 : Ss := (.cons (.ite (.chain .le .lt (.cst (.int 1)) (.slot 5) (.cst (.int 6))) (.cons (.seti 2 (.slot 3) (.call "_law_add" (.cons (.ix (.slot 2) (.slot 3)) (.cons (.slot 6) .nil)))) (.cons (.seti 2 (.slot 4) (.call "_law_add" (.cons (.ix (.slot 2) (.slot 4)) (.cons (.tup (.cons (.neg (.ix (.slot 6) (.cst (.int 0)))) (.cons (.ix (.slot 6) (.cst (.int 1))) .nil))) .nil)))) .nil)) .nil) (.cons (.ite (.cmp .eq (.slot 5) (.cst (.int 6))) (.cons (.popL 2) .nil) .nil) (.cons (.ite (.cmp .eq (.slot 5) (.cst (.int 7))) (.cons (.app 2 (.tup (.cons (.cst (.int 0)) (.cons (.cst (.int 1)) .nil)))) .nil) .nil) (.cons (.ite (.chain .le .lt (.cst (.int 8)) (.slot 5) (.cst (.int 11))) (.cons (.set (.nm 2) (.call "_law_mix" (.cons (.sl (.slot 0) (.yes (.cst (.int 4))) .no) (.cons (.bi .len (.cons (.slot 2) .nil)) .nil)))) .nil) .nil) (.cons (.ret (.slot 2)) .nil)))))
/-- _law_changed(_law_row_here, _law_mix_here); names: 0 _law_row_here, 1 _law_mix_here, 2 _law_found, 3 _law_a, 4 _law_b, 5 _law_fault, 6 _law_move -/
def ir_law_changed : Ss := (.cons (.set (.nm 2) (.bi .lst (.cons (.slot 1) .nil))) (.cons (.set (.nm 3) (.bin .mod (.bi .int (.cons (.ix (.slot 0) (.cst (.int 1))) .nil)) (.bi .len (.cons (.slot 2) .nil)))) (.cons (.set (.nm 4) (.bin .mod (.bi .int (.cons (.ix (.slot 0) (.cst (.int 2))) .nil)) (.bi .len (.cons (.slot 2) .nil)))) (.cons (.set (.nm 5) (.bin .mod (.bi .int (.cons (.ix (.slot 0) (.cst (.int 0))) .nil)) (.cst (.int 12)))) (.cons (.set (.nm 6) (.call "_law_lowest" (.cons (.bin .add (.cst (.int 1)) (.bin .mod (.bi .int (.cons (.ix (.slot 0) (.cst (.int 3))) .nil)) (.cst (.int 20)))) (.cons (.cst (.int 40)) .nil)))) (.cons (.ite (.cmp .eq (.slot 5) (.cst (.int 0))) (.cons (.seti 2 (.slot 3) (.call "_law_add" (.cons (.ix (.slot 2) (.slot 3)) (.cons (.tup (.cons (.cst (.int 1)) (.cons (.cst (.int 10)) .nil))) .nil)))) .nil) .nil) ir_law_changed_t1))))))
def d_law_changed : DefI := ⟨2, 7, ir_law_changed, none⟩
def ir_law_b1 : Ss := (.cons (.set (.nm 18) (.call "_law_changed" (.cons (.call "_law_row" (.cons (.slot 0) (.cons (.slot 5) (.cons (.cst (.int 70)) .nil)))) (.cons (.slot 10) .nil)))) (.cons (.set (.nm 19) (.bi .lst (.cons (.slot 18) .nil))) (.cons (.set (.nm 20) (.call "is_mix" (.cons (.slot 17) (.cons (.slot 19) .nil)))) (.cons (.set (.nm 21) (.call "agrees" (.cons (.slot 17) (.cons (.slot 19) .nil)))) (.cons (.ite (.or (.not (.isi (.slot 20) (.bool))) (.or (.not (.isi (.slot 21) (.bool))) (.not (.call "_law_same" (.cons (.slot 19) (.cons (.slot 18) .nil)))))) (.cons (.ret (.cst (.bl false))) .nil) .nil) (.cons (.set (.nm 22) (.call "_law_is_mix" (.cons (.slot 4) (.cons (.slot 18) .nil)))) (.cons (.ite (.or (.cmp .ne (.slot 20) (.slot 22)) (.cmp .ne (.slot 21) (.and (.slot 22) (.call "_law_agrees" (.cons (.slot 1) (.cons (.slot 2) (.cons (.slot 4) (.cons (.slot 11) (.cons (.slot 18) .nil))))))))) (.cons (.ret (.cst (.bl false))) .nil) .nil) .nil)))))))
def ir_law_t2 : Ss := (.cons (.ite (.not (.call "_law_same" (.cons (.fld (.slot 17) 1 2) (.cons (.slot 11) .nil)))) (.cons (.ret (.cst (.bl false))) .nil) .nil) (.cons (.for (.nm 5) (.rng2 (.cst (.int 11)) (.cst (.int 17))) ir_law_b1) (.cons (.ret (.cst (.bl true))) .nil)))
def ir_law_e1 : E := .tupN (.cons (.bi .lst (.cons (.slot 14) .nil)) (.cons (.bi .lst (.cons (.slot 15) .nil)) (.cons (.bi .lst (.cons (.slot 16) .nil)) .nil)))
def ir_law_b2 : Ss := (.cons (.app 11 (.call "_law_table" (.cons (.call "_law_row" (.cons (.slot 0) (.cons (.bin .add (.cst (.int 5)) (.slot 12)) (.cons (.cst (.int 21)) .nil)))) (.cons (.slot 1) (.cons (.slot 2) (.cons (.slot 4) (.cons (.slot 10) .nil))))))) .nil)
def ir_law_t1 : Ss := (.cons (.set (.nm 10) (.call "_law_mix" (.cons (.call "_law_row" (.cons (.slot 0) (.cons (.cst (.int 3)) (.cons (.cst (.int 64)) .nil)))) (.cons (.bi .len (.cons (.slot 4) .nil)) .nil)))) (.cons (.set (.nm 11) (.lst .nil)) (.cons (.for (.nm 12) (.rng (.bin .mod (.bi .int (.cons (.ix (.call "_law_row" (.cons (.slot 0) (.cons (.cst (.int 4)) (.cons (.cst (.int 1)) .nil)))) (.cst (.int 0))) .nil)) (.cst (.int 6)))) ir_law_b2) (.cons (.set (.nm 13) (.compO ir_law_e1 (.tp [14, 15, 16]) (.over (.slot 11)))) (.cons (.newO 17 "!Data" (.cons (.slot 9) (.cons (.bi .lst (.cons (.slot 3) .nil)) .nil)) (.cons (.slot 13) .nil)) (.wrk 13 (.cons (.for 13 [14, 15, 16] (.cons (.app 14 (.tup (.cons (.cst (.int 0)) (.cons (.cst (.int 0)) .nil)))) (.cons (.app 15 (.cst (.int 0))) (.cons (.app 16 (.tup (.cons (.tup (.cons (.cst (.int 0)) (.cons (.cst (.int 1)) .nil))) (.cons (.tup (.cons (.cst (.int 0)) (.cons (.cst (.int 1)) .nil))) .nil)))) .nil)))) (.cons (.app 13 (.tup (.cons (.lst .nil) (.cons (.lst (.cons (.cst (.int 0)) .nil)) (.cons (.lst .nil) .nil))))) .nil)) ir_law_t2))))))
def ir_law_e2 : E := .slot 8
def ir_law_o1 : E := .call "_law_allows" (.cons (.slot 1) (.cons (.slot 2) (.cons (.slot 7) (.cons (.slot 8) .nil))))
def ir_law_b3 : Ss := (.cons (.set (.nm 6) (.call "_law_row" (.cons (.slot 0) (.cons (.slot 5) (.cons (.cst (.int 6)) .nil))))) (.cons (.set (.nm 7) (.call "_law_sentence" (.cons (.slot 6) (.cons (.slot 1) (.cons (.slot 2) .nil))))) (.cons (.ite (.and (.cmp .isNt (.slot 7) (.cst .non)) (.cmp .eq (.bin .mod (.bi .int (.cons (.ix (.slot 6) (.cst (.int 5))) .nil)) (.cst (.int 3))) (.cst (.int 0)))) (.cons (.app 3 (.slot 7)) (.cons (.set (.nm 4) (.comp ir_law_e2 (.nm 8) (.over (.slot 4)) (.yes ir_law_o1))) .nil)) .nil) .nil)))
/-- law(_law_script); names: 0 _law_script, 1 _law_counts, 2 _law_heard, 3 _law_sentences, 4 _law_ways_here, 5 _law_place_here, 6 _law_row_here, 7 _law_sentence_here, 8 _law_way, 9 _law_made_here, 10 _law_mix_here, 11 _law_tables, 12 _law_k, 13 _law_passed, 14 _law_setting_here, 15 _law_seen_here, 16 _law_bounds_here, 17 _law_data, 18 _law_given, 19 _law_handed, 20 _law_first, 21 _law_second, 22 _law_due -/
def ir_law : Ss := (.cons (.set (.tp [1, 2]) (.call "_law_shape" (.cons (.slot 0) (.cons (.cst (.int 0)) (.cons (.cst (.int 32)) .nil))))) (.cons (.set (.nm 3) (.lst .nil)) (.cons (.set (.nm 4) (.call "_law_ways" (.cons (.slot 1) (.cons (.slot 2) .nil)))) (.cons (.for (.nm 5) (.over (.tup (.cons (.cst (.int 1)) (.cons (.cst (.int 2)) .nil)))) ir_law_b3) (.cons (.set (.nm 9) (.call "_law_made" (.cons (.call "_law_plain" (.cons (.slot 1) (.cons (.slot 2) .nil))) .nil))) (.cons (.ite (.cmp .eq (.slot 4) (.lst .nil)) (.cons (.ret (.cmp .isN (.call "agrees" (.cons (.call "Data" (.cons (.slot 9) (.cons (.slot 3) (.cons (.lst .nil) .nil)))) (.cons (.lst .nil) .nil))) (.cst (.bl false)))) .nil) .nil) ir_law_t1))))))
def d_law : DefI := ⟨1, 23, ir_law, none⟩
end Ev

set_option maxRecDepth 100000
set_option maxHeartbeats 4000000
/-! Data whose tables stay the caller's own (k14). -/
namespace Ev
open PySem PySem.Spec PyProof.Rows L2
def S_copyO (F : List D → Res M) : Prop := ∀ a b c, F [.tup [.lst a, .lst b, .lst c]] = .ok (.tup [.fl a, .fl b, .fl c])
def IsTabF (d : D) : Prop := ∃ a b c, d = .tup [.lst a, .lst b, .lst c] ∧ D.flats a = true ∧ D.flats b = true ∧ D.flats c = true
def S_DataK (F : List D → Res M) : Prop := ∀ nm ws hs, House nm ws hs → ways (cnts ws) hs ≤ 512 → ∀ ss : List Sent, ss.length < 1000 → (∀ s ∈ ss, Sent.Ok (cnts ws) hs s) → ∀ ts : List D, ts.length < 1000 → (∀ t ∈ ts, IsTabF t) →
  F [encHo nm ws hs, .lst (encSs ss), .lst ts] = .ok (.frz (encDa nm ws hs ss ts))
def tabM : D → M
  | .tup [.lst a, .lst b, .lst c] => .tup [.fl a, .fl b, .fl c]
  | d => .frz d
@[simp] theorem evFO_nil {Φ : String → List D → Res M} {G : String → Option D} {g : Gm} : evFO Φ G [] g = .ok [] := by rw [evFO]
def evFOR (d : D) (r : Res (List D)) : Tn → Res (List D)
  | [] => r.bind fun ds => .ok (d :: ds)
  | _ => .no
@[simp] theorem evFOR_nil {d r} : evFOR d r [] = r.bind fun ds => .ok (d :: ds) := rfl
@[simp] theorem evFO_cons {Φ : String → List D → Res M} {G : String → Option D} {g : Gm} {e es} : evFO Φ G (e :: es) g = (ev Φ G e g).bind fun r => evFOR r.1.toD (evFO Φ G es g) (nrm r) := by rw [evFO]; rfl
mutual
theorem flat_nOw : ∀ {d : D}, d.flat = true → d.nOw = true
  | .non, _ => rfl
  | .bl _, _ => rfl
  | .int _, _ => rfl
  | .str _, _ => rfl
  | .tup ds, h => by
    rw [D.nOw]
    exact flats_nOws (by simpa [D.flat] using h)
  | .lst _, h => by simp [D.flat] at h
  | .rol _, _ => rfl
  | .obj _ _, _ => rfl
  | .dct _ _, _ => rfl
theorem flats_nOws : ∀ {ds : List D}, D.flats ds = true → D.nOws ds = true
  | [], _ => rfl
  | d :: ds, h => by
    simp only [D.flats, D.nOws, Bool.and_eq_true] at h ⊢
    exact ⟨flat_nOw h.1, flats_nOws h.2⟩
end
def mvR14 (m : M) : Tn → Res (M × Tn)
  | [] => .ok (m, [])
  | _ => .no
@[simp] theorem mvR14_nil {m} : mvR14 m [] = .ok (m, []) := rfl
theorem evM1_not {Φ : String → List D → Res M} {G : String → Option D} {g : Gm} {e : E} (h : notSlot e = true) : evM1 Φ G e g = (ev Φ G e g).bind fun x => mvR14 x.1 (nrm x) := by
  cases e <;> first | rfl | (simp [notSlot] at h)
@[simp] theorem evM1_bi14 {Φ : String → List D → Res M} {G : String → Option D} {g : Gm} {b es} : evM1 Φ G (.bi b es) g = (ev Φ G (.bi b es) g).bind fun x => mvR14 x.1 (nrm x) := evM1_not rfl
@[simp] theorem evM1_slot14 {Φ : String → List D → Res M} {G : String → Option D} {g : Gm} {i} {m : M} (h : g[i]? = some (some m)) : evM1 Φ G (.slot i) g = .ok (m, [i]) := by simp only [evM1, h]
section
variable {Φ : String → List D → Res M} {G : String → Option D} {W : Nat}
theorem s_copyO : S_copyO (evD Φ G W 1 4 ir_copy_tableO) := by
  intro a b c
  rw [evD_eq (by rfl)]
  simp [ir_copy_tableO]
theorem s_Data14 (hc : S_copyO (Φ "copy_table")) (hl : S_left (Φ "ways_left")) : S_Data (evI Φ G 1 3 5 es_Data) := by
  intro nm ws hs H hk ss hss ok ts hts tab
  have e1 := hl nm ws hs H hk ss hss ok
  have ec : compGo (.nm 4) (fun _ => .ok true) (fun g => ev Φ G ir_Data_e1 g) ts [none, some (.frz (encHo nm ws hs)), some (.frz (.lst (encSs ss))), some (.frz (.lst ts)), none] = .ok ts := by
    have := compL1 (t := .nm 4) (elt := fun g => ev Φ G ir_Data_e1 g) (g := [none, some (.frz (encHo nm ws hs)), some (.frz (.lst (encSs ss))), some (.frz (.lst ts)), none]) ts id id (by unfold lim; omega) fun t ht => ⟨_, rfl, by
      obtain ⟨a, b, c, rfl⟩ := tab t ht
      exact ⟨.tup [.fl a, .fl b, .fl c], [], by simp [ir_Data_e1, hc a b c], nrm_nil _, by simp [M.toD, M.toDs]⟩⟩
    simpa using this
  unfold evI
  rw [if_pos (by rfl)]
  simp [es_Data, evF, ec, e1, encDa]
theorem s_DataK (hc : S_copyO (Φ "copy_table")) (hl : S_left (Φ "ways_left")) : S_DataK (evIO Φ G 1 3 2 5 esO_Data) := by
  intro nm ws hs H hk ss hss ok ts hts tab
  have e1 := hl nm ws hs H hk ss hss ok
  have ff : M.ffs (ts.map tabM) = true ∧ M.toDs (ts.map tabM) = ts := by
    clear hts
    induction ts with
    | nil => exact ⟨rfl, rfl⟩
    | cons t ts ih =>
      obtain ⟨a, b, c, rfl, h1, h2, h3⟩ := tab t (by simp)
      obtain ⟨i1, i2⟩ := ih fun x hx => tab x (by simp [hx])
      simp only [List.map_cons, M.ffs, M.toDs, tabM, M.ff, M.toD, h1, h2, h3, i1, i2, Bool.and_true, Bool.true_and]
      exact ⟨trivial, trivial⟩
  have ec : ∀ m3 : M, compOGo (.nm 4) (fun g => ev Φ G ir_O_Data_e1 g) ts [none, some (.frz (encHo nm ws hs)), some (.frz (.lst (encSs ss))), some m3, none] = .ok (ts.map tabM) := fun m3 =>
    compOGo_eq tabM ts (by unfold lim; omega) fun t ht => by
      obtain ⟨a, b, c, rfl, h1, h2, h3⟩ := tab t ht
      exact ⟨_, rfl, [], by simp [ir_O_Data_e1, hc a b c, tabM], nrm_nil _⟩
  obtain ⟨m3, hm3, k3⟩ : ∃ m3, ownM (.lst ts) = m3 ∧ (m3 = .fl ts ∨ ∃ ms, m3 = .lst ms ∧ M.toDs ms = ts) := by
    refine ⟨_, rfl, ?_⟩
    rw [ownM]
    split
    · exact .inl rfl
    · rename_i hno
      refine .inr ⟨_, rfl, ?_⟩
      clear ec ff hts hno
      induction ts with
      | nil => rfl
      | cons t ts ih =>
        obtain ⟨a, b, c, rfl, h1, h2, h3⟩ := tab t (by simp)
        have i2 := ih (fun x hx => tab x (by simp [hx])) 
        rw [ownMs, M.toDs, i2]
        have n1 := flats_nOws h1
        have n2 := flats_nOws h2
        have n3 := flats_nOws h3
        simp [ownM, ownMs, D.nOws, D.nOw, n1, n2, n3, M.toD, M.toDs]
  have hn : ∀ T, nrm (.lst (ts.map tabM), T) = [] := fun T => by simp [nrm_eq, M.ff, ff.1]
  have htd : (M.lst (ts.map tabM)).toD = .lst ts := by rw [M.toD, ff.2]
  unfold evIO
  rw [if_pos (by rfl)]
  rcases k3 with rfl | ⟨ms, rfl, hms⟩
  · simp [esO_Data, ownMs, hm3, ec, e1, encDa, hn, htd]
  · have hl3 : lvR (some (some (M.lst ms))) 3 = .ok (.lst ts, [3]) := by rw [← hms]; rfl
    have hfz : frzG [3] [none, some (.frz (encHo nm ws hs)), some (.frz (.lst (encSs ss))), some (.lst ms), none] = [none, some (.frz (encHo nm ws hs)), some (.frz (.lst (encSs ss))), some (.frz (.lst ts)), none] := by rw [← hms]; rfl
    simp [esO_Data, ownMs, hm3, hl3, hfz, ec, e1, encDa, hn, htd]
end
end Ev

set_option maxRecDepth 100000
set_option maxHeartbeats 4000000
/-! Tables and mixes that agree (k14). -/
namespace Ev
open PySem PySem.Spec PyProof.Rows L2
structure Tb where
  st : List (Nat × Nat)
  sn : List Nat
  bs : List (Rat × Rat)
def encB14 (bs : List (Rat × Rat)) : List D := bs.map fun b => .tup [encQ b.1, encQ b.2]
def Tb.enc (t : Tb) : D := .tup [.lst (encP t.st), .lst (encN t.sn), .lst (encB14 t.bs)]
def encT14 (ts : List Tb) : List D := ts.map Tb.enc
structure TbOk (cs : List Nat) (t : Tb) : Prop where
  st : SetOk cs t.st
  sn : SeenOk cs t.sn
  len : t.bs.length = prod (bnds cs t.sn)
  few : t.bs.length ≤ 100
  bd : ∀ b ∈ t.bs, Bd 2000 b.1 ∧ Bd 2000 b.2
theorem encB14_getD {l : List (Rat × Rat)} {j : Nat} (h : j < l.length) : atI (encB14 l) (j : Int) = some (.tup [encQ (l.getD j (0, 0)).1, encQ (l.getD j (0, 0)).2]) := by
  unfold encB14; rw [at_map rfl h, List.getD_eq_getElem?_getD, List.getElem?_eq_getElem h]; rfl
/-- a row's chance within its bounds -/
def rowB (ch : List Rat) (t : Tb) (n : Nat) : Bool := decide ((t.bs.getD n (0, 0)).1 ≤ ch.getD n 0) && decide (ch.getD n 0 ≤ (t.bs.getD n (0, 0)).2)
def tabB (cs : List Nat) (hs : List (List Nat)) (lw : List (List (List Nat))) (xs : List Rat) (t : Tb) : Bool := !(List.range t.bs.length).any fun n => !rowB (chances cs hs t.st t.sn lw xs) t n
def tabsB (cs : List Nat) (hs : List (List Nat)) (lw : List (List (List Nat))) (ts : List Tb) (xs : List Rat) : Bool := !ts.any fun t => !tabB cs hs lw xs t
theorem chances_bd {cs hs st sn lw c} {xs : List Rat} (h : MixOk c xs) {n : Nat} (hn : n < prod (bnds cs sn)) : Bd 4000 ((chances cs hs st sn lw xs).getD n 0) := by
  unfold chances
  rw [chTo_at hn]
  exact (sumAt_bd h.bd (Nat.le_refl _)).mono h.few
def S_agr14 (F : List D → Res M) : Prop := ∀ nm ws hs cs ss ts, cnts ws = cs → House nm ws hs → ways cs hs ≤ 512 → (∀ t ∈ ts, TbOk cs t) → ∀ c xs, MixOk c xs →
  F [encDa nm ws hs ss (encT14 ts), .lst (encX xs)] = .ok (.frz (.bl (isMix (leftOf cs hs ss).length xs && tabsB cs hs (leftOf cs hs ss) ts xs)))
def S_lagr14 (F : List D → Res M) : Prop := ∀ cs hs, Shape cs hs → ∀ lw, (∀ w ∈ lw, Way cs hs w) → ∀ ts, (∀ t ∈ ts, TbOk cs t) → ∀ c xs, MixOk c xs → xs.length = lw.length →
  F [.lst (encN cs), .lst (encR hs), .lst (encWy lw), .lst (encT14 ts), .lst (encX xs)] = .ok (.frz (.bl (tabsB cs hs lw ts xs)))
def S_lmix14 (F : List D → Res M) : Prop := ∀ lw : List (List (List Nat)), ∀ c xs, MixOk c xs → F [.lst (encWy lw), .lst (encX xs)] = .ok (.frz (.bl (isMix lw.length xs)))
def S_lwithin (F : List D → Res M) : Prop := ∀ x a b : Rat, Bd 4000 x → Bd 4000 a → Bd 4000 b → F [encQ x, .tup [encQ a, encQ b]] = .ok (.frz (.bl (decide (a ≤ x) && decide (x ≤ b))))
section
variable {Φ : String → List D → Res M} {G : String → Option D} {W : Nat}
theorem s_agr14 (q1 : S_is_mix (Φ "is_mix")) (q2 : S_chances (Φ "row_chances")) (q3 : S_at_most (Φ "at_most")) : S_agr14 (evD Φ G W 2 7 ir_agrees) := by
  intro nm ws hs cs ss ts hcs H hk tok c xs hx
  subst hcs
  have s := H.shape
  have hll := @left_len (cnts ws) hs ss
  have e1 := q1 nm ws hs ss (encT14 ts) c xs hx
  rw [evD_eq (by rfl)]
  cases hm : isMix (leftOf (cnts ws) hs ss).length xs with
  | false =>
    rw [hm] at e1
    simp -implicitDefEqProofs [-List.getD_eq_getElem?_getD, ir_agrees, e1]
  | true =>
  rw [hm] at e1
  have hl : xs.length = (leftOf (cnts ws) hs ss).length := by
    simp only [isMix, Bool.and_eq_true, decide_eq_true_eq] at hm
    exact hm.1.1
  have key := forL_rt (t := .tp [2, 3, 4]) (f := fun g => evSs Φ G W ir_agrees_b2 g) ts Tb.enc
    (fun i g => ∃ y2 y3 y4 y5 y6, g = [some (M.frz (encDa nm ws hs ss (encT14 ts))), some (.frz (.lst (encX xs))), y2, y3, y4, y5, y6])
    (fun t => !tabB (cnts ws) hs (leftOf (cnts ws) hs ss) xs t) (.frz (.bl false))
    (g := [some (M.frz (encDa nm ws hs ss (encT14 ts))), some (.frz (.lst (encX xs))), none, none, none, none, none]) ⟨none, none, none, none, none, rfl⟩ (by
      rintro j hj g ⟨y2, y3, y4, y5, y6, rfl⟩
      have tk := tok ts[j] (List.getElem_mem _)
      generalize ts[j] = t at *
      have e2 := q2 nm ws hs H (by omega) ss (encT14 ts) t.st tk.st t.sn tk.sn c xs hx hl
      have hbl := tk.few
      have hcl : (chances (cnts ws) hs t.st t.sn (leftOf (cnts ws) hs ss) xs).length = t.bs.length := by unfold chances; rw [chTo_len, tk.len]
      have hcb : ∀ n, n < t.bs.length → Bd 4000 ((chances (cnts ws) hs t.st t.sn (leftOf (cnts ws) hs ss) xs).getD n 0) := fun n hn => chances_bd hx (by rw [← tk.len]; exact hn)
      unfold tabB
      generalize chances (cnts ws) hs t.st t.sn (leftOf (cnts ws) hs ss) xs = ch at *
      have inner := forN_rt (i := 6) (f := fun g => evSs Φ G W ir_agrees_b1 g) t.bs.length
        (fun i g => ∃ z6, g = [some (M.frz (encDa nm ws hs ss (encT14 ts))), some (.frz (.lst (encX xs))), some (.frz (.lst (encP t.st))), some (.frz (.lst (encN t.sn))), some (.frz (.lst (encB14 t.bs))), some (.fl (encX ch)), z6])
        (fun n => !rowB ch t n) (.frz (.bl false))
        (g := [some (M.frz (encDa nm ws hs ss (encT14 ts))), some (.frz (.lst (encX xs))), some (.frz (.lst (encP t.st))), some (.frz (.lst (encN t.sn))), some (.frz (.lst (encB14 t.bs))), some (.fl (encX ch)), y6]) ⟨y6, rfl⟩ (by
          rintro n hn g ⟨z6, rfl⟩
          have a1 := encX_getD (l := ch) (j := n) (by omega)
          have a2 := encB14_getD hn
          have hbb : Bd 2000 (t.bs.getD n (0, 0)).1 ∧ Bd 2000 (t.bs.getD n (0, 0)).2 := by
            rw [List.getD_eq_getElem?_getD, List.getElem?_eq_getElem hn]; exact tk.bd _ (List.getElem_mem _)
          have bS := hcb n hn
          unfold rowB
          generalize ch.getD n 0 = S at *
          generalize (t.bs.getD n (0, 0)).1 = lo at *
          generalize (t.bs.getD n (0, 0)).2 = hi at *
          have f1 := q3 lo S (hbb.1.mono (by decide)) (bS.mono (by decide))
          have f2 := q3 S hi (bS.mono (by decide)) (hbb.2.mono (by decide))
          by_cases h1 : lo ≤ S
          · rw [decide_eq_true h1] at f1 ⊢
            by_cases h2 : S ≤ hi
            · rw [decide_eq_true h2] at f2 ⊢
              rw [if_neg (by simp)]
              refine ⟨_, ?_, some (.frz (.int (n : Nat))), rfl⟩
              simp -implicitDefEqProofs [-List.getD_eq_getElem?_getD, ir_agrees_b1, a1, a2, f1, f2]
            · rw [decide_eq_false h2] at f2 ⊢
              rw [if_pos (by simp)]
              simp -implicitDefEqProofs [-List.getD_eq_getElem?_getD, ir_agrees_b1, a1, a2, f1, f2]
          · rw [decide_eq_false h1] at f1 ⊢
            rw [if_pos (by simp)]
            simp -implicitDefEqProofs [-List.getD_eq_getElem?_getD, ir_agrees_b1, a1, a2, f1])
      have hrg : rngR (.int (t.bs.length : Nat)) = .ok (rngD 0 (t.bs.length : Nat), []) := rngR_nat (by omega)
      have hl4 : (encB14 t.bs).length = t.bs.length := by simp [encB14]
      cases hq : (List.range t.bs.length).any fun n => !rowB ch t n with
      | true =>
        rw [hq, if_pos rfl] at inner
        rw [if_pos (by simp)]
        simp -implicitDefEqProofs [-List.getD_eq_getElem?_getD, ir_agrees_b2, Tb.enc, e2, hl4, hrg, inner]
      | false =>
        rw [hq, if_neg (by simp)] at inner
        rw [if_neg (by simp)]
        obtain ⟨g1, e3, z6, hg1⟩ := inner
        subst hg1
        refine ⟨_, ?_, some (.frz (.lst (encP t.st))), some (.frz (.lst (encN t.sn))), some (.frz (.lst (encB14 t.bs))), some (.fl (encX ch)), z6, rfl⟩
        simp -implicitDefEqProofs [-List.getD_eq_getElem?_getD, ir_agrees_b2, Tb.enc, e2, hl4, hrg, e3])
  rw [show ts.map Tb.enc = encT14 ts from rfl] at key
  unfold tabsB
  cases hq : ts.any fun t => !tabB (cnts ws) hs (leftOf (cnts ws) hs ss) xs t with
  | true =>
    rw [hq, if_pos rfl] at key
    simp -implicitDefEqProofs [-List.getD_eq_getElem?_getD, ir_agrees, e1, key]
  | false =>
    rw [hq, if_neg (by simp)] at key
    obtain ⟨g1, e3, _⟩ := key
    simp -implicitDefEqProofs [-List.getD_eq_getElem?_getD, ir_agrees, e1, e3]
theorem s_law_less14 : S_less (evD Φ G W 2 2 ir_law_less) := by
  intro x y hx hy
  rw [evD_eq (by rfl)]
  simp [ir_law_less, binR_mul (mulOk_of hx.1 (den_lt hy) (by decide)), binR_mul (mulOk_of hy.1 (den_lt hx) (by decide)), Rat.lt_iff]
theorem s_law_within (q : S_less (Φ "_law_less")) : S_lwithin (evD Φ G W 2 2 ir_law_within) := by
  intro x a b hx ha hb
  have e1 := q x a hx ha
  have e2 := q b x hb hx
  have h1 : (a ≤ x) ↔ ¬ x < a := by grind
  have h2 : (x ≤ b) ↔ ¬ b < x := by grind
  rw [evD_eq (by rfl)]
  by_cases k1 : x < a <;> by_cases k2 : b < x <;> simp [ir_law_within, e1, e2, h1, h2, k1, k2]
theorem s_lagr14 (q2 : S_lchances (Φ "_law_row_chances")) (q3 : S_lwithin (Φ "_law_within")) : S_lagr14 (evD Φ G W 5 10 ir_law_agrees) := by
  intro cs hs s lw hlw ts tok c xs hx hl
  have key := forL_rt (t := .tp [5, 6, 7]) (f := fun g => evSs Φ G W ir_law_agrees_b2 g) ts Tb.enc
    (fun i g => ∃ y5 y6 y7 y8 y9, g = [some (M.frz (.lst (encN cs))), some (.frz (.lst (encR hs))), some (.frz (.lst (encWy lw))), some (.frz (.lst (encT14 ts))), some (.frz (.lst (encX xs))), y5, y6, y7, y8, y9])
    (fun t => !tabB cs hs lw xs t) (.frz (.bl false))
    (g := [some (M.frz (.lst (encN cs))), some (.frz (.lst (encR hs))), some (.frz (.lst (encWy lw))), some (.frz (.lst (encT14 ts))), some (.frz (.lst (encX xs))), none, none, none, none, none]) ⟨none, none, none, none, none, rfl⟩ (by
      rintro j hj g ⟨y5, y6, y7, y8, y9, rfl⟩
      have tk := tok ts[j] (List.getElem_mem _)
      generalize ts[j] = t at *
      have e2 := q2 cs hs s lw hlw t.st tk.st t.sn tk.sn c xs hx hl
      have hbl := tk.few
      have hcl : (chances cs hs t.st t.sn lw xs).length = t.bs.length := by unfold chances; rw [chTo_len, tk.len]
      have hcb : ∀ n, n < t.bs.length → Bd 4000 ((chances cs hs t.st t.sn lw xs).getD n 0) := fun n hn => chances_bd hx (by rw [← tk.len]; exact hn)
      unfold tabB
      generalize chances cs hs t.st t.sn lw xs = ch at *
      have inner := forN_rt (i := 9) (f := fun g => evSs Φ G W ir_law_agrees_b1 g) t.bs.length
        (fun i g => ∃ z9, g = [some (M.frz (.lst (encN cs))), some (.frz (.lst (encR hs))), some (.frz (.lst (encWy lw))), some (.frz (.lst (encT14 ts))), some (.frz (.lst (encX xs))), some (.frz (.lst (encP t.st))), some (.frz (.lst (encN t.sn))), some (.frz (.lst (encB14 t.bs))), some (.fl (encX ch)), z9])
        (fun n => !rowB ch t n) (.frz (.bl false))
        (g := [some (M.frz (.lst (encN cs))), some (.frz (.lst (encR hs))), some (.frz (.lst (encWy lw))), some (.frz (.lst (encT14 ts))), some (.frz (.lst (encX xs))), some (.frz (.lst (encP t.st))), some (.frz (.lst (encN t.sn))), some (.frz (.lst (encB14 t.bs))), some (.fl (encX ch)), y9]) ⟨y9, rfl⟩ (by
          rintro n hn g ⟨z9, rfl⟩
          have a1 := encX_getD (l := ch) (j := n) (by omega)
          have a2 := encB14_getD hn
          have hbb : Bd 2000 (t.bs.getD n (0, 0)).1 ∧ Bd 2000 (t.bs.getD n (0, 0)).2 := by
            rw [List.getD_eq_getElem?_getD, List.getElem?_eq_getElem hn]; exact tk.bd _ (List.getElem_mem _)
          have bS := hcb n hn
          unfold rowB
          generalize ch.getD n 0 = S at *
          generalize (t.bs.getD n (0, 0)).1 = lo at *
          generalize (t.bs.getD n (0, 0)).2 = hi at *
          have f1 := q3 S lo hi bS (hbb.1.mono (by decide)) (hbb.2.mono (by decide))
          cases hb : (decide (lo ≤ S) && decide (S ≤ hi)) with
          | true =>
            rw [hb] at f1
            rw [if_neg (by simp)]
            refine ⟨_, ?_, some (.frz (.int (n : Nat))), rfl⟩
            simp -implicitDefEqProofs [-List.getD_eq_getElem?_getD, ir_law_agrees_b1, a1, a2, f1]
          | false =>
            rw [hb] at f1
            rw [if_pos (by simp)]
            simp -implicitDefEqProofs [-List.getD_eq_getElem?_getD, ir_law_agrees_b1, a1, a2, f1])
      have hrg : rngR (.int (t.bs.length : Nat)) = .ok (rngD 0 (t.bs.length : Nat), []) := rngR_nat (by omega)
      have hl4 : (encB14 t.bs).length = t.bs.length := by simp [encB14]
      cases hq : (List.range t.bs.length).any fun n => !rowB ch t n with
      | true =>
        rw [hq, if_pos rfl] at inner
        rw [if_pos (by simp)]
        simp -implicitDefEqProofs [-List.getD_eq_getElem?_getD, ir_law_agrees_b2, Tb.enc, e2, hl4, hrg, inner]
      | false =>
        rw [hq, if_neg (by simp)] at inner
        rw [if_neg (by simp)]
        obtain ⟨g1, e3, z9, hg1⟩ := inner
        subst hg1
        refine ⟨_, ?_, some (.frz (.lst (encP t.st))), some (.frz (.lst (encN t.sn))), some (.frz (.lst (encB14 t.bs))), some (.fl (encX ch)), z9, rfl⟩
        simp -implicitDefEqProofs [-List.getD_eq_getElem?_getD, ir_law_agrees_b2, Tb.enc, e2, hl4, hrg, e3])
  rw [show ts.map Tb.enc = encT14 ts from rfl] at key
  rw [evD_eq (by rfl)]
  unfold tabsB
  cases hq : ts.any fun t => !tabB cs hs lw xs t with
  | true =>
    rw [hq, if_pos rfl] at key
    simp -implicitDefEqProofs [-List.getD_eq_getElem?_getD, ir_law_agrees, key]
  | false =>
    rw [hq, if_neg (by simp)] at key
    obtain ⟨g1, e3, _⟩ := key
    simp -implicitDefEqProofs [-List.getD_eq_getElem?_getD, ir_law_agrees, e3]
theorem s_lmix14 (q : S_add (Φ "_law_add")) : S_lmix14 (evD Φ G W 2 4 ir_law_is_mix) := by
  intro lw c xs hx
  have hf := hx.few
  rw [evD_eq (by rfl)]
  by_cases hn : xs.length = lw.length
  · have key := forL_rt (t := .nm 3) (f := fun g => evSs Φ G W ir_law_is_mix_b1 g) xs encQ
      (fun i g => ∃ x3, g = [some (M.frz (.lst (encWy lw))), some (.frz (.lst (encX xs))), some (.frz (encQ (xs.take i).sum)), x3])
      (fun x => decide (x < 0)) (.frz (.bl false))
      (g := [some (M.frz (.lst (encWy lw))), some (.frz (.lst (encX xs))), some (.frz (encQ 0)), none]) ⟨none, rfl⟩ (by
        rintro j hj g ⟨x3, rfl⟩
        have k1 := hx.bd xs[j] (List.getElem_mem _)
        have k2 := hx.sums.2 j
        have k3 := sum_take_succ hj
        rw [k3]
        have hc : c ≤ 3999 := by
          have := Nat.mul_le_mul_left (c + 1) (show 1 ≤ xs.length by omega)
          omega
        generalize xs[j] = x at *
        generalize (xs.take j).sum = S at *
        have e2 := q S x k2 (k1.mono (by omega))
        by_cases h0 : x < 0
        · have h0' : x.num < 0 := by
            have := mt Rat.num_nonneg.mp (show ¬ 0 ≤ x by grind)
            omega
          simp -implicitDefEqProofs [ir_law_is_mix_b1, h0, h0', encQ]
        · have h0' : ¬ x.num < 0 := by
            have := Rat.num_nonneg.mpr (show 0 ≤ x by grind)
            omega
          have i0 : ixD (encQ x) (.int 0) = some (.int x.num) := rfl
          rw [if_neg (by simpa using h0)]
          refine ⟨_, ?_, some (.frz (encQ x)), rfl⟩
          simp -implicitDefEqProofs [ir_law_is_mix_b1, i0, h0', e2])
    rw [show xs.map encQ = encX xs from rfl] at key
    have hall : xs.all (fun x => decide (0 ≤ x)) = !xs.any fun x => decide (x < 0) := by
      rw [List.not_any_eq_all_not]; congr 1; funext x; by_cases hx : x < 0
      · have : ¬ 0 ≤ x := by grind
        simp [hx, this]
      · have : 0 ≤ x := by grind
        simp [hx, this]
    unfold isMix
    rw [hall]
    split at key
    · rename_i hq
      rw [hq]
      have hz : D.tup [.int 0, .int 1] = encQ 0 := rfl
      simp -implicitDefEqProofs [ir_law_is_mix, hn, hz, key]
    · rename_i hq
      rw [Bool.not_eq_true] at hq
      obtain ⟨g', e2, x3, hxg⟩ := key
      subst hxg
      rw [List.take_length] at e2
      rw [hq]
      have hz : D.tup [.int 0, .int 1] = encQ 0 := rfl
      have h1 : D.tup [.int 1, .int 1] = encQ 1 := rfl
      simp -implicitDefEqProofs [ir_law_is_mix, hn, hz, h1, e2]
  · have hn' : ¬ (xs.length : Int) = (lw.length : Nat) := by omega
    unfold isMix
    simp [ir_law_is_mix, hn, hn']
end
end Ev

set_option maxRecDepth 100000
set_option maxHeartbeats 4000000
set_option exponentiation.threshold 200000
/-! Tables and mixes, drawn (k14). -/
namespace Ev
open PySem PySem.Spec PyProof.Rows L2
theorem mod14 {a c : Nat} {b : Int} (hb : b = c) (h : 0 < c) {T U : Tn} : binR .mod (.int (a : Nat), T) (.int b, U) = .ok (.frz (.int (a % c : Nat)), []) := by
  subst hb
  rw [binR_mod (by omega)]; simp
theorem cut14 {l : List Nat} {a : Int} {n : Nat} (h : a = n) : cutD (encN l) (some a) none = encN (l.drop n) := by subst h; rw [cut_on, encN_drop]
def S_table14 (F : List D → Res M) : Prop := ∀ cs hs, Shape cs hs → ∀ lw, (∀ w ∈ lw, Way cs hs w) → lw.length ≤ 64 → ∀ r : List Nat, 21 ≤ r.length → ∀ xs, MixOk 10 xs → xs.length = lw.length → ∃ t, TbOk cs t ∧ F [.lst (encN r), .lst (encN cs), .lst (encR hs), .lst (encWy lw), .lst (encX xs)] = .ok (.frz t.enc)
def S_changed14 (F : List D → Res M) : Prop := ∀ r : List Nat, 70 ≤ r.length → ∀ xs, MixOk 10 xs → 0 < xs.length → xs.length ≤ 32 → ∃ ys, MixOk 24 ys ∧ F [.lst (encN r), .lst (encX xs)] = .ok (.fl (encX ys))
section
variable {Φ : String → List D → Res M} {G : String → Option D} {W : Nat}
theorem table14_b1 (q : S_lowest (Φ "_law_lowest")) (r : List Nat) (hr : 21 ≤ r.length) (x : Rat) (hx : Bd 1000 x) (x1 x2 x3 x4 x5 x6 x9 x10 : Option M) (bs : List (Rat × Rat)) (hbs : bs.length < 1000) :
    ∃ a b y9 y10, Bd 2000 a ∧ Bd 2000 b ∧ evSs Φ G W ir_law_table_b1 [some (M.frz (.lst (encN r))), x1, x2, x3, x4, x5, x6, some (.fl (encB14 bs)), some (.frz (encQ x)), x9, x10]
      = .ok (.nx [some (M.frz (.lst (encN r))), x1, x2, x3, x4, x5, x6, some (.fl (encB14 (bs ++ [(a, b)]))), some (.frz (encQ x)), y9, y10]) := by
  have a20 := encN_getD (l := r) (j := 20) (by omega)
  simp only [Int.cast_ofNat_Int] at a20
  have b20 := mod14 (a := r.getD 20 0) (b := 2) (c := 2) rfl (by decide) (T := []) (U := [])
  generalize r.getD 20 0 % 2 = y at *
  generalize r.getD 20 0 = z at *
  have i0 : ixD (encQ x) (.int 0) = some (.int x.num) := rfl
  have i1 : ixD (encQ x) (.int 1) = some (.int x.den) := rfl
  have hlim : (encB14 bs).length < lim := by simp [encB14]; unfold lim; omega
  have hlim2 : bs.length < lim := by unfold lim; omega
  have sn : ∀ a b : Rat, encB14 (bs ++ [(a, b)]) = encB14 bs ++ [.tup [encQ a, encQ b]] := fun a b => by simp [encB14]
  obtain ⟨hn, hd⟩ := hx
  have hdp := x.den_pos
  have p3 : (2 : Nat) ^ 1000 * 64 ≤ 2 ^ 2000 := by decide +kernel
  generalize hp : x.num = p at *
  generalize hq : x.den = d at *
  have bm1 := binR_mul (T := []) (U := []) (MulOk.l (i := (20 : Int)) (j := p) (by decide))
  have bm2 := binR_mul (T := []) (U := []) (MulOk.l (i := (20 : Int)) (j := (d : Int)) (by decide))
  have hdi : (0 : Int) < d := by omega
  obtain ⟨P, hP⟩ : ∃ P : Int, P = if 20 * p - (d : Int) > 0 then 20 * p - (d : Int) else 0 := ⟨_, rfl⟩
  obtain ⟨Q, hQ⟩ : ∃ Q : Int, Q = if 20 * p + (d : Int) < 20 * (d : Int) then 20 * p + (d : Int) else 20 * (d : Int) := ⟨_, rfl⟩
  have mP : biD .max2 [.int 0, .int (20 * p - (d : Int))] = some (.int P) := by rw [hP]; rfl
  have mQ : biD .min2 [.int (20 * (d : Int)), .int (20 * p + (d : Int))] = some (.int Q) := by rw [hQ]; rfl
  have k1 : P.natAbs ≤ 20 * p.natAbs + d := by rw [hP]; split <;> omega
  have k2 : Q.natAbs ≤ 20 * p.natAbs + 20 * d := by rw [hQ]; split <;> omega
  have b89 : (2 : Nat) ^ 2000 ≤ 2 ^ 8900 := Nat.pow_le_pow_right (by decide) (by decide)
  have hqb : (20 * (d : Int)).natAbs < 2 ^ 2000 := by
    generalize (2 : Nat) ^ 1000 = B at *
    generalize (2 : Nat) ^ 2000 = BB at *
    omega
  have hPb : P.natAbs < 2 ^ 2000 := by
    generalize (2 : Nat) ^ 1000 = B at *
    generalize (2 : Nat) ^ 2000 = BB at *
    omega
  have hQb : Q.natAbs < 2 ^ 2000 := by
    generalize (2 : Nat) ^ 1000 = B at *
    generalize (2 : Nat) ^ 2000 = BB at *
    omega
  have hq0 : (0 : Int) < 20 * (d : Int) := by omega
  have e1 := q P (20 * (d : Int)) hq0 (Nat.lt_of_lt_of_le hqb b89)
  have e2 := q Q (20 * (d : Int)) hq0 (Nat.lt_of_lt_of_le hqb b89)
  have B1 : Bd 2000 (Rat.divInt P (20 * (d : Int))) := Bd.divInt (by omega) hPb hqb
  have B2 : Bd 2000 (Rat.divInt Q (20 * (d : Int))) := Bd.divInt (by omega) hQb hqb
  have bx : Bd 2000 x := by
    constructor
    · rw [hp]; exact Nat.lt_of_lt_of_le hn (Nat.pow_le_pow_right (by decide) (by decide))
    · rw [hq]; exact Nat.lt_of_lt_of_le hd (Nat.pow_le_pow_right (by decide) (by decide))
  clear hqb hPb hQb b89 hn hd p3
  generalize Rat.divInt P (20 * (d : Int)) = lo at *
  generalize Rat.divInt Q (20 * (d : Int)) = hi at *
  by_cases hy : y = 0
  · refine ⟨lo, hi, some (.frz (encQ lo)), some (.frz (encQ hi)), B1, B2, ?_⟩
    rw [sn]
    simp -implicitDefEqProofs [-List.getD_eq_getElem?_getD, ir_law_table_b1, a20, b20, hy, i0, i1, bm1, bm2, mP, mQ, e1, e2, hlim, hlim2]
  · have hy' : ¬ (y : Int) = 0 := by omega
    refine ⟨x, x, some (.frz (encQ x)), some (.frz (encQ x)), bx, bx, ?_⟩
    rw [sn]
    simp -implicitDefEqProofs [-List.getD_eq_getElem?_getD, ir_law_table_b1, a20, b20, hy, hy', hlim, hlim2]
theorem s_table14 (q1 : S_setting (Φ "_law_setting")) (q2 : S_seen (Φ "_law_seen")) (q3 : S_lchances (Φ "_law_row_chances")) (q4 : S_lowest (Φ "_law_lowest")) : S_table14 (evD Φ G W 5 11 ir_law_table) := by
  intro cs hs s lw hlw hll r hr xs hx hl
  obtain ⟨st, hst, e1⟩ := q1 cs hs s r (by omega)
  have hcut : cutD (encN r) (some 10) none = encN (r.drop 10) := cut14 (l := r) (a := 10) (n := 10) rfl
  obtain ⟨sn, hsn, hp6, e2⟩ := q2 cs hs s (r.drop 10) 6 (by simp; omega) (by decide)
  simp only [Int.cast_ofNat_Int] at e2
  have e3 := q3 cs hs s lw hlw st hst sn hsn 10 xs hx hl
  have hcl : (chances cs hs st sn lw xs).length = prod (bnds cs sn) := by unfold chances; rw [chTo_len]
  have hcb : ∀ x ∈ chances cs hs st sn lw xs, Bd 1000 x := fun x hx' => by
    obtain ⟨n, hn, rfl⟩ := List.getElem_of_mem hx'
    have e : (chances cs hs st sn lw xs)[n] = (chances cs hs st sn lw xs).getD n 0 := by rw [List.getD_eq_getElem?_getD, List.getElem?_eq_getElem hn]; rfl
    rw [e]
    rw [hcl] at hn
    unfold chances
    rw [chTo_at hn]
    exact (sumAt_bd hx.bd (Nat.le_refl _)).mono (by omega)
  generalize chances cs hs st sn lw xs = ch at *
  obtain ⟨g', e, bs, hbl, hbd, x8, x9, x10, hg⟩ := forL (t := .nm 8) (f := fun g => evSs Φ G W ir_law_table_b1 g) ch encQ
    (fun i g => ∃ bs : List (Rat × Rat), bs.length = i ∧ (∀ b ∈ bs, Bd 2000 b.1 ∧ Bd 2000 b.2) ∧ ∃ x8 x9 x10, g = [some (M.frz (.lst (encN r))), some (.frz (.lst (encN cs))), some (.frz (.lst (encR hs))), some (.frz (.lst (encWy lw))), some (.frz (.lst (encX xs))), some (.fl (encP st)), some (.fl (encN sn)), some (.fl (encB14 bs)), x8, x9, x10])
    (g := [some (M.frz (.lst (encN r))), some (.frz (.lst (encN cs))), some (.frz (.lst (encR hs))), some (.frz (.lst (encWy lw))), some (.frz (.lst (encX xs))), some (.fl (encP st)), some (.fl (encN sn)), some (.fl []), none, none, none]) ⟨[], rfl, by simp, none, none, none, by simp [encB14]⟩ (by
      rintro i hi g ⟨bs, hbl, hbd, x8, x9, x10, rfl⟩
      obtain ⟨a, b, y9, y10, B1, B2, e'⟩ := table14_b1 (Φ := Φ) (G := G) (W := W) q4 r hr ch[i] (hcb _ (List.getElem_mem _)) (some (.frz (.lst (encN cs)))) (some (.frz (.lst (encR hs)))) (some (.frz (.lst (encWy lw)))) (some (.frz (.lst (encX xs)))) (some (.fl (encP st))) (some (.fl (encN sn))) x9 x10 bs (by omega)
      refine ⟨_, e', bs ++ [(a, b)], by simp [hbl], fun z hz => ?_, some (.frz (encQ ch[i])), y9, y10, rfl⟩
      rcases List.mem_append.mp hz with h | h
      · exact hbd z h
      · simp only [List.mem_singleton] at h; subst h; exact ⟨B1, B2⟩)
  subst hg
  refine ⟨⟨st, sn, bs⟩, ⟨hst, hsn, by rw [hbl, hcl], by show bs.length ≤ 100; omega, hbd⟩, ?_⟩
  rw [show ch.map encQ = encX ch from rfl] at e
  rw [evD_eq (by rfl)]
  simp -implicitDefEqProofs [-List.getD_eq_getElem?_getD, ir_law_table, e1, hcut, e2, e3, e, Tb.enc]
theorem MixOk.mono {b c : Nat} {xs : List Rat} (h : MixOk b xs) (k : b ≤ c) (hl : (c + 1) * xs.length + 1 ≤ 4000) : MixOk c xs := ⟨fun x hx => (h.bd x hx).mono k, hl⟩
theorem s_changed14 (q1 : S_lowest (Φ "_law_lowest")) (q2 : S_add (Φ "_law_add")) (q3 : S_mix (Φ "_law_mix")) : S_changed14 (evD Φ G W 2 7 ir_law_changed) := by
  intro r hr xs hx hl0 hl
  have a0 := encN_getD (l := r) (j := 0) (by omega)
  have a1 := encN_getD (l := r) (j := 1) (by omega)
  have a2 := encN_getD (l := r) (j := 2) (by omega)
  have a3 := encN_getD (l := r) (j := 3) (by omega)
  simp only [Int.cast_ofNat_Int, Int.ofNat_zero, Int.natCast_one] at a0 a1 a2 a3
  have b0 := mod14 (a := r.getD 0 0) (b := 12) (c := 12) rfl (by decide) (T := []) (U := [])
  have b1 := mod14 (a := r.getD 1 0) (b := (xs.length : Nat)) (c := xs.length) rfl hl0 (T := []) (U := [])
  have b2 := mod14 (a := r.getD 2 0) (b := (xs.length : Nat)) (c := xs.length) rfl hl0 (T := []) (U := [])
  have b3 := mod14 (a := r.getD 3 0) (b := 20) (c := 20) rfl (by decide) (T := []) (U := [])
  have m0 : r.getD 0 0 % 12 < 12 := Nat.mod_lt _ (by decide)
  have m1 : r.getD 1 0 % xs.length < xs.length := Nat.mod_lt _ hl0
  have m2 : r.getD 2 0 % xs.length < xs.length := Nat.mod_lt _ hl0
  have m3 : r.getD 3 0 % 20 < 20 := Nat.mod_lt _ (by decide)
  have hcut : cutD (encN r) (some 4) none = encN (r.drop 4) := cut14 (l := r) (a := 4) (n := 4) rfl
  obtain ⟨zs, hz, hzm, eM⟩ := q3 (r.drop 4) xs.length hl0 (by omega) (by simp; omega)
  generalize r.drop 4 = r4 at *
  generalize r.getD 0 0 % 12 = f at *
  generalize r.getD 1 0 % xs.length = a at *
  generalize r.getD 2 0 % xs.length = b at *
  generalize r.getD 3 0 % 20 = y3 at *
  have e40 := q1 (1 + (y3 : Int)) 40 (by decide) (Nat.lt_of_lt_of_le (show (40 : Int).natAbs < 2 ^ 10 by decide) (Nat.pow_le_pow_right (by decide) (by decide)))
  have Bm : Bd 6 (Rat.divInt (1 + (y3 : Int)) 40) := Bd.divInt (by decide) (by omega) (by decide)
  generalize Rat.divInt (1 + (y3 : Int)) 40 = mv at *
  have n0 : ixD (encQ mv) (.int 0) = some (.int mv.num) := rfl
  have n1 : ixD (encQ mv) (.int 1) = some (.int mv.den) := rfl
  have ng : D.tup [.int (-mv.num), .int (mv.den : Int)] = encQ (-mv) := by simp [encQ]
  have bat : ∀ {l : List Rat} {c k : Nat}, (∀ x ∈ l, Bd c x) → k < l.length → Bd c (l.getD k 0) := fun {l c k} h hk => by
    rw [List.getD_eq_getElem?_getD, List.getElem?_eq_getElem hk]; exact h _ (List.getElem_mem _)
  have bset : ∀ {l : List Rat} {c k : Nat} {v : Rat}, (∀ x ∈ l, Bd c x) → Bd c v → ∀ x ∈ l.set k v, Bd c x := fun {l c k v} h hv x hx => by
    rcases List.mem_or_eq_of_mem_set hx with h' | h'
    · exact h x h'
    · rw [h']; exact hv
  have B10 := bat hx.bd m1
  have B17 : ∀ x ∈ xs.set a (xs.getD a 0 + mv), Bd 17 x := bset (fun x h => (hx.bd x h).mono (by decide)) ((B10.add Bm).mono (by decide))
  have hl2 : (xs.set a (xs.getD a 0 + mv)).length = xs.length := by simp
  have B18 := bat B17 (show b < _ by rw [hl2]; exact m2)
  have p1 := encX_getD (l := xs) m1
  have p2 := encX_getD (l := xs.set a (xs.getD a 0 + mv)) (j := b) (by rw [hl2]; exact m2)
  have t1 : D.tup [.int 1, .int 10] = encQ (Rat.divInt 1 10) := by
    show D.tup [.int 1, .int 10] = .tup [.int (Rat.divInt 1 10).num, .int ((Rat.divInt 1 10).den : Int)]
    rw [show (Rat.divInt 1 10).num = 1 by decide +kernel, show (Rat.divInt 1 10).den = 10 by decide +kernel]; rfl
  have t0 : D.tup [.int 0, .int 1] = encQ 0 := rfl
  have e10 : Φ "_law_add" [encQ (xs.getD a 0), encQ (Rat.divInt 1 10)] = .ok (.frz (encQ (xs.getD a 0 + Rat.divInt 1 10))) := q2 (xs.getD a 0) (Rat.divInt 1 10) (B10.mono (by decide)) (Bd.mono (n := 4) (Bd.divInt (by decide) (by decide) (by decide)) (by decide))
  have eA : Φ "_law_add" [encQ (xs.getD a 0), encQ mv] = .ok (.frz (encQ (xs.getD a 0 + mv))) := q2 (xs.getD a 0) mv (B10.mono (by decide)) (Bm.mono (by decide))
  have eB : Φ "_law_add" [encQ ((xs.set a (xs.getD a 0 + mv)).getD b 0), encQ (-mv)] = .ok (.frz (encQ ((xs.set a (xs.getD a 0 + mv)).getD b 0 + -mv))) := q2 ((xs.set a (xs.getD a 0 + mv)).getD b 0) (-mv) (B18.mono (by decide)) (Bm.neg.mono (by decide))
  have x1 := ix_nat rfl (show a < xs.length from m1)
  have x2 := ix_nat rfl (show b < xs.length from m2)
  have ok0 : MixOk 24 (xs.set a (xs.getD a 0 + Rat.divInt 1 10)) := ⟨bset (fun x h => (hx.bd x h).mono (by decide)) ((B10.add (Bd.divInt (n := 4) (by decide) (by decide) (by decide))).mono (by decide)), by rw [List.length_set]; omega⟩
  have ok1 : MixOk 24 ((xs.set a (xs.getD a 0 + mv)).set b ((xs.set a (xs.getD a 0 + mv)).getD b 0 + -mv)) := ⟨bset (fun x h => (B17 x h).mono (by decide)) ((B18.add Bm.neg).mono (by decide)), by rw [List.length_set, List.length_set]; omega⟩
  have ok6 : MixOk 24 xs.dropLast := ⟨fun x h => (hx.bd x ((List.dropLast_sublist xs).subset h)).mono (by decide), by rw [List.length_dropLast]; omega⟩
  have ok7 : MixOk 24 (xs ++ [0]) := ⟨fun x h => by
    rcases List.mem_append.mp h with h | h
    · exact (hx.bd x h).mono (by decide)
    · simp only [List.mem_singleton] at h; subst h; exact Bd.zero (by decide), by rw [List.length_append]; simp; omega⟩
  have hzl : zs.length = xs.length := by
    simp only [isMix, Bool.and_eq_true, decide_eq_true_eq] at hzm
    exact hzm.1.1
  have ok8 : MixOk 24 zs := hz.mono (by decide) (by omega)
  have ok9 : MixOk 24 xs := hx.mono (by decide) (by omega)
  have d6 : (encX xs).dropLast = encX xs.dropLast := by simp [encX, List.map_dropLast]
  have hne : ¬ encX xs = [] := by
    intro h
    have h2 := congrArg List.length h
    rw [encX_len, List.length_nil] at h2
    omega
  have d7 : encX xs ++ [encQ 0] = encX (xs ++ [0]) := by simp [encX]
  have hlim : xs.length < lim := by unfold lim; omega
  have s1 : (encX xs).set a (encQ (xs.getD a 0 + mv)) = encX (xs.set a (xs.getD a 0 + mv)) := encX_set.symm
  have s0 : (encX xs).set a (encQ (xs.getD a 0 + Rat.divInt 1 10)) = encX (xs.set a (xs.getD a 0 + Rat.divInt 1 10)) := encX_set.symm
  have s2 : (encX (xs.set a (xs.getD a 0 + mv))).set b (encQ ((xs.set a (xs.getD a 0 + mv)).getD b 0 + -mv)) = encX ((xs.set a (xs.getD a 0 + mv)).set b ((xs.set a (xs.getD a 0 + mv)).getD b 0 + -mv)) := encX_set.symm
  generalize (xs.set a (xs.getD a 0 + mv)).set b ((xs.set a (xs.getD a 0 + mv)).getD b 0 + -mv) = Y1 at *
  generalize (xs.set a (xs.getD a 0 + mv)).getD b 0 + -mv = u1 at *
  generalize xs.set a (xs.getD a 0 + Rat.divInt 1 10) = Y0 at *
  generalize (xs.set a (xs.getD a 0 + mv)).getD b 0 = u2 at *
  generalize xs.set a (xs.getD a 0 + mv) = Y2 at *
  generalize xs.getD a 0 + Rat.divInt 1 10 = u3 at *
  generalize xs.getD a 0 + mv = u4 at *
  generalize xs.getD a 0 = u5 at *
  generalize Rat.divInt 1 10 = tn at *
  have fin : ∀ ys, MixOk 24 ys → evD Φ G W 2 7 ir_law_changed [.lst (encN r), .lst (encX xs)] = .ok (.fl (encX ys)) → ∃ ys, MixOk 24 ys ∧ evD Φ G W 2 7 ir_law_changed [.lst (encN r), .lst (encX xs)] = .ok (.fl (encX ys)) := fun ys h e => ⟨ys, h, e⟩
  rcases (show f = 0 ∨ f = 1 ∨ f = 2 ∨ f = 3 ∨ f = 4 ∨ f = 5 ∨ f = 6 ∨ f = 7 ∨ f = 8 ∨ f = 9 ∨ f = 10 ∨ f = 11 by omega) with h | h | h | h | h | h | h | h | h | h | h | h <;> subst h
  · refine fin Y0 ok0 ?_
    rw [evD_eq (by rfl)]
    simp -implicitDefEqProofs [-List.getD_eq_getElem?_getD, ir_law_changed, ir_law_changed_t1, a0, a1, a2, a3, b0, b1, b2, b3, e40, p1, p2, t1, t0, e10, eA, eB, x1, x2, hl2, s0, s1, s2, n0, n1, ng, d6, hne, d7, hlim, hcut, eM]
  · refine fin Y1 ok1 ?_
    rw [evD_eq (by rfl)]
    simp -implicitDefEqProofs [-List.getD_eq_getElem?_getD, ir_law_changed, ir_law_changed_t1, a0, a1, a2, a3, b0, b1, b2, b3, e40, p1, p2, t1, t0, e10, eA, eB, x1, x2, hl2, s0, s1, s2, n0, n1, ng, d6, hne, d7, hlim, hcut, eM]
  · refine fin Y1 ok1 ?_
    rw [evD_eq (by rfl)]
    simp -implicitDefEqProofs [-List.getD_eq_getElem?_getD, ir_law_changed, ir_law_changed_t1, a0, a1, a2, a3, b0, b1, b2, b3, e40, p1, p2, t1, t0, e10, eA, eB, x1, x2, hl2, s0, s1, s2, n0, n1, ng, d6, hne, d7, hlim, hcut, eM]
  · refine fin Y1 ok1 ?_
    rw [evD_eq (by rfl)]
    simp -implicitDefEqProofs [-List.getD_eq_getElem?_getD, ir_law_changed, ir_law_changed_t1, a0, a1, a2, a3, b0, b1, b2, b3, e40, p1, p2, t1, t0, e10, eA, eB, x1, x2, hl2, s0, s1, s2, n0, n1, ng, d6, hne, d7, hlim, hcut, eM]
  · refine fin Y1 ok1 ?_
    rw [evD_eq (by rfl)]
    simp -implicitDefEqProofs [-List.getD_eq_getElem?_getD, ir_law_changed, ir_law_changed_t1, a0, a1, a2, a3, b0, b1, b2, b3, e40, p1, p2, t1, t0, e10, eA, eB, x1, x2, hl2, s0, s1, s2, n0, n1, ng, d6, hne, d7, hlim, hcut, eM]
  · refine fin Y1 ok1 ?_
    rw [evD_eq (by rfl)]
    simp -implicitDefEqProofs [-List.getD_eq_getElem?_getD, ir_law_changed, ir_law_changed_t1, a0, a1, a2, a3, b0, b1, b2, b3, e40, p1, p2, t1, t0, e10, eA, eB, x1, x2, hl2, s0, s1, s2, n0, n1, ng, d6, hne, d7, hlim, hcut, eM]
  · refine fin xs.dropLast ok6 ?_
    rw [evD_eq (by rfl)]
    simp -implicitDefEqProofs [-List.getD_eq_getElem?_getD, ir_law_changed, ir_law_changed_t1, a0, a1, a2, a3, b0, b1, b2, b3, e40, p1, p2, t1, t0, e10, eA, eB, x1, x2, hl2, s0, s1, s2, n0, n1, ng, d6, hne, d7, hlim, hcut, eM]
  · refine fin (xs ++ [0]) ok7 ?_
    rw [evD_eq (by rfl)]
    simp -implicitDefEqProofs [-List.getD_eq_getElem?_getD, ir_law_changed, ir_law_changed_t1, a0, a1, a2, a3, b0, b1, b2, b3, e40, p1, p2, t1, t0, e10, eA, eB, x1, x2, hl2, s0, s1, s2, n0, n1, ng, d6, hne, d7, hlim, hcut, eM]
  · refine fin zs ok8 ?_
    rw [evD_eq (by rfl)]
    simp -implicitDefEqProofs [-List.getD_eq_getElem?_getD, ir_law_changed, ir_law_changed_t1, a0, a1, a2, a3, b0, b1, b2, b3, e40, p1, p2, t1, t0, e10, eA, eB, x1, x2, hl2, s0, s1, s2, n0, n1, ng, d6, hne, d7, hlim, hcut, eM]
  · refine fin zs ok8 ?_
    rw [evD_eq (by rfl)]
    simp -implicitDefEqProofs [-List.getD_eq_getElem?_getD, ir_law_changed, ir_law_changed_t1, a0, a1, a2, a3, b0, b1, b2, b3, e40, p1, p2, t1, t0, e10, eA, eB, x1, x2, hl2, s0, s1, s2, n0, n1, ng, d6, hne, d7, hlim, hcut, eM]
  · refine fin zs ok8 ?_
    rw [evD_eq (by rfl)]
    simp -implicitDefEqProofs [-List.getD_eq_getElem?_getD, ir_law_changed, ir_law_changed_t1, a0, a1, a2, a3, b0, b1, b2, b3, e40, p1, p2, t1, t0, e10, eA, eB, x1, x2, hl2, s0, s1, s2, n0, n1, ng, d6, hne, d7, hlim, hcut, eM]
  · refine fin xs ok9 ?_
    rw [evD_eq (by rfl)]
    simp -implicitDefEqProofs [-List.getD_eq_getElem?_getD, ir_law_changed, ir_law_changed_t1, a0, a1, a2, a3, b0, b1, b2, b3, e40, p1, p2, t1, t0, e10, eA, eB, x1, x2, hl2, s0, s1, s2, n0, n1, ng, d6, hne, d7, hlim, hcut, eM]
end
end Ev

set_option maxRecDepth 100000
set_option maxHeartbeats 4000000
set_option exponentiation.threshold 200000
/-! The law k14. -/
namespace Ev
open PySem PySem.Spec PyProof.Rows L2
theorem left_snoc {cs hs ss s} : (leftOf cs hs ss).filter (fun w => Sent.allow cs hs w s) = leftOf cs hs (ss ++ [s]) := by
  unfold leftOf
  rw [List.filter_filter]
  congr 1; funext w
  simp [Bool.and_comm]
theorem cmp_Wy_nil {lw : List (List (List Nat))} : cmpD .eq (.lst (encWy lw)) (.lst []) = some (decide (lw = [])) := by
  cases lw with
  | nil => rfl
  | cons a l =>
    have h1 : D.lay 8 (D.lst (encWy (a :: l))) = true := by
      rw [D.lay]
      exact lays_all fun d hd => by
        simp only [encWy, List.mem_map] at hd
        obtain ⟨w, _, rfl⟩ := hd
        exact lay_R
    have h2 : D.lay 8 (D.lst []) = true := rfl
    have h3 : D.eqv (D.lst (encWy (a :: l))) (D.lst []) = false := rfl
    simp [cmpD, h1, h2, h3]
theorem rf_non {t} : rfT (.frz .non) t = [] := by simp [rfT, M.ff, D.flat]
theorem nr_non {t} : nrm (.frz .non, t) = [] := by simp [nrm_eq, M.ff, D.flat]
theorem encSs_snoc {ss : List Sent} {s : Sent} : encSs ss ++ [s.enc] = encSs (ss ++ [s]) := by simp [encSs]
theorem Sent.enc_flat {s : Sent} : s.enc.flat = true := by cases s <;> simp [Sent.enc]
theorem Sent.rf {s : Sent} {t} : rfT (.frz s.enc) t = [] := by simp [rfT, M.ff, Sent.enc_flat]
theorem Sent.nr {s : Sent} {t} : nrm (.frz s.enc, t) = [] := by simp [nrm_eq, M.ff, Sent.enc_flat]
theorem is_ff : cmpD .isN (.bl false) (.bl false) = some true := rfl
theorem isn_tt : cmpD .isNt (.bl true) (.bl true) = some false := rfl
theorem cmp_nn : cmpD .isNt .non .non = some false := rfl
theorem Sent.cmp_non {s : Sent} : cmpD .isNt s.enc .non = some true := by cases s <;> rfl
section
variable {Φ : String → List D → Res M} {G : String → Option D} {W : Nat}
theorem k14_b3 (q0 : S_row (Φ "_law_row")) (qs : S_lsent (Φ "_law_sentence")) (ql : S_lallows (Φ "_law_allows")) (ns : List Int) {cs hs} (s : Shape cs hs) (hk : ways cs hs ≤ 64) (p : Nat) (hp : p < 1000) (ss : List Sent) (hss : ss.length < 100) (ok : ∀ s ∈ ss, Sent.Ok cs hs s) (x6 x7 x8 a9 a10 a11 a12 a13 a14 a15 a16 a17 a18 a19 a20 a21 a22 : Option M) :
    ∃ ss' y6 y7 y8, ss'.length ≤ ss.length + 1 ∧ (∀ s ∈ ss', Sent.Ok cs hs s) ∧
      evSs Φ G W ir_law_b3 [some (.frz (.rol (ns.map .int))), some (.frz (.lst (encN cs))), some (.frz (.lst (encR hs))), some (.fl (encSs ss)), some (.fl (encWy (leftOf cs hs ss))), some (.frz (.int (p : Nat))), x6, x7, x8, a9, a10, a11, a12, a13, a14, a15, a16, a17, a18, a19, a20, a21, a22]
      = .ok (.nx [some (.frz (.rol (ns.map .int))), some (.frz (.lst (encN cs))), some (.frz (.lst (encR hs))), some (.fl (encSs ss')), some (.fl (encWy (leftOf cs hs ss'))), some (.frz (.int (p : Nat))), y6, y7, y8, a9, a10, a11, a12, a13, a14, a15, a16, a17, a18, a19, a20, a21, a22]) := by
  obtain ⟨r, l1, _, e1⟩ := q0 ns p 6 hp (by decide)
  simp only [Int.cast_ofNat_Int] at e1
  have a5 := encN_getD (l := r) (j := 5) (by omega)
  simp only [Int.cast_ofNat_Int] at a5
  have b3 : binR .mod (.int (r.getD 5 0 : Nat), []) (.int 3, []) = .ok (.frz (.int (r.getD 5 0 % 3 : Nat)), []) := by rw [binR_mod (by decide)]; simp
  generalize r.getD 5 0 % 3 = y at *
  generalize r.getD 5 0 = z at *
  rcases qs cs hs s r (by omega) with e2 | ⟨st, sok, e2⟩
  · refine ⟨ss, some (.fl (encN r)), some (.frz .non), x8, by omega, ok, ?_⟩
    simp -implicitDefEqProofs [-List.getD_eq_getElem?_getD, ir_law_b3, e1, e2, rf_non, nr_non, cmp_nn]
  · by_cases hy : y = 0
    · subst hy
      have hlim : ss.length < lim := by unfold lim; omega
      have hll := @left_len cs hs ss
      refine ⟨ss ++ [st], some (.fl (encN r)), some (.frz st.enc), x8, by simp, ?_, ?_⟩
      · intro t ht
        rcases List.mem_append.mp ht with h | h
        · exact ok t h
        · simp only [List.mem_singleton] at h; subst h; exact sok
      · have ec : compGo (.nm 8) (fun g => tv Φ G ir_law_o1 g (ev Φ G ir_law_o1 g)) (fun g => ev Φ G ir_law_e2 g) (encWy (leftOf cs hs ss)) [some (.frz (.rol (ns.map .int))), some (.frz (.lst (encN cs))), some (.frz (.lst (encR hs))), some (.fl (encSs (ss ++ [st]))), some (.fl (encWy (leftOf cs hs ss))), some (.frz (.int (p : Nat))), some (.fl (encN r)), some (.frz st.enc), x8, a9, a10, a11, a12, a13, a14, a15, a16, a17, a18, a19, a20, a21, a22] = .ok (encWy (leftOf cs hs (ss ++ [st]))) := by
          rw [← left_snoc]
          refine compL (leftOf cs hs ss) (fun w => D.lst (encR w)) _ (fun w => D.lst (encR w)) (by unfold lim; omega) fun w hw => ⟨_, rfl, ?_, fun _ => ⟨.frz (.lst (encR w)), [], ?_, nrm_nil _, by simp⟩⟩
          · have := ql cs hs s st sok w (mem_left s hw)
            simp [ir_law_o1, this]
          · simp [ir_law_e2]
        simp -implicitDefEqProofs [-List.getD_eq_getElem?_getD, ir_law_b3, e1, e2, a5, b3, Sent.cmp_non, Sent.rf, Sent.nr, Sent.enc_flat, show (encSs ss).length < lim by simpa [encSs] using hlim, encSs_snoc, ec]
    · have hy' : ¬ (y : Int) = 0 := by omega
      refine ⟨ss, some (.fl (encN r)), some (.frz st.enc), x8, by omega, ok, ?_⟩
      simp -implicitDefEqProofs [-List.getD_eq_getElem?_getD, ir_law_b3, e1, e2, a5, b3, Sent.cmp_non, Sent.rf, Sent.nr, hy, hy']
theorem Pl.Wy14 {cs hs ss} (s : Shape cs hs) (hk : ways cs hs ≤ 64) : Pl 3 (.lst (encWy (leftOf cs hs ss))) := by
  have hll := @left_len cs hs ss
  have hf := s.few
  refine Pl.Wy (by omega) fun w hw => ?_
  have hw' := mem_left s hw
  refine ⟨by rw [hw'.len]; omega, fun x hx => ?_⟩
  obtain ⟨v, hv, rfl⟩ := List.getElem_of_mem hx
  have hv' : v < cs.length := by rw [← hw'.len]; exact hv
  have := hw'.row v hv'
  rw [List.getD_eq_getElem?_getD, List.getElem?_eq_getElem hv] at this
  simp only [Option.getD_some] at this
  rw [this]
  have hl := s.len
  have := (s.rows (show v < hs.length by omega)).2
  rw [s.hat (show v < hs.length by omega)]
  omega
end
end Ev

set_option maxRecDepth 100000
set_option maxHeartbeats 4000000
set_option exponentiation.threshold 200000
/-! The law k14, joined. -/
namespace Ev
open PySem PySem.Spec PyProof.Rows L2
def IsOw14 (m : M) (ds : List D) : Prop := m = .fl ds ∨ m = .frz (.lst ds)
theorem Pl.le14 {n m : Nat} {d : D} (h : Pl n d) (k : n ≤ m) : Pl m d := by
  induction h generalizing m with
  | bl => exact .bl
  | int => exact .int
  | str => exact .str
  | lst hl _ ih => obtain ⟨m, rfl⟩ : ∃ j, m = j + 1 := ⟨m - 1, by omega⟩; exact .lst hl fun d hd => ih d hd (by omega)
  | tup hl _ ih => obtain ⟨m, rfl⟩ : ∃ j, m = j + 1 := ⟨m - 1, by omega⟩; exact .tup hl fun d hd => ih d hd (by omega)
theorem Pl.Q14 {n : Nat} {x : Rat} : Pl (n + 1) (encQ x) := .tup (by simp) (by simp; exact ⟨.int, .int⟩)
theorem Pl.X14 {n : Nat} {xs : List Rat} (h : xs.length < 1000000) : Pl (n + 2) (.lst (encX xs)) := Pl.map h fun x _ => Pl.Q14
theorem Pl.T14 {n : Nat} {cs : List Nat} {hs : List (List Nat)} (s : Shape cs hs) {ts : List Tb} (h : ts.length < 1000000) (ok : ∀ t ∈ ts, TbOk cs t) : Pl (n + 5) (.lst (encT14 ts)) := Pl.map h fun t ht => .tup (by simp) (by
  intro d hd
  simp only [List.mem_cons, List.not_mem_nil, or_false] at hd
  have o := ok t ht
  rcases hd with rfl | rfl | rfl
  · have := o.st.few; have := s.few
    exact (Pl.P (n := n + 1) (by omega))
  · have := o.sn.few s
    exact Pl.N (by omega)
  · have := o.few
    exact Pl.map (n := n + 2) (by omega) fun b _ => .tup (by simp) (by simp; exact ⟨Pl.Q14, Pl.Q14⟩))
theorem tabs_tab {ts : List Tb} : ∀ t ∈ encT14 ts, IsTabF t := fun t ht => by
  obtain ⟨t, _, rfl⟩ := List.mem_map.mp ht
  exact ⟨_, _, _, rfl, flats_map fun _ _ => by simp, flats_map fun _ _ => by simp [D.flat], flats_map fun _ _ => by simp⟩
theorem cn_tabs : ∀ {l : List D}, (∀ t ∈ l, IsTabF t) → cnMs (l.map tabM) = true
  | [], _ => rfl
  | t :: l, h => by
    obtain ⟨a, b, c, rfl, h1, h2, h3⟩ := h t (by simp)
    rw [List.map_cons, cnMs, cn_tabs fun x hx => h x (by simp [hx])]
    simp [tabM, cnM, cnMs, flats_nOws h1, flats_nOws h2, flats_nOws h3]
theorem toDs_tabs : ∀ {l : List D}, (∀ t ∈ l, IsTabF t) → M.toDs (l.map tabM) = l
  | [], _ => rfl
  | t :: l, h => by
    obtain ⟨a, b, c, rfl, h1, h2, h3⟩ := h t (by simp)
    rw [List.map_cons, M.toDs, toDs_tabs fun x hx => h x (by simp [hx])]
    rfl
def js14 : Js := (.cons (.for 13 [14, 15, 16] (.cons (.app 14 (.tup (.cons (.cst (.int 0)) (.cons (.cst (.int 0)) .nil)))) (.cons (.app 15 (.cst (.int 0))) (.cons (.app 16 (.tup (.cons (.tup (.cons (.cst (.int 0)) (.cons (.cst (.int 1)) .nil))) (.cons (.tup (.cons (.cst (.int 0)) (.cons (.cst (.int 1)) .nil))) .nil)))) .nil)))) (.cons (.app 13 (.tup (.cons (.lst .nil) (.cons (.lst (.cons (.cst (.int 0)) .nil)) (.cons (.lst .nil) .nil))))) .nil))
def t14a : Ss := .wrk 13 js14 ir_law_t2
section
variable {Φ : String → List D → Res M} {G : String → Option D} {W : Nat}
theorem js14_ok (g : Gm) (hg : g.length = 23) {cs : List Nat} {hs : List (List Nat)} (s : Shape cs hs) {ts : List Tb} (ok : ∀ t ∈ ts, TbOk cs t) (hl : ts.length ≤ 10) : ∃ env', jRuns Φ G g js14 [(13, .own (.lst ((encT14 ts).map tabM)))] = .ok env' := by
  have hsf := s.few
  have hF : jFor (jRuns Φ G g (.cons (.app 14 (.tup (.cons (.cst (.int 0)) (.cons (.cst (.int 0)) .nil)))) (.cons (.app 15 (.cst (.int 0))) (.cons (.app 16 (.tup (.cons (.tup (.cons (.cst (.int 0)) (.cons (.cst (.int 1)) .nil))) (.cons (.tup (.cons (.cst (.int 0)) (.cons (.cst (.int 1)) .nil))) .nil)))) .nil)))) [14, 15, 16] ((encT14 ts).map tabM) = .ok () := by
    refine jFor_ok fun m hm => ?_
    obtain ⟨d, hd, rfl⟩ := List.mem_map.mp hm
    obtain ⟨t, ht, rfl⟩ := List.mem_map.mp hd
    have o := ok t ht
    have h1 := o.st.few
    have h2 := o.sn.few s
    have h3 := o.few
    have l1 : t.st.length < lim := by unfold lim; omega
    have l2 : t.sn.length < lim := by unfold lim; omega
    have l3 : t.bs.length < lim := by unfold lim; omega
    refine ⟨[.fl (encP t.st), .fl (encN t.sn), .fl (encB14 t.bs)], [(16, .spine (t.bs.length + 1)), (15, .spine (t.sn.length + 1)), (14, .spine (t.st.length + 1))], rfl, rfl, ?_⟩
    simp [jRuns, jRun, jLook, jDrop, Jv.len, encB14, l1, l2, l3]
  have hnt : ((encT14 ts).map tabM).length < lim := by simp [encT14]; unfold lim; omega
  have hnt2 : ts.length < lim := by unfold lim; omega
  refine ⟨[(13, .spine (ts.length + 1))], ?_⟩
  have k1 : jRun Φ G g (.for 13 [14, 15, 16] (.cons (.app 14 (.tup (.cons (.cst (.int 0)) (.cons (.cst (.int 0)) .nil)))) (.cons (.app 15 (.cst (.int 0))) (.cons (.app 16 (.tup (.cons (.tup (.cons (.cst (.int 0)) (.cons (.cst (.int 1)) .nil))) (.cons (.tup (.cons (.cst (.int 0)) (.cons (.cst (.int 1)) .nil))) .nil)))) .nil)))) [(13, .own (.lst ((encT14 ts).map tabM)))] = .ok [(13, .spine ts.length)] := by
    rw [jRun]
    simp only [jLook, if_true]
    rw [if_pos ⟨by decide, by simp [Js.nms, J.nms, hg]⟩, hF]
    simp [jDrop, encT14]
  rw [js14, jRuns, k1]
  simp [jRuns, jRun, jLook, jDrop, Jv.len, hnt2]
/-- one table more -/
theorem k14_b2 (q0 : S_row (Φ "_law_row")) (qt : S_table14 (Φ "_law_table")) (ns : List Int) {cs hs} (s : Shape cs hs) {lw : List (List (List Nat))} (hlw : ∀ w ∈ lw, Way cs hs w) (hll : lw.length ≤ 64) {xs : List Rat} (hx : MixOk 10 xs) (hl : xs.length = lw.length) (k : Nat) (hk : k < 10) (ts : List Tb) (hts : ts.length ≤ 10) (m4 m10 : M) (i4 : IsOw14 m4 (encWy lw)) (i10 : IsOw14 m10 (encX xs)) (x3 x5 x6 x7 x8 x9 x13 x14 x15 x16 x17 x18 x19 x20 x21 x22 : Option M) :
    ∃ t n4 n10, TbOk cs t ∧ IsOw14 n4 (encWy lw) ∧ IsOw14 n10 (encX xs) ∧
      evSs Φ G W ir_law_b2 [some (.frz (.rol (ns.map .int))), some (.frz (.lst (encN cs))), some (.frz (.lst (encR hs))), x3, some m4, x5, x6, x7, x8, x9, some m10, some (.fl (encT14 ts)), some (.frz (.int (k : Nat))), x13, x14, x15, x16, x17, x18, x19, x20, x21, x22]
      = .ok (.nx [some (.frz (.rol (ns.map .int))), some (.frz (.lst (encN cs))), some (.frz (.lst (encR hs))), x3, some n4, x5, x6, x7, x8, x9, some n10, some (.fl (encT14 (ts ++ [t]))), some (.frz (.int (k : Nat))), x13, x14, x15, x16, x17, x18, x19, x20, x21, x22]) := by
  obtain ⟨r, l1, _, e1⟩ := q0 ns (5 + k) 21 (by omega) (by decide)
  have hc : ((5 + k : Nat) : Int) = 5 + (k : Int) := by omega
  rw [hc] at e1
  simp only [Int.cast_ofNat_Int] at e1
  obtain ⟨t, tok, e2⟩ := qt cs hs s lw hlw hll r (by omega) xs hx hl
  have htf : t.enc.flat = false := rfl
  have rft : ∀ T, rfT (.frz t.enc) T = T := fun T => by simp [rfT, M.ff, htf]
  have nrt : ∀ T, nrm (.frz t.enc, T) = T := fun T => by simp [nrm_eq, M.ff, htf]
  have hlim : ts.length < lim := by unfold lim; omega
  have hsn : encT14 (ts ++ [t]) = encT14 ts ++ [t.enc] := by simp [encT14]
  have hlm : (encT14 ts).length = ts.length := by simp [encT14]
  rcases i4 with rfl | rfl <;> rcases i10 with rfl | rfl
  · refine ⟨t, .frz (.lst (encWy lw)), .frz (.lst (encX xs)), tok, .inr rfl, .inr rfl, ?_⟩
    rw [hsn]
    simp -implicitDefEqProofs [-List.getD_eq_getElem?_getD, ir_law_b2, e1, e2, rft, nrt, hlim, hlm]
  · refine ⟨t, .frz (.lst (encWy lw)), .frz (.lst (encX xs)), tok, .inr rfl, .inr rfl, ?_⟩
    rw [hsn]
    simp -implicitDefEqProofs [-List.getD_eq_getElem?_getD, ir_law_b2, e1, e2, rft, nrt, hlim, hlm]
  · refine ⟨t, .frz (.lst (encWy lw)), .frz (.lst (encX xs)), tok, .inr rfl, .inr rfl, ?_⟩
    rw [hsn]
    simp -implicitDefEqProofs [-List.getD_eq_getElem?_getD, ir_law_b2, e1, e2, rft, nrt, hlim, hlm]
  · refine ⟨t, .frz (.lst (encWy lw)), .frz (.lst (encX xs)), tok, .inr rfl, .inr rfl, ?_⟩
    rw [hsn]
    simp -implicitDefEqProofs [-List.getD_eq_getElem?_getD, ir_law_b2, e1, e2, rft, nrt, hlim, hlm]
/-- one mix judged -/
theorem k14_b1 (q0 : S_row (Φ "_law_row")) (qc : S_changed14 (Φ "_law_changed")) (q1 : S_is_mix (Φ "is_mix")) (q2 : S_agr14 (Φ "agrees")) (q3 : S_same 5 (Φ "_law_same")) (q4 : S_lmix14 (Φ "_law_is_mix")) (q5 : S_lagr14 (Φ "_law_agrees")) (ns : List Int) {cs hs} (s : Shape cs hs) (hk : ways cs hs ≤ 32) (ss : List Sent) {nm ws} (ec : cnts ws = cs) (H : House nm ws hs) (ts : List Tb) (tok : ∀ t ∈ ts, TbOk cs t) {xs : List Rat} (hx : MixOk 10 xs) (hl0 : 0 < xs.length) (hl : xs.length ≤ 32) (p : Nat) (hp : p < 1000) (m4 m10 m11 : M) (i4 : IsOw14 m4 (encWy (leftOf cs hs ss))) (i10 : IsOw14 m10 (encX xs)) (i11 : IsOw14 m11 (encT14 ts)) (x3 x6 x7 x8 x9 x12 x13 x14 x15 x16 x18 x19 x20 x21 x22 : Option M) :
    ∃ y18 y19 y20 y21 y22,
      evSs Φ G W ir_law_b1 [some (.frz (.rol (ns.map .int))), some (.frz (.lst (encN cs))), some (.frz (.lst (encR hs))), x3, some m4, some (.frz (.int (p : Nat))), x6, x7, x8, x9, some m10, some m11, x12, x13, x14, x15, x16, some (.frz (encDa nm ws hs ss (encT14 ts))), x18, x19, x20, x21, x22]
      = .ok (.nx [some (.frz (.rol (ns.map .int))), some (.frz (.lst (encN cs))), some (.frz (.lst (encR hs))), x3, some m4, some (.frz (.int (p : Nat))), x6, x7, x8, x9, some m10, some m11, x12, x13, x14, x15, x16, some (.frz (encDa nm ws hs ss (encT14 ts))), y18, y19, y20, y21, y22]) := by
  obtain ⟨r, l1, _, e1⟩ := q0 ns p 70 hp (by decide)
  simp only [Int.cast_ofNat_Int] at e1
  obtain ⟨ys, hy, e2⟩ := qc r (by omega) xs hx hl0 hl
  have e3 := q1 nm ws hs ss (encT14 ts) 24 ys hy
  have e4 := q2 nm ws hs cs ss ts ec H (by omega) tok 24 ys hy
  have hyf := hy.few
  have e5 := q3 _ ((Pl.X14 (n := 0) (xs := ys) (by omega)).le14 (show 2 ≤ 5 by decide))
  have e6 := q4 (leftOf cs hs ss) 24 ys hy
  rw [ec] at e3
  cases hm : isMix (leftOf cs hs ss).length ys with
  | false =>
    rw [hm] at e3 e4 e6
    rw [Bool.false_and] at e4
    refine ⟨some (.fl (encX ys)), some (.fl (encX ys)), some (.frz (.bl false)), some (.frz (.bl false)), some (.frz (.bl false)), ?_⟩
    rcases i4 with rfl | rfl <;> rcases i10 with rfl | rfl <;> rcases i11 with rfl | rfl <;>
      simp -implicitDefEqProofs [-List.getD_eq_getElem?_getD, ir_law_b1, e1, e2, e3, e4, e5, e6, cmpD, D.sc, D.eqv]
  | true =>
    have hyl : ys.length = (leftOf cs hs ss).length := by
      simp only [isMix, Bool.and_eq_true, decide_eq_true_eq] at hm
      exact hm.1.1
    have e7 := q5 cs hs s (leftOf cs hs ss) (fun w hw => mem_left s hw) ts tok 24 ys hy hyl
    rw [hm] at e3 e4 e6
    rw [Bool.true_and] at e4
    generalize tabsB cs hs (leftOf cs hs ss) ts ys = B at *
    refine ⟨some (.fl (encX ys)), some (.fl (encX ys)), some (.frz (.bl true)), some (.frz (.bl B)), some (.frz (.bl true)), ?_⟩
    cases B <;> rcases i4 with rfl | rfl <;> rcases i10 with rfl | rfl <;> rcases i11 with rfl | rfl <;>
      simp -implicitDefEqProofs [-List.getD_eq_getElem?_getD, ir_law_b1, e1, e2, e3, e4, e5, e6, e7, cmpD, D.sc, D.eqv]
theorem law_k14 (ns : List Int) (q0 : S_row (Φ "_law_row")) (q1 : S_shape (Φ "_law_shape")) (q2 : S_plain (Φ "_law_plain")) (q3 : S_made (Φ "_law_made")) (q4 : S_ways (Φ "_law_ways")) (q5 : S_lsent (Φ "_law_sentence")) (q6 : S_lallows (Φ "_law_allows")) (q7 : S_Data (Φ "Data")) (qK : S_DataK (Φ "!Data")) (qs : S_same 5 (Φ "_law_same"))
    (qm : S_is_mix (Φ "is_mix")) (qa : S_agr14 (Φ "agrees")) (ql : S_mix (Φ "_law_mix")) (qt : S_table14 (Φ "_law_table")) (qc : S_changed14 (Φ "_law_changed")) (qlm : S_lmix14 (Φ "_law_is_mix")) (qla : S_lagr14 (Φ "_law_agrees")) : evD Φ G W 1 23 ir_law [.rol (ns.map .int)] = .ok (.frz (.bl true)) := by
  obtain ⟨cs, hs, s, hk, e1⟩ := q1 ns 0 32 (by decide) (by omega)
  simp only [Int.ofNat_zero, Int.cast_ofNat_Int] at e1
  have H := house_P s
  have ec := cnts_P s
  have hl := s.len
  have hf := s.few
  have hwl : (wsP cs).length = cs.length := by simp [wsP]
  have e2 := q4 cs hs s (by omega)
  have hl0 : leftOf cs hs [] = waysOf cs hs := by unfold leftOf; simp
  rw [← hl0] at e2
  obtain ⟨ss1, x6, x7, x8, n1, ok1, e3⟩ := k14_b3 (Φ := Φ) (G := G) (W := W) q0 q5 q6 ns s (by omega) 1 (by decide) [] (by simp) (by simp) none none none none none none none none none none none none none none none none none
  obtain ⟨ss, y6, y7, y8, n2, ok2, e4⟩ := k14_b3 (Φ := Φ) (G := G) (W := W) q0 q5 q6 ns s (by omega) 2 (by decide) ss1 (by simp at n1; omega) ok1 x6 x7 x8 none none none none none none none none none none none none none none
  simp only [List.length_nil, Nat.zero_add] at n1
  simp only [Int.cast_ofNat_Int] at e3 e4
  have enil : encSs [] = [] := rfl
  rw [enil] at e3
  have eL : forGo (.nm 5) (fun g => evSs Φ G W ir_law_b3 g) [.int 1, .int 2] [some (.frz (.rol (ns.map .int))), some (.frz (.lst (encN cs))), some (.frz (.lst (encR hs))), some (.fl []), some (.fl (encWy (leftOf cs hs []))), none, none, none, none, none, none, none, none, none, none, none, none, none, none, none, none, none, none]
      = .ok (.nx [some (.frz (.rol (ns.map .int))), some (.frz (.lst (encN cs))), some (.frz (.lst (encR hs))), some (.fl (encSs ss)), some (.fl (encWy (leftOf cs hs ss))), some (.frz (.int 2)), y6, y7, y8, none, none, none, none, none, none, none, none, none, none, none, none, none, none]) := by
    rw [forGo_step (g1 := [some (.frz (.rol (ns.map .int))), some (.frz (.lst (encN cs))), some (.frz (.lst (encR hs))), some (.fl (encSs ss1)), some (.fl (encWy (leftOf cs hs ss1))), some (.frz (.int 1)), x6, x7, x8, none, none, none, none, none, none, none, none, none, none, none, none, none, none]) (by simpa using e3)]
    rw [forGo_step (g1 := [some (.frz (.rol (ns.map .int))), some (.frz (.lst (encN cs))), some (.frz (.lst (encR hs))), some (.fl (encSs ss)), some (.fl (encWy (leftOf cs hs ss))), some (.frz (.int 2)), y6, y7, y8, none, none, none, none, none, none, none, none, none, none, none, none, none, none]) (by simpa using e4)]
    rfl
  have e5 := q2 cs hs s
  have e6 := q3 (nmP cs) (wsP cs) hs (by omega) (by omega)
  have e7 := q7 (nmP cs) (wsP cs) hs H (by rw [ec]; omega) ss (by omega) (by rw [ec]; exact ok2) [] (by simp) (by simp)
  have hll := @left_len cs hs ss
  have hfo : (encHo (nmP cs) (wsP cs) hs).flat = false := by simp [encHo, D.flat]
  have rfo : ∀ T, rfT (.frz (encHo (nmP cs) (wsP cs) hs)) T = T := fun T => by simp [rfT, M.ff, hfo]
  have nro : ∀ T, nrm (.frz (encHo (nmP cs) (wsP cs) hs), T) = T := fun T => by simp [nrm_eq, M.ff, hfo]
  have h3 : (encH3 (nmP cs) (wsP cs) hs).flat = false := by simp [encH3]
  have hfd : ∀ td, (encDa (nmP cs) (wsP cs) hs ss td).flat = false := fun _ => rfl
  have rfd : ∀ td T, rfT (.frz (encDa (nmP cs) (wsP cs) hs ss td)) T = T := fun td T => by simp [rfT, M.ff, hfd]
  have nrd : ∀ td T, nrm (.frz (encDa (nmP cs) (wsP cs) hs ss td), T) = T := fun td T => by simp [nrm_eq, M.ff, hfd]
  have cwn := @cmp_Wy_nil (leftOf cs hs ss)
  by_cases hne : leftOf cs hs ss = []
  · have em := qa (nmP cs) (wsP cs) hs cs ss [] ec H (by omega) (by simp) 10 [] ⟨by simp, by simp⟩
    rw [hne] at em
    have hm0 : isMix ([] : List (List (List Nat))).length [] = false := by simp [isMix]
    rw [hm0, show encX [] = [] from rfl, show encT14 [] = [] from rfl, Bool.false_and] at em
    rw [hne] at cwn
    rw [hne] at eL
    have hd3 : encWy ([] : List (List (List Nat))) = [] := rfl
    rw [evD_eq (by rfl)]
    simp -implicitDefEqProofs [-List.getD_eq_getElem?_getD, ir_law, e1, e2, eL, e5, h3, e6, hfo, rfo, nro, e7, rfd, nrd, ec, hne, cwn, em, is_ff]
  · have hpos : 0 < (leftOf cs hs ss).length := List.length_pos_iff.mpr hne
    obtain ⟨r, l1, _, e9⟩ := q0 ns 3 64 (by decide) (by decide)
    obtain ⟨r4, l4, _, e94⟩ := q0 ns 4 1 (by decide) (by decide)
    simp only [Int.cast_ofNat_Int, Int.natCast_one] at e9 e94
    have a40 := encN_getD (l := r4) (j := 0) (by omega)
    simp only [Int.ofNat_zero, Int.cast_ofNat_Int] at a40
    have b6 := mod14 (a := r4.getD 0 0) (b := 6) (c := 6) rfl (by decide) (T := []) (U := [])
    have hm6 : r4.getD 0 0 % 6 < 6 := Nat.mod_lt _ (by decide)
    generalize r4.getD 0 0 % 6 = many at *
    generalize r4.getD 0 0 = z4 at *
    obtain ⟨xs, hx, hm, e10⟩ := ql r (leftOf cs hs ss).length hpos (by omega) (by omega)
    have hxl : xs.length = (leftOf cs hs ss).length := by
      simp only [isMix, Bool.and_eq_true, decide_eq_true_eq] at hm
      exact hm.1.1
    have hlw : ∀ w ∈ leftOf cs hs ss, Way cs hs w := fun w hw => mem_left s hw
    obtain ⟨g', eT, ts, m4, m10, x12, t1, tok, i4, i10, hg'⟩ := forN (i := 12) (f := fun g => evSs Φ G W ir_law_b2 g) many
      (fun i g => ∃ (ts : List Tb) (m4 m10 : M) (x12 : Option M), ts.length = i ∧ (∀ t ∈ ts, TbOk cs t) ∧ IsOw14 m4 (encWy (leftOf cs hs ss)) ∧ IsOw14 m10 (encX xs) ∧ g = [some (.frz (.rol (ns.map .int))), some (.frz (.lst (encN cs))), some (.frz (.lst (encR hs))), some (.fl (encSs ss)), some m4, some (.frz (.int 2)), y6, y7, y8, some (.frz (encHo (nmP cs) (wsP cs) hs)), some m10, some (.fl (encT14 ts)), x12, none, none, none, none, none, none, none, none, none, none])
      (g := [some (.frz (.rol (ns.map .int))), some (.frz (.lst (encN cs))), some (.frz (.lst (encR hs))), some (.fl (encSs ss)), some (.fl (encWy (leftOf cs hs ss))), some (.frz (.int 2)), y6, y7, y8, some (.frz (encHo (nmP cs) (wsP cs) hs)), some (.fl (encX xs)), some (.fl []), none, none, none, none, none, none, none, none, none, none, none]) ⟨[], _, _, none, rfl, by simp, .inl rfl, .inl rfl, rfl⟩ (by
        rintro i hi g ⟨ts, m4, m10, x12, t1, tok, i4, i10, rfl⟩
        obtain ⟨t, n4, n10, to, j4, j10, e'⟩ := k14_b2 (Φ := Φ) (G := G) (W := W) q0 qt ns s hlw (by omega) hx hxl i (by omega) ts (by omega) m4 m10 i4 i10 (some (.fl (encSs ss))) (some (.frz (.int 2))) y6 y7 y8 (some (.frz (encHo (nmP cs) (wsP cs) hs))) none none none none none none none none none none
        refine ⟨_, e', ts ++ [t], n4, n10, some (.frz (.int (i : Nat))), by simp [t1], fun z hz => ?_, j4, j10, rfl⟩
        rcases List.mem_append.mp hz with h | h
        · exact tok z h
        · simp only [List.mem_singleton] at h; subst h; exact to)
    subst hg'
    have hrg : rngR (.int (many : Nat)) = .ok (rngD 0 many, []) := rngR_nat (by omega)
    have tab := @tabs_tab ts
    have ec13 : ∀ g : Gm, g.length = 23 → compOGo (.tp [14, 15, 16]) (fun g => ev Φ G ir_law_e1 g) (encT14 ts) g = .ok ((encT14 ts).map tabM) := fun g hg =>
      compOGo_eq tabM (encT14 ts) (by simp [encT14]; unfold lim; omega) fun d hd => by
        obtain ⟨t, ht, rfl⟩ := List.mem_map.mp hd
        exact ⟨_, rfl, [], by simp [ir_law_e1, Tb.enc, tabM, List.getElem?_set, hg], nrm_nil _⟩
    have eK := qK (nmP cs) (wsP cs) hs H (by rw [ec]; omega) ss (by omega) (by rw [ec]; exact ok2) (encT14 ts) (by simp [encT14]; omega) tab
    have hcn := cn_tabs tab
    have htd := toDs_tabs tab
    have hknp : knp "!Data" = 2 := by decide +kernel
    obtain ⟨env', hj⟩ := js14_ok (Φ := Φ) (G := G) [some (.frz (.rol (ns.map .int))), some (.frz (.lst (encN cs))), some (.frz (.lst (encR hs))), some (.fl (encSs ss)), some m4, some (.frz (.int 2)), y6, y7, y8, some (.frz (encHo (nmP cs) (wsP cs) hs)), some m10, some (.fl (encT14 ts)), x12, none, none, none, none, some (.frz (encDa (nmP cs) (wsP cs) hs ss (encT14 ts))), none, none, none, none, none] rfl s tok (by omega)
    unfold js14 at hj
    have e11 := qs _ (Pl.T14 (n := 0) s (ts := ts) (by omega) tok)
    have fin : ∀ m11, IsOw14 m11 (encT14 ts) → ∃ z18 z19 z20 z21 z22, forGo (.nm 5) (fun g => evSs Φ G W ir_law_b1 g) (rngD 11 17) [some (.frz (.rol (ns.map .int))), some (.frz (.lst (encN cs))), some (.frz (.lst (encR hs))), some (.fl (encSs ss)), some m4, some (.frz (.int 2)), y6, y7, y8, some (.frz (encHo (nmP cs) (wsP cs) hs)), some m10, some m11, x12, none, none, none, none, some (.frz (encDa (nmP cs) (wsP cs) hs ss (encT14 ts))), none, none, none, none, none]
        = .ok (.nx [some (.frz (.rol (ns.map .int))), some (.frz (.lst (encN cs))), some (.frz (.lst (encR hs))), some (.fl (encSs ss)), some m4, some (.frz (.int 16)), y6, y7, y8, some (.frz (encHo (nmP cs) (wsP cs) hs)), some m10, some m11, x12, none, none, none, none, some (.frz (encDa (nmP cs) (wsP cs) hs ss (encT14 ts))), z18, z19, z20, z21, z22]) := fun m11 i11 => by
      obtain ⟨g', e, h5, z18, z19, z20, z21, z22, hg⟩ := forN2 (i := 5) (f := fun g => evSs Φ G W ir_law_b1 g) 11 17 (by omega)
        (fun j g => ∃ x5 z18 z19 z20 z21 z22, g = [some (.frz (.rol (ns.map .int))), some (.frz (.lst (encN cs))), some (.frz (.lst (encR hs))), some (.fl (encSs ss)), some m4, some (.frz (.int (x5 : Nat))), y6, y7, y8, some (.frz (encHo (nmP cs) (wsP cs) hs)), some m10, some m11, x12, none, none, none, none, some (.frz (encDa (nmP cs) (wsP cs) hs ss (encT14 ts))), z18, z19, z20, z21, z22] ∧ (11 < j → x5 = j - 1))
        (g := [some (.frz (.rol (ns.map .int))), some (.frz (.lst (encN cs))), some (.frz (.lst (encR hs))), some (.fl (encSs ss)), some m4, some (.frz (.int ((2 : Nat) : Int))), y6, y7, y8, some (.frz (encHo (nmP cs) (wsP cs) hs)), some m10, some m11, x12, none, none, none, none, some (.frz (encDa (nmP cs) (wsP cs) hs ss (encT14 ts))), none, none, none, none, none]) ⟨2, none, none, none, none, none, rfl, by omega⟩ (by
          rintro j hj1 hj2 g ⟨x5, z18, z19, z20, z21, z22, rfl, _⟩
          obtain ⟨w18, w19, w20, w21, w22, e'⟩ := k14_b1 (Φ := Φ) (G := G) (W := W) q0 qc qm qa qs qlm qla ns s hk ss ec H ts tok hx (by omega) (by omega) j (by omega) m4 m10 m11 i4 i10 i11 (some (.fl (encSs ss))) y6 y7 y8 (some (.frz (encHo (nmP cs) (wsP cs) hs))) x12 none none none none z18 z19 z20 z21 z22
          exact ⟨_, e', j, w18, w19, w20, w21, w22, rfl, by omega⟩)
      obtain ⟨hg, hx5⟩ := hg
      have := hx5 (by decide)
      subst this
      subst hg
      exact ⟨z18, z19, z20, z21, z22, e⟩
    have hr2 : rng2R (.int 11) (.int 17) = .ok (rngD 11 17, []) := rng2R_i (by omega) (by omega)
    obtain ⟨z18, z19, z20, z21, z22, eF⟩ := fin _ (.inl rfl)
    obtain ⟨v18, v19, v20, v21, v22, eG⟩ := fin _ (.inr rfl)
    have hcn1 : cnMs [.lst ((encT14 ts).map tabM)] = true := by simp only [cnMs, cnM, hcn, Bool.and_true]
    have htd1 : M.toDs [.lst ((encT14 ts).map tabM)] = [.lst (encT14 ts)] := by simp only [M.toDs, M.toD, htd]
    rw [evD_eq (by rfl)]
    simp -implicitDefEqProofs [-List.getD_eq_getElem?_getD, ir_law, ir_law_t1, ir_law_t2, e1, e2, eL, e5, h3, e6, hfo, rfo, nro, ec, hne, cwn, e9, e10, e94, a40, b6, hrg, eT, ec13, hknp, hcn1, htd1, eK, rfd, nrd, hj, e11, hr2, eF, eG]
end
end Ev

set_option maxRecDepth 100000
set_option maxHeartbeats 4000000
namespace Ev
open PySem PySem.Spec PyProof.Rows L2
/-- the table -/
def TT : String → Option DefI
  | "ratio" => some d_ratio
  | "add" => some d_add
  | "less" => some d_less
  | "at_most" => some d_at_most
  | "added" => some d_added
  | "size" => some d_size
  | "place" => some d_place
  | "row_at" => some d_row_at
  | "heard_bounds" => some d_heard_bounds
  | "way_count" => some d_way_count
  | "way_at" => some d_way_at
  | "all_ways" => some d_all_ways
  | "outcome" => some d_outcome
  | "rows_apart" => some d_rows_apart
  | "never_allows" => some d_never_allows
  | "allows" => some d_allows
  | "row_bounds" => some d_row_bounds
  | "row_of" => some d_row_of
  | "copy_table" => some d_copy_tableO
  | "ways_left" => some d_ways_left
  | "is_mix" => some d_is_mix
  | "row_chances" => some d_row_chances
  | "agrees" => some d_agrees
  | "_law_is_integer" => some d_law_is_integer
  | "_law_row" => some d_law_row
  | "_law_gcd" => some d_law_gcd
  | "_law_lowest" => some d_law_lowest
  | "_law_add" => some d_law_add
  | "_law_less" => some d_law_less
  | "_law_rows" => some d_law_rows
  | "_law_place" => some d_law_place
  | "_law_size" => some d_law_size
  | "_law_count_ways" => some d_law_count_ways
  | "_law_shape" => some d_law_shape
  | "_law_plain" => some d_law_plain
  | "_law_made" => some d_law_made
  | "_law_bounds" => some d_law_bounds
  | "_law_way_sizes" => some d_law_way_sizes
  | "_law_ways" => some d_law_ways
  | "_law_outcome" => some d_law_outcome
  | "_law_setting" => some d_law_setting
  | "_law_seen" => some d_law_seen
  | "_law_sentence" => some d_law_sentence
  | "_law_allows" => some d_law_allows
  | "_law_mix" => some d_law_mix
  | "_law_row_chances" => some d_law_row_chances
  | "_law_same" => some d_law_same
  | "_law_is_mix" => some d_law_is_mix
  | "_law_within" => some d_law_within
  | "_law_agrees" => some d_law_agrees
  | "_law_table" => some d_law_table
  | "_law_changed" => some d_law_changed
  | "law" => some d_law
  | "House" => some d_House
  | "Data" => some d_Data
  | "!Data" => some dK_Data
  | _ => none
/-- the constants -/
def GG : String → Option D
  | "ZERO" => some (.tup [.int 0, .int 1])
  | "ONE" => some (.tup [.int 1, .int 1])
  | "MOST_WAYS" => some (.int 512)
  | _ => none
theorem sc_ratio : FnScope ["p", "q", "common"] ["p", "q"] (defScope (topS 4)) := ⟨rfl, rfl, rfl, by decide +kernel, rfl, by decide +kernel, by decide +kernel⟩
theorem ck_ratio : chkB ["p", "q", "common"] bl 2 (defScope (topS 4)) ir_ratio (defBody (topS 4)) = true := by decide +kernel
theorem sc_add : FnScope ["a", "b"] ["a", "b"] (defScope (topS 5)) := ⟨rfl, rfl, rfl, by decide +kernel, rfl, by decide +kernel, by decide +kernel⟩
theorem ck_add : chkB ["a", "b"] bl 2 (defScope (topS 5)) ir_add (defBody (topS 5)) = true := by decide +kernel
theorem sc_less : FnScope ["a", "b"] ["a", "b"] (defScope (topS 6)) := ⟨rfl, rfl, rfl, by decide +kernel, rfl, by decide +kernel, by decide +kernel⟩
theorem ck_less : chkB ["a", "b"] bl 2 (defScope (topS 6)) ir_less (defBody (topS 6)) = true := by decide +kernel
theorem sc_at_most : FnScope ["a", "b"] ["a", "b"] (defScope (topS 7)) := ⟨rfl, rfl, rfl, by decide +kernel, rfl, by decide +kernel, by decide +kernel⟩
theorem ck_at_most : chkB ["a", "b"] bl 2 (defScope (topS 7)) ir_at_most (defBody (topS 7)) = true := by decide +kernel
theorem sc_added : FnScope ["numbers", "total", "x"] ["numbers"] (defScope (topS 8)) := ⟨rfl, rfl, rfl, by decide +kernel, rfl, by decide +kernel, by decide +kernel⟩
theorem ck_added : chkB ["numbers", "total", "x"] bl 2 (defScope (topS 8)) ir_added (defBody (topS 8)) = true := by decide +kernel
theorem sc_size : FnScope ["bounds", "many", "bound"] ["bounds"] (defScope (topS 10)) := ⟨rfl, rfl, rfl, by decide +kernel, rfl, by decide +kernel, by decide +kernel⟩
theorem ck_size : chkB ["bounds", "many", "bound"] bl 2 (defScope (topS 10)) ir_size (defBody (topS 10)) = true := by decide +kernel
theorem sc_place : FnScope ["bounds", "row", "at", "k"] ["bounds", "row"] (defScope (topS 11)) := ⟨rfl, rfl, rfl, by decide +kernel, rfl, by decide +kernel, by decide +kernel⟩
theorem ck_place : chkB ["bounds", "row", "at", "k"] bl 2 (defScope (topS 11)) ir_place (defBody (topS 11)) = true := by decide +kernel
theorem sc_row_at : FnScope ["bounds", "at", "row", "k", "bound"] ["bounds", "at"] (defScope (topS 12)) := ⟨rfl, rfl, rfl, by decide +kernel, rfl, by decide +kernel, by decide +kernel⟩
theorem ck_row_at : chkB ["bounds", "at", "row", "k", "bound"] bl 2 (defScope (topS 12)) ir_row_at (defBody (topS 12)) = true := by decide +kernel
theorem sc_heard_bounds : FnScope ["house", "variable", "u"] ["house", "variable"] (defScope (topS 16)) := ⟨rfl, rfl, rfl, by decide +kernel, rfl, by decide +kernel, by decide +kernel⟩
theorem ck_heard_bounds : chkB ["house", "variable", "u"] bl 2 (defScope (topS 16)) ir_heard_bounds (defBody (topS 16)) = true := by decide +kernel
theorem sc_way_count : FnScope ["house", "many", "v", "_"] ["house"] (defScope (topS 17)) := ⟨rfl, rfl, rfl, by decide +kernel, rfl, by decide +kernel, by decide +kernel⟩
theorem ck_way_count : chkB ["house", "many", "v", "_"] bl 2 (defScope (topS 17)) ir_way_count (defBody (topS 17)) = true := by decide +kernel
theorem sc_way_at : FnScope ["house", "at", "result", "k", "v", "many", "row", "_"] ["house", "at"] (defScope (topS 19)) := ⟨rfl, rfl, rfl, by decide +kernel, rfl, by decide +kernel, by decide +kernel⟩
theorem ck_way_at : chkB ["house", "at", "result", "k", "v", "many", "row", "_"] bl 2 (defScope (topS 19)) ir_way_at (defBody (topS 19)) = true := by decide +kernel
theorem sc_all_ways : FnScope ["house", "at"] ["house"] (defScope (topS 20)) := ⟨rfl, rfl, rfl, by decide +kernel, rfl, by decide +kernel, by decide +kernel⟩
theorem ck_all_ways : chkB ["house", "at"] bl 2 (defScope (topS 20)) ir_all_ways (defBody (topS 20)) = true := by decide +kernel
theorem sc_outcome : FnScope ["house", "way", "setting", "forced", "variable", "word", "result", "v", "at", "u"] ["house", "way", "setting"] (defScope (topS 21)) := ⟨rfl, rfl, rfl, by decide +kernel, rfl, by decide +kernel, by decide +kernel⟩
theorem ck_outcome : chkB ["house", "way", "setting", "forced", "variable", "word", "result", "v", "at", "u"] bl 2 (defScope (topS 21)) ir_outcome (defBody (topS 21)) = true := by decide +kernel
theorem sc_rows_apart : FnScope ["house", "variable", "heard", "bounds", "at", "result", "n", "m", "first", "second"] ["house", "variable", "heard"] (defScope (topS 23)) := ⟨rfl, rfl, rfl, by decide +kernel, rfl, by decide +kernel, by decide +kernel⟩
theorem ck_rows_apart : chkB ["house", "variable", "heard", "bounds", "at", "result", "n", "m", "first", "second"] bl 2 (defScope (topS 23)) ir_rows_apart (defBody (topS 23)) = true := by decide +kernel
theorem sc_never_allows : FnScope ["house", "sentence", "way", "kind", "variable", "word", "heard", "other", "bounds", "at", "n"] ["house", "sentence", "way"] (defScope (topS 24)) := ⟨rfl, rfl, rfl, by decide +kernel, rfl, by decide +kernel, by decide +kernel⟩
theorem ck_never_allows : chkB ["house", "sentence", "way", "kind", "variable", "word", "heard", "other", "bounds", "at", "n"] bl 2 (defScope (topS 24)) ir_never_allows (defBody (topS 24)) = true := by decide +kernel
theorem sc_allows : FnScope ["house", "sentence", "way", "kind", "variable", "heard", "n", "m", "first", "second"] ["house", "sentence", "way"] (defScope (topS 25)) := ⟨rfl, rfl, rfl, by decide +kernel, rfl, by decide +kernel, by decide +kernel⟩
theorem ck_allows : chkB ["house", "sentence", "way", "kind", "variable", "heard", "n", "m", "first", "second"] bl 2 (defScope (topS 25)) ir_allows (defBody (topS 25)) = true := by decide +kernel
theorem sc_row_bounds : FnScope ["house", "seen", "v"] ["house", "seen"] (defScope (topS 27)) := ⟨rfl, rfl, rfl, by decide +kernel, rfl, by decide +kernel, by decide +kernel⟩
theorem ck_row_bounds : chkB ["house", "seen", "v"] bl 2 (defScope (topS 27)) ir_row_bounds (defBody (topS 27)) = true := by decide +kernel
theorem sc_row_of : FnScope ["house", "setting", "seen", "way", "words", "v"] ["house", "setting", "seen", "way"] (defScope (topS 28)) := ⟨rfl, rfl, rfl, by decide +kernel, rfl, by decide +kernel, by decide +kernel⟩
theorem ck_row_of : chkB ["house", "setting", "seen", "way", "words", "v"] bl 2 (defScope (topS 28)) ir_row_of (defBody (topS 28)) = true := by decide +kernel
theorem sc_copy_tableO : FnScope ["table", "setting", "seen", "bounds"] ["table"] (defScope (topS 29)) := ⟨rfl, rfl, rfl, by decide +kernel, rfl, by decide +kernel, by decide +kernel⟩
theorem ck_copy_tableO : chkB ["table", "setting", "seen", "bounds"] bl 2 (defScope (topS 29)) ir_copy_tableO (defBody (topS 29)) = true := by decide +kernel
theorem sc_ways_left : FnScope ["house", "sentences", "result", "way", "one"] ["house", "sentences"] (defScope (topS 30)) := ⟨rfl, rfl, rfl, by decide +kernel, rfl, by decide +kernel, by decide +kernel⟩
theorem ck_ways_left : chkB ["house", "sentences", "result", "way", "one"] bl 2 (defScope (topS 30)) ir_ways_left (defBody (topS 30)) = true := by decide +kernel
theorem sc_is_mix : FnScope ["data", "mix", "x"] ["data", "mix"] (defScope (topS 33)) := ⟨rfl, rfl, rfl, by decide +kernel, rfl, by decide +kernel, by decide +kernel⟩
theorem ck_is_mix : chkB ["data", "mix", "x"] bl 2 (defScope (topS 33)) ir_is_mix (defBody (topS 33)) = true := by decide +kernel
theorem sc_row_chances : FnScope ["data", "setting", "seen", "mix", "result", "k", "at"] ["data", "setting", "seen", "mix"] (defScope (topS 34)) := ⟨rfl, rfl, rfl, by decide +kernel, rfl, by decide +kernel, by decide +kernel⟩
theorem ck_row_chances : chkB ["data", "setting", "seen", "mix", "result", "k", "at"] bl 2 (defScope (topS 34)) ir_row_chances (defBody (topS 34)) = true := by decide +kernel
theorem sc_agrees : FnScope ["data", "mix", "setting", "seen", "bounds", "chances", "k"] ["data", "mix"] (defScope (topS 35)) := ⟨rfl, rfl, rfl, by decide +kernel, rfl, by decide +kernel, by decide +kernel⟩
theorem ck_agrees : chkB ["data", "mix", "setting", "seen", "bounds", "chances", "k"] bl 2 (defScope (topS 35)) ir_agrees (defBody (topS 35)) = true := by decide +kernel
theorem sc_law_is_integer : FnScope ["_law_x"] ["_law_x"] (defScope (topS 37)) := ⟨rfl, rfl, rfl, by decide +kernel, rfl, by decide +kernel, by decide +kernel⟩
theorem ck_law_is_integer : chkB ["_law_x"] bl 2 (defScope (topS 37)) ir_law_is_integer (defBody (topS 37)) = true := by decide +kernel
theorem sc_law_row : FnScope ["_law_script", "_law_place_here", "_law_many", "_law_cell", "_law_rest", "_law_row_here", "_law_k", "_law_mixed"] ["_law_script", "_law_place_here", "_law_many"] (defScope (topS 38)) := ⟨rfl, rfl, rfl, by decide +kernel, rfl, by decide +kernel, by decide +kernel⟩
theorem ck_law_row : chkB ["_law_script", "_law_place_here", "_law_many", "_law_cell", "_law_rest", "_law_row_here", "_law_k", "_law_mixed"] bl 2 (defScope (topS 38)) ir_law_row (defBody (topS 38)) = true := by decide +kernel
theorem sc_law_gcd : FnScope ["_law_a", "_law_b", "_law_k"] ["_law_a", "_law_b"] (defScope (topS 39)) := ⟨rfl, rfl, rfl, by decide +kernel, rfl, by decide +kernel, by decide +kernel⟩
theorem ck_law_gcd : chkB ["_law_a", "_law_b", "_law_k"] bl 2 (defScope (topS 39)) ir_law_gcd (defBody (topS 39)) = true := by decide +kernel
theorem sc_law_lowest : FnScope ["_law_p", "_law_q", "_law_common"] ["_law_p", "_law_q"] (defScope (topS 40)) := ⟨rfl, rfl, rfl, by decide +kernel, rfl, by decide +kernel, by decide +kernel⟩
theorem ck_law_lowest : chkB ["_law_p", "_law_q", "_law_common"] bl 2 (defScope (topS 40)) ir_law_lowest (defBody (topS 40)) = true := by decide +kernel
theorem sc_law_add : FnScope ["_law_a", "_law_b"] ["_law_a", "_law_b"] (defScope (topS 41)) := ⟨rfl, rfl, rfl, by decide +kernel, rfl, by decide +kernel, by decide +kernel⟩
theorem ck_law_add : chkB ["_law_a", "_law_b"] bl 2 (defScope (topS 41)) ir_law_add (defBody (topS 41)) = true := by decide +kernel
theorem sc_law_less : FnScope ["_law_a", "_law_b"] ["_law_a", "_law_b"] (defScope (topS 42)) := ⟨rfl, rfl, rfl, by decide +kernel, rfl, by decide +kernel, by decide +kernel⟩
theorem ck_law_less : chkB ["_law_a", "_law_b"] bl 2 (defScope (topS 42)) ir_law_less (defBody (topS 42)) = true := by decide +kernel
theorem sc_law_rows : FnScope ["_law_bounds_here", "_law_found", "_law_bound", "_law_longer", "_law_one", "_law_k"] ["_law_bounds_here"] (defScope (topS 43)) := ⟨rfl, rfl, rfl, by decide +kernel, rfl, by decide +kernel, by decide +kernel⟩
theorem ck_law_rows : chkB ["_law_bounds_here", "_law_found", "_law_bound", "_law_longer", "_law_one", "_law_k"] bl 2 (defScope (topS 43)) ir_law_rows (defBody (topS 43)) = true := by decide +kernel
theorem sc_law_place : FnScope ["_law_bounds_here", "_law_one", "_law_at", "_law_k"] ["_law_bounds_here", "_law_one"] (defScope (topS 44)) := ⟨rfl, rfl, rfl, by decide +kernel, rfl, by decide +kernel, by decide +kernel⟩
theorem ck_law_place : chkB ["_law_bounds_here", "_law_one", "_law_at", "_law_k"] bl 2 (defScope (topS 44)) ir_law_place (defBody (topS 44)) = true := by decide +kernel
theorem sc_law_size : FnScope ["_law_bounds_here", "_law_many", "_law_bound"] ["_law_bounds_here"] (defScope (topS 45)) := ⟨rfl, rfl, rfl, by decide +kernel, rfl, by decide +kernel, by decide +kernel⟩
theorem ck_law_size : chkB ["_law_bounds_here", "_law_many", "_law_bound"] bl 2 (defScope (topS 45)) ir_law_size (defBody (topS 45)) = true := by decide +kernel
theorem sc_law_count_ways : FnScope ["_law_counts", "_law_heard", "_law_many", "_law_v", "_law_n", "_law_u"] ["_law_counts", "_law_heard"] (defScope (topS 46)) := ⟨rfl, rfl, rfl, by decide +kernel, rfl, by decide +kernel, by decide +kernel⟩
theorem ck_law_count_ways : chkB ["_law_counts", "_law_heard", "_law_many", "_law_v", "_law_n", "_law_u"] bl 2 (defScope (topS 46)) ir_law_count_ways (defBody (topS 46)) = true := by decide +kernel
theorem sc_law_shape : FnScope ["_law_script", "_law_place_here", "_law_cap", "_law_row_here", "_law_variables", "_law_counts", "_law_v", "_law_heard", "_law_u", "_law_turn"] ["_law_script", "_law_place_here", "_law_cap"] (defScope (topS 47)) := ⟨rfl, rfl, rfl, by decide +kernel, rfl, by decide +kernel, by decide +kernel⟩
theorem ck_law_shape : chkB ["_law_script", "_law_place_here", "_law_cap", "_law_row_here", "_law_variables", "_law_counts", "_law_v", "_law_heard", "_law_u", "_law_turn"] bl 2 (defScope (topS 47)) ir_law_shape (defBody (topS 47)) = true := by decide +kernel
theorem sc_law_plain : FnScope ["_law_counts", "_law_heard", "_law_names", "_law_words", "_law_many"] ["_law_counts", "_law_heard"] (defScope (topS 48)) := ⟨rfl, rfl, rfl, by decide +kernel, rfl, by decide +kernel, by decide +kernel⟩
theorem ck_law_plain : chkB ["_law_counts", "_law_heard", "_law_names", "_law_words", "_law_many"] bl 2 (defScope (topS 48)) ir_law_plain (defBody (topS 48)) = true := by decide +kernel
theorem sc_law_made : FnScope ["_law_house", "_law_names", "_law_words", "_law_heard", "_law_one"] ["_law_house"] (defScope (topS 49)) := ⟨rfl, rfl, rfl, by decide +kernel, rfl, by decide +kernel, by decide +kernel⟩
theorem ck_law_made : chkB ["_law_house", "_law_names", "_law_words", "_law_heard", "_law_one"] bl 2 (defScope (topS 49)) ir_law_made (defBody (topS 49)) = true := by decide +kernel
theorem sc_law_bounds : FnScope ["_law_counts", "_law_heard", "_law_v", "_law_u"] ["_law_counts", "_law_heard", "_law_v"] (defScope (topS 50)) := ⟨rfl, rfl, rfl, by decide +kernel, rfl, by decide +kernel, by decide +kernel⟩
theorem ck_law_bounds : chkB ["_law_counts", "_law_heard", "_law_v", "_law_u"] bl 2 (defScope (topS 50)) ir_law_bounds (defBody (topS 50)) = true := by decide +kernel
theorem sc_law_way_sizes : FnScope ["_law_counts", "_law_heard", "_law_found", "_law_v", "_law_n"] ["_law_counts", "_law_heard"] (defScope (topS 51)) := ⟨rfl, rfl, rfl, by decide +kernel, rfl, by decide +kernel, by decide +kernel⟩
theorem ck_law_way_sizes : chkB ["_law_counts", "_law_heard", "_law_found", "_law_v", "_law_n"] bl 2 (defScope (topS 51)) ir_law_way_sizes (defBody (topS 51)) = true := by decide +kernel
theorem sc_law_ways : FnScope ["_law_counts", "_law_heard", "_law_ways_here", "_law_one", "_law_way", "_law_at", "_law_v", "_law_many"] ["_law_counts", "_law_heard"] (defScope (topS 52)) := ⟨rfl, rfl, rfl, by decide +kernel, rfl, by decide +kernel, by decide +kernel⟩
theorem ck_law_ways : chkB ["_law_counts", "_law_heard", "_law_ways_here", "_law_one", "_law_way", "_law_at", "_law_v", "_law_many"] bl 2 (defScope (topS 52)) ir_law_ways (defBody (topS 52)) = true := by decide +kernel
theorem sc_law_outcome : FnScope ["_law_counts", "_law_heard", "_law_way", "_law_setting_here", "_law_said", "_law_v", "_law_word", "_law_u", "_law_other"] ["_law_counts", "_law_heard", "_law_way", "_law_setting_here"] (defScope (topS 53)) := ⟨rfl, rfl, rfl, by decide +kernel, rfl, by decide +kernel, by decide +kernel⟩
theorem ck_law_outcome : chkB ["_law_counts", "_law_heard", "_law_way", "_law_setting_here", "_law_said", "_law_v", "_law_word", "_law_u", "_law_other"] bl 2 (defScope (topS 53)) ir_law_outcome (defBody (topS 53)) = true := by decide +kernel
theorem sc_law_setting : FnScope ["_law_row_here", "_law_counts", "_law_setting_here", "_law_v"] ["_law_row_here", "_law_counts"] (defScope (topS 54)) := ⟨rfl, rfl, rfl, by decide +kernel, rfl, by decide +kernel, by decide +kernel⟩
theorem ck_law_setting : chkB ["_law_row_here", "_law_counts", "_law_setting_here", "_law_v"] bl 2 (defScope (topS 54)) ir_law_setting (defBody (topS 54)) = true := by decide +kernel
theorem sc_law_seen : FnScope ["_law_row_here", "_law_counts", "_law_most", "_law_seen_here", "_law_v", "_law_turn"] ["_law_row_here", "_law_counts", "_law_most"] (defScope (topS 55)) := ⟨rfl, rfl, rfl, by decide +kernel, rfl, by decide +kernel, by decide +kernel⟩
theorem ck_law_seen : chkB ["_law_row_here", "_law_counts", "_law_most", "_law_seen_here", "_law_v", "_law_turn"] bl 2 (defScope (topS 55)) ir_law_seen (defBody (topS 55)) = true := by decide +kernel
theorem sc_law_sentence : FnScope ["_law_row_here", "_law_counts", "_law_heard", "_law_able", "_law_v", "_law_u"] ["_law_row_here", "_law_counts", "_law_heard"] (defScope (topS 56)) := ⟨rfl, rfl, rfl, by decide +kernel, rfl, by decide +kernel, by decide +kernel⟩
theorem ck_law_sentence : chkB ["_law_row_here", "_law_counts", "_law_heard", "_law_able", "_law_v", "_law_u"] bl 2 (defScope (topS 56)) ir_law_sentence (defBody (topS 56)) = true := by decide +kernel
theorem sc_law_allows : FnScope ["_law_counts", "_law_heard", "_law_sentence_here", "_law_way", "_law_v", "_law_u", "_law_at", "_law_found", "_law_n", "_law_m", "_law_same_here"] ["_law_counts", "_law_heard", "_law_sentence_here", "_law_way"] (defScope (topS 57)) := ⟨rfl, rfl, rfl, by decide +kernel, rfl, by decide +kernel, by decide +kernel⟩
theorem ck_law_allows : chkB ["_law_counts", "_law_heard", "_law_sentence_here", "_law_way", "_law_v", "_law_u", "_law_at", "_law_found", "_law_n", "_law_m", "_law_same_here"] bl 2 (defScope (topS 57)) ir_law_allows (defBody (topS 57)) = true := by decide +kernel
theorem sc_law_mix : FnScope ["_law_row_here", "_law_many", "_law_shares", "_law_x", "_law_total", "_law_k"] ["_law_row_here", "_law_many"] (defScope (topS 58)) := ⟨rfl, rfl, rfl, by decide +kernel, rfl, by decide +kernel, by decide +kernel⟩
theorem ck_law_mix : chkB ["_law_row_here", "_law_many", "_law_shares", "_law_x", "_law_total", "_law_k"] bl 2 (defScope (topS 58)) ir_law_mix (defBody (topS 58)) = true := by decide +kernel
theorem sc_law_row_chances : FnScope ["_law_counts", "_law_heard", "_law_ways_here", "_law_setting_here", "_law_seen_here", "_law_mix_here", "_law_bounds_here", "_law_v", "_law_found", "_law_k", "_law_said", "_law_at"] ["_law_counts", "_law_heard", "_law_ways_here", "_law_setting_here", "_law_seen_here", "_law_mix_here"] (defScope (topS 59)) := ⟨rfl, rfl, rfl, by decide +kernel, rfl, by decide +kernel, by decide +kernel⟩
theorem ck_law_row_chances : chkB ["_law_counts", "_law_heard", "_law_ways_here", "_law_setting_here", "_law_seen_here", "_law_mix_here", "_law_bounds_here", "_law_v", "_law_found", "_law_k", "_law_said", "_law_at"] bl 2 (defScope (topS 59)) ir_law_row_chances (defBody (topS 59)) = true := by decide +kernel
theorem sc_law_same : FnScope ["_law_actual", "_law_due", "_law_k"] ["_law_actual", "_law_due"] (defScope (topS 60)) := ⟨rfl, rfl, rfl, by decide +kernel, rfl, by decide +kernel, by decide +kernel⟩
theorem ck_law_same : chkB ["_law_actual", "_law_due", "_law_k"] bl 2 (defScope (topS 60)) ir_law_same (defBody (topS 60)) = true := by decide +kernel
theorem sc_law_is_mix : FnScope ["_law_ways_here", "_law_mix_here", "_law_total", "_law_x"] ["_law_ways_here", "_law_mix_here"] (defScope (topS 61)) := ⟨rfl, rfl, rfl, by decide +kernel, rfl, by decide +kernel, by decide +kernel⟩
theorem ck_law_is_mix : chkB ["_law_ways_here", "_law_mix_here", "_law_total", "_law_x"] bl 2 (defScope (topS 61)) ir_law_is_mix (defBody (topS 61)) = true := by decide +kernel
theorem sc_law_within : FnScope ["_law_x", "_law_bound"] ["_law_x", "_law_bound"] (defScope (topS 62)) := ⟨rfl, rfl, rfl, by decide +kernel, rfl, by decide +kernel, by decide +kernel⟩
theorem ck_law_within : chkB ["_law_x", "_law_bound"] bl 2 (defScope (topS 62)) ir_law_within (defBody (topS 62)) = true := by decide +kernel
theorem sc_law_agrees : FnScope ["_law_counts", "_law_heard", "_law_ways_here", "_law_tables", "_law_mix_here", "_law_setting_here", "_law_seen_here", "_law_bounds_here", "_law_chances", "_law_n"] ["_law_counts", "_law_heard", "_law_ways_here", "_law_tables", "_law_mix_here"] (defScope (topS 63)) := ⟨rfl, rfl, rfl, by decide +kernel, rfl, by decide +kernel, by decide +kernel⟩
theorem ck_law_agrees : chkB ["_law_counts", "_law_heard", "_law_ways_here", "_law_tables", "_law_mix_here", "_law_setting_here", "_law_seen_here", "_law_bounds_here", "_law_chances", "_law_n"] bl 2 (defScope (topS 63)) ir_law_agrees (defBody (topS 63)) = true := by decide +kernel
theorem sc_law_table : FnScope ["_law_row_here", "_law_counts", "_law_heard", "_law_ways_here", "_law_mix_here", "_law_setting_here", "_law_seen_here", "_law_bounds_here", "_law_x", "_law_low", "_law_high"] ["_law_row_here", "_law_counts", "_law_heard", "_law_ways_here", "_law_mix_here"] (defScope (topS 64)) := ⟨rfl, rfl, rfl, by decide +kernel, rfl, by decide +kernel, by decide +kernel⟩
theorem ck_law_table : chkB ["_law_row_here", "_law_counts", "_law_heard", "_law_ways_here", "_law_mix_here", "_law_setting_here", "_law_seen_here", "_law_bounds_here", "_law_x", "_law_low", "_law_high"] bl 2 (defScope (topS 64)) ir_law_table (defBody (topS 64)) = true := by decide +kernel
theorem sc_law_changed : FnScope ["_law_row_here", "_law_mix_here", "_law_found", "_law_a", "_law_b", "_law_fault", "_law_move"] ["_law_row_here", "_law_mix_here"] (defScope (topS 65)) := ⟨rfl, rfl, rfl, by decide +kernel, rfl, by decide +kernel, by decide +kernel⟩
theorem ck_law_changed : chkB ["_law_row_here", "_law_mix_here", "_law_found", "_law_a", "_law_b", "_law_fault", "_law_move"] bl 2 (defScope (topS 65)) ir_law_changed (defBody (topS 65)) = true := by decide +kernel
theorem sc_law : FnScope ["_law_script", "_law_counts", "_law_heard", "_law_sentences", "_law_ways_here", "_law_place_here", "_law_row_here", "_law_sentence_here", "_law_way", "_law_made_here", "_law_mix_here", "_law_tables", "_law_k", "_law_passed", "_law_setting_here", "_law_seen_here", "_law_bounds_here", "_law_data", "_law_given", "_law_handed", "_law_first", "_law_second", "_law_due"] ["_law_script"] (defScope (topS 66)) := ⟨rfl, rfl, rfl, by decide +kernel, rfl, by decide +kernel, by decide +kernel⟩
theorem ck_law : chkB ["_law_script", "_law_counts", "_law_heard", "_law_sentences", "_law_ways_here", "_law_place_here", "_law_row_here", "_law_sentence_here", "_law_way", "_law_made_here", "_law_mix_here", "_law_tables", "_law_k", "_law_passed", "_law_setting_here", "_law_seen_here", "_law_bounds_here", "_law_data", "_law_given", "_law_handed", "_law_first", "_law_second", "_law_due"] bl 2 (defScope (topS 66)) ir_law (defBody (topS 66)) = true := by decide +kernel
theorem sc_House : FnScope ["self", "names", "words", "heard", "row"] ["self", "names", "words", "heard"] (defScope (clS 15 0)) := ⟨rfl, rfl, rfl, by decide +kernel, rfl, by decide +kernel, by decide +kernel⟩
theorem ck_House : chkI ["self", "names", "words", "heard", "row"] bl 2 (defScope (clS 15 0)) 0 0 es_House (defBody (clS 15 0)) = true := by decide +kernel
theorem sc_Data : FnScope ["self", "house", "sentences", "tables", "table"] ["self", "house", "sentences", "tables"] (defScope (clS 31 0)) := ⟨rfl, rfl, rfl, by decide +kernel, rfl, by decide +kernel, by decide +kernel⟩
theorem ck_Data : chkI ["self", "house", "sentences", "tables", "table"] bl 2 (defScope (clS 31 0)) 1 0 es_Data (defBody (clS 31 0)) = true := by decide +kernel
theorem ckK_Data : chkI ["self", "house", "sentences", "tables", "table"] bl 2 (defScope (clS 31 0)) 1 0 esO_Data (defBody (clS 31 0)) = true := by decide +kernel
section
variable {P : Program} {w : World} {K : PySem.W.Frag} {h : Heap} {mg : Str → Option Value}
theorem allT (X : K.In h) (G : h.Ns mainGlobals mg) (c : SaysX chkK fnL K) : ∀ f d, TT f = some d → DefAt P w K mg (KC K) bl f d := by
  have ck := c.chk_
  intro f d hd
  unfold TT at hd
  split at hd
  · cases hd; exact defAt_of (d := d_ratio) (C := KC K) X G c rfl 0 rfl (fact ck 0 rfl) sc_ratio (fun _ _ _ _ _ _ us hl => match us, hl with | [_, _], _ => rfl) ck_ratio rfl rfl (by decide)
  · cases hd; exact defAt_of (d := d_add) (C := KC K) X G c rfl 1 rfl (fact ck 1 rfl) sc_add (fun _ _ _ _ _ _ us hl => match us, hl with | [_, _], _ => rfl) ck_add rfl rfl (by decide)
  · cases hd; exact defAt_of (d := d_less) (C := KC K) X G c rfl 2 rfl (fact ck 2 rfl) sc_less (fun _ _ _ _ _ _ us hl => match us, hl with | [_, _], _ => rfl) ck_less rfl rfl (by decide)
  · cases hd; exact defAt_of (d := d_at_most) (C := KC K) X G c rfl 3 rfl (fact ck 3 rfl) sc_at_most (fun _ _ _ _ _ _ us hl => match us, hl with | [_, _], _ => rfl) ck_at_most rfl rfl (by decide)
  · cases hd; exact defAt_of (d := d_added) (C := KC K) X G c rfl 4 rfl (fact ck 4 rfl) sc_added (fun _ _ _ _ _ _ us hl => match us, hl with | [_], _ => rfl) ck_added rfl rfl (by decide)
  · cases hd; exact defAt_of (d := d_size) (C := KC K) X G c rfl 5 rfl (fact ck 5 rfl) sc_size (fun _ _ _ _ _ _ us hl => match us, hl with | [_], _ => rfl) ck_size rfl rfl (by decide)
  · cases hd; exact defAt_of (d := d_place) (C := KC K) X G c rfl 6 rfl (fact ck 6 rfl) sc_place (fun _ _ _ _ _ _ us hl => match us, hl with | [_, _], _ => rfl) ck_place rfl rfl (by decide)
  · cases hd; exact defAt_of (d := d_row_at) (C := KC K) X G c rfl 7 rfl (fact ck 7 rfl) sc_row_at (fun _ _ _ _ _ _ us hl => match us, hl with | [_, _], _ => rfl) ck_row_at rfl rfl (by decide)
  · cases hd; exact defAt_of (d := d_heard_bounds) (C := KC K) X G c rfl 8 rfl (fact ck 8 rfl) sc_heard_bounds (fun _ _ _ _ _ _ us hl => match us, hl with | [_, _], _ => rfl) ck_heard_bounds rfl rfl (by decide)
  · cases hd; exact defAt_of (d := d_way_count) (C := KC K) X G c rfl 9 rfl (fact ck 9 rfl) sc_way_count (fun _ _ _ _ _ _ us hl => match us, hl with | [_], _ => rfl) ck_way_count rfl rfl (by decide)
  · cases hd; exact defAt_of (d := d_way_at) (C := KC K) X G c rfl 10 rfl (fact ck 10 rfl) sc_way_at (fun _ _ _ _ _ _ us hl => match us, hl with | [_, _], _ => rfl) ck_way_at rfl rfl (by decide)
  · cases hd; exact defAt_of (d := d_all_ways) (C := KC K) X G c rfl 11 rfl (fact ck 11 rfl) sc_all_ways (fun _ _ _ _ _ _ us hl => match us, hl with | [_], _ => rfl) ck_all_ways rfl rfl (by decide)
  · cases hd; exact defAt_of (d := d_outcome) (C := KC K) X G c rfl 12 rfl (fact ck 12 rfl) sc_outcome (fun _ _ _ _ _ _ us hl => match us, hl with | [_, _, _], _ => rfl) ck_outcome rfl rfl (by decide)
  · cases hd; exact defAt_of (d := d_rows_apart) (C := KC K) X G c rfl 13 rfl (fact ck 13 rfl) sc_rows_apart (fun _ _ _ _ _ _ us hl => match us, hl with | [_, _, _], _ => rfl) ck_rows_apart rfl rfl (by decide)
  · cases hd; exact defAt_of (d := d_never_allows) (C := KC K) X G c rfl 14 rfl (fact ck 14 rfl) sc_never_allows (fun _ _ _ _ _ _ us hl => match us, hl with | [_, _, _], _ => rfl) ck_never_allows rfl rfl (by decide)
  · cases hd; exact defAt_of (d := d_allows) (C := KC K) X G c rfl 15 rfl (fact ck 15 rfl) sc_allows (fun _ _ _ _ _ _ us hl => match us, hl with | [_, _, _], _ => rfl) ck_allows rfl rfl (by decide)
  · cases hd; exact defAt_of (d := d_row_bounds) (C := KC K) X G c rfl 16 rfl (fact ck 16 rfl) sc_row_bounds (fun _ _ _ _ _ _ us hl => match us, hl with | [_, _], _ => rfl) ck_row_bounds rfl rfl (by decide)
  · cases hd; exact defAt_of (d := d_row_of) (C := KC K) X G c rfl 17 rfl (fact ck 17 rfl) sc_row_of (fun _ _ _ _ _ _ us hl => match us, hl with | [_, _, _, _], _ => rfl) ck_row_of rfl rfl (by decide)
  · cases hd; exact defAt_of (d := d_copy_tableO) (C := KC K) X G c rfl 18 rfl (fact ck 18 rfl) sc_copy_tableO (fun _ _ _ _ _ _ us hl => match us, hl with | [_], _ => rfl) ck_copy_tableO rfl rfl (by decide)
  · cases hd; exact defAt_of (d := d_ways_left) (C := KC K) X G c rfl 19 rfl (fact ck 19 rfl) sc_ways_left (fun _ _ _ _ _ _ us hl => match us, hl with | [_, _], _ => rfl) ck_ways_left rfl rfl (by decide)
  · cases hd; exact defAt_of (d := d_is_mix) (C := KC K) X G c rfl 20 rfl (fact ck 20 rfl) sc_is_mix (fun _ _ _ _ _ _ us hl => match us, hl with | [_, _], _ => rfl) ck_is_mix rfl rfl (by decide)
  · cases hd; exact defAt_of (d := d_row_chances) (C := KC K) X G c rfl 21 rfl (fact ck 21 rfl) sc_row_chances (fun _ _ _ _ _ _ us hl => match us, hl with | [_, _, _, _], _ => rfl) ck_row_chances rfl rfl (by decide)
  · cases hd; exact defAt_of (d := d_agrees) (C := KC K) X G c rfl 22 rfl (fact ck 22 rfl) sc_agrees (fun _ _ _ _ _ _ us hl => match us, hl with | [_, _], _ => rfl) ck_agrees rfl rfl (by decide)
  · cases hd; exact defAt_of (d := d_law_is_integer) (C := KC K) X G c rfl 23 rfl (fact ck 23 rfl) sc_law_is_integer (fun _ _ _ _ _ _ us hl => match us, hl with | [_], _ => rfl) ck_law_is_integer rfl rfl (by decide)
  · cases hd; exact defAt_of (d := d_law_row) (C := KC K) X G c rfl 24 rfl (fact ck 24 rfl) sc_law_row (fun _ _ _ _ _ _ us hl => match us, hl with | [_, _, _], _ => rfl) ck_law_row rfl rfl (by decide)
  · cases hd; exact defAt_of (d := d_law_gcd) (C := KC K) X G c rfl 25 rfl (fact ck 25 rfl) sc_law_gcd (fun _ _ _ _ _ _ us hl => match us, hl with | [_, _], _ => rfl) ck_law_gcd rfl rfl (by decide)
  · cases hd; exact defAt_of (d := d_law_lowest) (C := KC K) X G c rfl 26 rfl (fact ck 26 rfl) sc_law_lowest (fun _ _ _ _ _ _ us hl => match us, hl with | [_, _], _ => rfl) ck_law_lowest rfl rfl (by decide)
  · cases hd; exact defAt_of (d := d_law_add) (C := KC K) X G c rfl 27 rfl (fact ck 27 rfl) sc_law_add (fun _ _ _ _ _ _ us hl => match us, hl with | [_, _], _ => rfl) ck_law_add rfl rfl (by decide)
  · cases hd; exact defAt_of (d := d_law_less) (C := KC K) X G c rfl 28 rfl (fact ck 28 rfl) sc_law_less (fun _ _ _ _ _ _ us hl => match us, hl with | [_, _], _ => rfl) ck_law_less rfl rfl (by decide)
  · cases hd; exact defAt_of (d := d_law_rows) (C := KC K) X G c rfl 29 rfl (fact ck 29 rfl) sc_law_rows (fun _ _ _ _ _ _ us hl => match us, hl with | [_], _ => rfl) ck_law_rows rfl rfl (by decide)
  · cases hd; exact defAt_of (d := d_law_place) (C := KC K) X G c rfl 30 rfl (fact ck 30 rfl) sc_law_place (fun _ _ _ _ _ _ us hl => match us, hl with | [_, _], _ => rfl) ck_law_place rfl rfl (by decide)
  · cases hd; exact defAt_of (d := d_law_size) (C := KC K) X G c rfl 31 rfl (fact ck 31 rfl) sc_law_size (fun _ _ _ _ _ _ us hl => match us, hl with | [_], _ => rfl) ck_law_size rfl rfl (by decide)
  · cases hd; exact defAt_of (d := d_law_count_ways) (C := KC K) X G c rfl 32 rfl (fact ck 32 rfl) sc_law_count_ways (fun _ _ _ _ _ _ us hl => match us, hl with | [_, _], _ => rfl) ck_law_count_ways rfl rfl (by decide)
  · cases hd; exact defAt_of (d := d_law_shape) (C := KC K) X G c rfl 33 rfl (fact ck 33 rfl) sc_law_shape (fun _ _ _ _ _ _ us hl => match us, hl with | [_, _, _], _ => rfl) ck_law_shape rfl rfl (by decide)
  · cases hd; exact defAt_of (d := d_law_plain) (C := KC K) X G c rfl 34 rfl (fact ck 34 rfl) sc_law_plain (fun _ _ _ _ _ _ us hl => match us, hl with | [_, _], _ => rfl) ck_law_plain rfl rfl (by decide)
  · cases hd; exact defAt_of (d := d_law_made) (C := KC K) X G c rfl 35 rfl (fact ck 35 rfl) sc_law_made (fun _ _ _ _ _ _ us hl => match us, hl with | [_], _ => rfl) ck_law_made rfl rfl (by decide)
  · cases hd; exact defAt_of (d := d_law_bounds) (C := KC K) X G c rfl 36 rfl (fact ck 36 rfl) sc_law_bounds (fun _ _ _ _ _ _ us hl => match us, hl with | [_, _, _], _ => rfl) ck_law_bounds rfl rfl (by decide)
  · cases hd; exact defAt_of (d := d_law_way_sizes) (C := KC K) X G c rfl 37 rfl (fact ck 37 rfl) sc_law_way_sizes (fun _ _ _ _ _ _ us hl => match us, hl with | [_, _], _ => rfl) ck_law_way_sizes rfl rfl (by decide)
  · cases hd; exact defAt_of (d := d_law_ways) (C := KC K) X G c rfl 38 rfl (fact ck 38 rfl) sc_law_ways (fun _ _ _ _ _ _ us hl => match us, hl with | [_, _], _ => rfl) ck_law_ways rfl rfl (by decide)
  · cases hd; exact defAt_of (d := d_law_outcome) (C := KC K) X G c rfl 39 rfl (fact ck 39 rfl) sc_law_outcome (fun _ _ _ _ _ _ us hl => match us, hl with | [_, _, _, _], _ => rfl) ck_law_outcome rfl rfl (by decide)
  · cases hd; exact defAt_of (d := d_law_setting) (C := KC K) X G c rfl 40 rfl (fact ck 40 rfl) sc_law_setting (fun _ _ _ _ _ _ us hl => match us, hl with | [_, _], _ => rfl) ck_law_setting rfl rfl (by decide)
  · cases hd; exact defAt_of (d := d_law_seen) (C := KC K) X G c rfl 41 rfl (fact ck 41 rfl) sc_law_seen (fun _ _ _ _ _ _ us hl => match us, hl with | [_, _, _], _ => rfl) ck_law_seen rfl rfl (by decide)
  · cases hd; exact defAt_of (d := d_law_sentence) (C := KC K) X G c rfl 42 rfl (fact ck 42 rfl) sc_law_sentence (fun _ _ _ _ _ _ us hl => match us, hl with | [_, _, _], _ => rfl) ck_law_sentence rfl rfl (by decide)
  · cases hd; exact defAt_of (d := d_law_allows) (C := KC K) X G c rfl 43 rfl (fact ck 43 rfl) sc_law_allows (fun _ _ _ _ _ _ us hl => match us, hl with | [_, _, _, _], _ => rfl) ck_law_allows rfl rfl (by decide)
  · cases hd; exact defAt_of (d := d_law_mix) (C := KC K) X G c rfl 44 rfl (fact ck 44 rfl) sc_law_mix (fun _ _ _ _ _ _ us hl => match us, hl with | [_, _], _ => rfl) ck_law_mix rfl rfl (by decide)
  · cases hd; exact defAt_of (d := d_law_row_chances) (C := KC K) X G c rfl 45 rfl (fact ck 45 rfl) sc_law_row_chances (fun _ _ _ _ _ _ us hl => match us, hl with | [_, _, _, _, _, _], _ => rfl) ck_law_row_chances rfl rfl (by decide)
  · cases hd; exact defAt_of (d := d_law_same) (C := KC K) X G c rfl 46 rfl (fact ck 46 rfl) sc_law_same (fun _ _ _ _ _ _ us hl => match us, hl with | [_, _], _ => rfl) ck_law_same rfl rfl (by decide)
  · cases hd; exact defAt_of (d := d_law_is_mix) (C := KC K) X G c rfl 47 rfl (fact ck 47 rfl) sc_law_is_mix (fun _ _ _ _ _ _ us hl => match us, hl with | [_, _], _ => rfl) ck_law_is_mix rfl rfl (by decide)
  · cases hd; exact defAt_of (d := d_law_within) (C := KC K) X G c rfl 48 rfl (fact ck 48 rfl) sc_law_within (fun _ _ _ _ _ _ us hl => match us, hl with | [_, _], _ => rfl) ck_law_within rfl rfl (by decide)
  · cases hd; exact defAt_of (d := d_law_agrees) (C := KC K) X G c rfl 49 rfl (fact ck 49 rfl) sc_law_agrees (fun _ _ _ _ _ _ us hl => match us, hl with | [_, _, _, _, _], _ => rfl) ck_law_agrees rfl rfl (by decide)
  · cases hd; exact defAt_of (d := d_law_table) (C := KC K) X G c rfl 50 rfl (fact ck 50 rfl) sc_law_table (fun _ _ _ _ _ _ us hl => match us, hl with | [_, _, _, _, _], _ => rfl) ck_law_table rfl rfl (by decide)
  · cases hd; exact defAt_of (d := d_law_changed) (C := KC K) X G c rfl 51 rfl (fact ck 51 rfl) sc_law_changed (fun _ _ _ _ _ _ us hl => match us, hl with | [_, _], _ => rfl) ck_law_changed rfl rfl (by decide)
  · cases hd; exact defAt_of (d := d_law) (C := KC K) X G c rfl 52 rfl (fact ck 52 rfl) sc_law (fun _ _ _ _ _ _ us hl => match us, hl with | [_], _ => rfl) ck_law rfl rfl (by decide)
  · cases hd; exact clsAt_of (cc := 0) (d := d_House) c rfl 53 rfl (fact ck 71 rfl) sc_House (fun _ _ _ _ _ _ us hl => match us, hl with | [_, _, _, _], _ => rfl) ck_House rfl rfl (by decide) (by decide)
  · cases hd; exact clsAt_of (cc := 1) (d := d_Data) c rfl 54 rfl (fact ck 72 rfl) sc_Data (fun _ _ _ _ _ _ us hl => match us, hl with | [_, _, _, _], _ => rfl) ck_Data rfl rfl (by decide) (by decide)
  · cases hd; exact clsAtK_of (f := "!Data") (cc := 1) (d := dK_Data) c rfl 54 rfl (fact ck 72 rfl) sc_Data (fun _ _ _ _ _ _ us hl => match us, hl with | [_, _, _, _], _ => rfl) ckK_Data rfl rfl (by decide) (by decide)
  · cases hd
theorem allW (X : K.In h) (G : h.Ns mainGlobals mg) (c : SaysX chkK fnL K) (base : Heap) : Wd0 P w K mg base (KC K) GG bl := by
  have ck := c.chk_
  refine ⟨fun x d hd => ?_, fun x hx hne => ?_, fun hx => ?_, fun c hc => (match c, hc with | 0, _ => cls_facts X G (fact ck 71 rfl) | 1, _ => cls_facts X G (fact ck 72 rfl) | _ + 2, hc => absurd (show _ + 2 < 2 from hc) (by omega)), kitC (fact ck 73 rfl)⟩
  · unfold GG at hd
    split at hd
    · cases hd; exact con_tup X G (fact ck 66 rfl) (fact ck 67 rfl) fun H S => (.cons (.int _) (.cons (.int _) .nil))
    · cases hd; exact con_tup X G (fact ck 68 rfl) (fact ck 69 rfl) fun H S => (.cons (.int _) (.cons (.int _) .nil))
    · cases hd; exact con_int X G (fact ck 70 rfl)
    · cases hd
  · simp only [bl, List.mem_cons, List.not_mem_nil, or_false] at hx
    rcases hx with rfl | rfl | rfl | rfl | rfl | rfl | rfl | rfl | rfl | rfl | rfl | rfl | rfl
    · exact free_mg X G (fact ck 53 rfl)
    · exact free_mg X G (fact ck 54 rfl)
    · exact free_mg X G (fact ck 55 rfl)
    · exact free_mg X G (fact ck 56 rfl)
    · exact free_mg X G (fact ck 57 rfl)
    · exact free_mg X G (fact ck 58 rfl)
    · exact free_mg X G (fact ck 59 rfl)
    · exact free_mg X G (fact ck 60 rfl)
    · exact free_mg X G (fact ck 61 rfl)
    · exact free_mg X G (fact ck 62 rfl)
    · exact free_mg X G (fact ck 63 rfl)
    · exact free_mg X G (fact ck 64 rfl)
    · exact absurd rfl hne
  · exact bi_mg X G (fact ck 65 rfl)
end
/-- how deep the calls go -/
def KK : Nat := 8
abbrev Law (ns : List Int) : Prop := ∃ W, ph GG W TT KK "law" [.rol (ns.map .int)] = .ok (.frz (.bl true))
theorem facts {P : Program} {w : World} {K : PySem.W.Frag} {h : Heap} {mg : Str → Option Value} {f : Addr} (X : K.In h) (G : h.Ns mainGlobals mg) (hfa : mg (Str.ofString "law") = some (.ref f)) (c : SaysX chkK fnL K) :
    ∃ fd : FuncData, (∀ (s : Shared) (v : Value), BindsTo s fd ⟨[v], []⟩ [(Str.ofString "_law_script", v)]) ∧ ∀ base : Heap, K.In base → base.Ns mainGlobals mg → FnOk P w K mg base CX0 KK f fd [Str.ofString "_law_script"] (spLaw K (KC K) fun W => ph GG W TT KK "law") := by
  obtain ⟨fd, F⟩ := c.def_ 52 (d := dd "law" (topS 66)) rfl
  have e := hfa.symm.trans (glo_mg X G (fact c.chk_ 52 rfl))
  cases e
  have b := FunD.bindsA (ps := [Str.ofString "_law_script"]) F fun _ _ _ _ _ _ us hl => match us, hl with | [_], _ => rfl
  refine ⟨fd, fun s v => b s [v] rfl, fun base _ _ => ?_⟩
  have one : ∀ W, FnOk P w K mg base CX0 KK (He.ga K (Str.ofString "law")) fd [Str.ofString "_law_script"] (spF K (KC K) (ph GG W TT KK "law")) := fun W => by
    have wd := prog_ok (P := P) (w := w) (base := base) (C := (KC K)) (W := W) (allW X G c base) (allT X G c) (KK - 1)
    have e := ph_fn (G := GG) (W := W) (T := TT) (f := "law") (d := d_law) rfl rfl (KK - 1)
    rw [show KK = KK - 1 + 1 from rfl, e]
    exact def_ok (W := W) F sc_law wd ck_law (by decide)
  exact ⟨fun vs H Q E ⟨W, h⟩ => (one W).len vs H Q E h, fun A outer s H args us vs Q E hr he hb hv ⟨W, h⟩ => (one W).run A outer s H args us vs Q E hr he hb hv h⟩
end Ev
namespace Ev
section
variable (W k : Nat)
theorem p_law_row : S_row (ph GG W TT (k + 1) "_law_row") := by rw [ph_at (d := d_law_row) rfl]; exact s_law_row 
theorem p_law_size : S_size (ph GG W TT (k + 1) "_law_size") := by rw [ph_at (d := d_law_size) rfl]; exact s_law_sizeS 
theorem p_law_count_ways : S_count (ph GG W TT (k + 2) "_law_count_ways") := by rw [ph_at (d := d_law_count_ways) rfl]; exact s_law_count (p_law_size W (k + 0))
theorem p_law_shape : S_shape (ph GG W TT (k + 3) "_law_shape") := by rw [ph_at (d := d_law_shape) rfl]; exact s_law_shape (p_law_row W (k + 1)) (p_law_count_ways W (k + 0))
theorem p_law_plain : S_plain (ph GG W TT (k + 1) "_law_plain") := by rw [ph_at (d := d_law_plain) rfl]; exact s_law_plain 
theorem p_House : S_House (ph GG W TT (k + 2) "House") := by rw [ph_cl (f := "House") (T := TT) (d := d_House) rfl rfl]; exact s_House 
theorem p_law_made : S_made (ph GG W TT (k + 3) "_law_made") := by rw [ph_at (d := d_law_made) rfl]; exact s_law_made (p_House W (k + 0))
theorem p_law_bounds : S_bounds (ph GG W TT (k + 1) "_law_bounds") := by rw [ph_at (d := d_law_bounds) rfl]; exact s_law_bounds 
theorem p_law_way_sizes : S_way_sizes (ph GG W TT (k + 2) "_law_way_sizes") := by rw [ph_at (d := d_law_way_sizes) rfl]; exact s_law_way_sizes (p_law_size W (k + 0)) (p_law_bounds W (k + 0))
theorem p_law_rows : S_rows (ph GG W TT (k + 1) "_law_rows") := by rw [ph_at (d := d_law_rows) rfl]; exact s_law_rows 
theorem p_law_ways : S_ways (ph GG W TT (k + 3) "_law_ways") := by rw [ph_at (d := d_law_ways) rfl]; exact s_law_ways (p_law_size W (k + 1)) (p_law_bounds W (k + 1)) (p_law_way_sizes W (k + 0)) (p_law_rows W (k + 1))
theorem p_law_sentence : S_lsent (ph GG W TT (k + 1) "_law_sentence") := by rw [ph_at (d := d_law_sentence) rfl]; exact s_law_sentence 
theorem p_law_allows : S_lallows (ph GG W TT (k + 2) "_law_allows") := by rw [ph_at (d := d_law_allows) rfl]; exact s_law_allows (p_law_bounds W (k + 0)) (p_law_rows W (k + 0))
theorem p_copy_table : S_copyO (ph GG W TT (k + 1) "copy_table") := by rw [ph_at (d := d_copy_tableO) rfl]; exact s_copyO 
theorem p_size : S_size (ph GG W TT (k + 1) "size") := by rw [ph_at (d := d_size) rfl]; exact s_size 
theorem p_heard_bounds : S_heard (ph GG W TT (k + 1) "heard_bounds") := by rw [ph_at (d := d_heard_bounds) rfl]; exact s_heard 
theorem p_way_count : S_way_count (ph GG W TT (k + 2) "way_count") := by rw [ph_at (d := d_way_count) rfl]; exact s_way_count rfl (p_size W (k + 0)) (p_heard_bounds W (k + 0))
theorem p_way_at : S_way_at (ph GG W TT (k + 2) "way_at") := by rw [ph_at (d := d_way_at) rfl]; exact s_way_at (p_size W (k + 0)) (p_heard_bounds W (k + 0))
theorem p_all_ways : S_all_ways (ph GG W TT (k + 3) "all_ways") := by rw [ph_at (d := d_all_ways) rfl]; exact s_all_ways (p_way_count W (k + 0)) (p_way_at W (k + 0))
theorem p_row_at : S_row_at (ph GG W TT (k + 1) "row_at") := by rw [ph_at (d := d_row_at) rfl]; exact s_row_at 
theorem p_never_allows : S_never (ph GG W TT (k + 2) "never_allows") := by rw [ph_at (d := d_never_allows) rfl]; exact s_never (p_size W (k + 0)) (p_heard_bounds W (k + 0)) (p_row_at W (k + 0))
theorem p_rows_apart : S_apart (ph GG W TT (k + 2) "rows_apart") := by rw [ph_at (d := d_rows_apart) rfl]; exact s_apart (p_size W (k + 0)) (p_heard_bounds W (k + 0)) (p_row_at W (k + 0))
theorem p_allows : S_allows (ph GG W TT (k + 3) "allows") := by rw [ph_at (d := d_allows) rfl]; exact s_allows (p_never_allows W (k + 0)) (p_rows_apart W (k + 0))
theorem p_ways_left : S_left (ph GG W TT (k + 4) "ways_left") := by rw [ph_at (d := d_ways_left) rfl]; exact s_left (p_all_ways W (k + 0)) (p_allows W (k + 0))
theorem p_Data_1 : S_Data (ph GG W TT (k + 6) "Data") := by rw [ph_cl (f := "Data") (T := TT) (d := d_Data) rfl rfl]; exact s_Data14 (p_copy_table W (k + 3)) (p_ways_left W (k + 0))
theorem p_x_Data : S_DataK (ph GG W TT (k + 6) "!Data") := by rw [ph_clO (f := "!Data") (T := TT) (d := dK_Data) rfl rfl]; exact s_DataK (p_copy_table W (k + 3)) (p_ways_left W (k + 0))
theorem p_law_is_integer : S_int (ph GG W TT (k + 1) "_law_is_integer") := by rw [ph_at (d := d_law_is_integer) rfl]; exact s_law_int 
theorem p_law_same : ∀ n, S_same n (ph GG W TT (k + n + 2) "_law_same")
  | 0 => by rw [ph_at (d := d_law_same) rfl]; exact s_law_same 0 (p_law_is_integer W (k + 0)) (fun m e => absurd e (by omega))
  | n + 1 => by rw [show k + (n + 1) + 2 = k + n + 2 + 1 by omega, ph_at (d := d_law_same) rfl]; exact s_law_same (n + 1) (p_law_is_integer W (k + n + 1 + 0)) (fun m e => by cases e; exact p_law_same n)
theorem p_less : S_less (ph GG W TT (k + 1) "less") := by rw [ph_at (d := d_less) rfl]; exact s_less 
theorem p_ratio : S_ratio (ph GG W TT (k + 1) "ratio") := by rw [ph_at (d := d_ratio) rfl]; exact s_ratio 
theorem p_add : S_add (ph GG W TT (k + 2) "add") := by rw [ph_at (d := d_add) rfl]; exact s_add (p_ratio W (k + 0))
theorem p_added : S_added (ph GG W TT (k + 3) "added") := by rw [ph_at (d := d_added) rfl]; exact s_added rfl (p_add W (k + 0))
theorem p_is_mix : S_is_mix (ph GG W TT (k + 4) "is_mix") := by rw [ph_at (d := d_is_mix) rfl]; exact s_is_mix rfl rfl (p_less W (k + 2)) (p_added W (k + 0))
theorem p_place : S_place (ph GG W TT (k + 1) "place") := by rw [ph_at (d := d_place) rfl]; exact s_place 
theorem p_outcome : S_outcome (ph GG W TT (k + 2) "outcome") := by rw [ph_at (d := d_outcome) rfl]; exact s_outcome (p_place W (k + 0)) (p_heard_bounds W (k + 0))
theorem p_row_bounds : S_rbounds (ph GG W TT (k + 1) "row_bounds") := by rw [ph_at (d := d_row_bounds) rfl]; exact s_row_bounds 
theorem p_row_of : S_row_of (ph GG W TT (k + 3) "row_of") := by rw [ph_at (d := d_row_of) rfl]; exact s_row_of (p_outcome W (k + 0)) (p_place W (k + 1)) (p_row_bounds W (k + 1))
theorem p_row_chances : S_chances (ph GG W TT (k + 4) "row_chances") := by rw [ph_at (d := d_row_chances) rfl]; exact s_chances rfl (p_row_of W (k + 0)) (p_row_bounds W (k + 2)) (p_size W (k + 2)) (p_add W (k + 1))
theorem p_at_most : S_at_most (ph GG W TT (k + 1) "at_most") := by rw [ph_at (d := d_at_most) rfl]; exact s_at_most 
theorem p_agrees : S_agr14 (ph GG W TT (k + 5) "agrees") := by rw [ph_at (d := d_agrees) rfl]; exact s_agr14 (p_is_mix W (k + 0)) (p_row_chances W (k + 0)) (p_at_most W (k + 3))
theorem p_law_gcd : S_gcd (ph GG W TT (k + 1) "_law_gcd") := by rw [ph_at (d := d_law_gcd) rfl]; exact s_law_gcd 
theorem p_law_lowest : S_lowest (ph GG W TT (k + 2) "_law_lowest") := by rw [ph_at (d := d_law_lowest) rfl]; exact s_law_lowest (p_law_gcd W (k + 0))
theorem p_law_mix : S_mix (ph GG W TT (k + 3) "_law_mix") := by rw [ph_at (d := d_law_mix) rfl]; exact s_law_mix (p_law_lowest W (k + 0))
theorem p_law_setting : S_setting (ph GG W TT (k + 1) "_law_setting") := by rw [ph_at (d := d_law_setting) rfl]; exact s_law_setting 
theorem p_law_seen : S_seen (ph GG W TT (k + 2) "_law_seen") := by rw [ph_at (d := d_law_seen) rfl]; exact s_law_seen (p_law_size W (k + 0))
theorem p_law_place : S_place (ph GG W TT (k + 1) "_law_place") := by rw [ph_at (d := d_law_place) rfl]; exact s_law_place 
theorem p_law_outcome : S_loutcome (ph GG W TT (k + 2) "_law_outcome") := by rw [ph_at (d := d_law_outcome) rfl]; exact s_law_outcome (p_law_place W (k + 0)) (p_law_bounds W (k + 0))
theorem p_law_add : S_add (ph GG W TT (k + 3) "_law_add") := by rw [ph_at (d := d_law_add) rfl]; exact s_law_add (p_law_lowest W (k + 0))
theorem p_law_row_chances : S_lchances (ph GG W TT (k + 4) "_law_row_chances") := by rw [ph_at (d := d_law_row_chances) rfl]; exact s_law_chances (p_law_outcome W (k + 1)) (p_law_place W (k + 2)) (p_law_size W (k + 2)) (p_law_add W (k + 0))
theorem p_law_table : S_table14 (ph GG W TT (k + 5) "_law_table") := by rw [ph_at (d := d_law_table) rfl]; exact s_table14 (p_law_setting W (k + 3)) (p_law_seen W (k + 2)) (p_law_row_chances W (k + 0)) (p_law_lowest W (k + 2))
theorem p_law_changed : S_changed14 (ph GG W TT (k + 4) "_law_changed") := by rw [ph_at (d := d_law_changed) rfl]; exact s_changed14 (p_law_lowest W (k + 1)) (p_law_add W (k + 0)) (p_law_mix W (k + 0))
theorem p_law_is_mix : S_lmix14 (ph GG W TT (k + 4) "_law_is_mix") := by rw [ph_at (d := d_law_is_mix) rfl]; exact s_lmix14 (p_law_add W (k + 0))
theorem p_law_less : S_less (ph GG W TT (k + 1) "_law_less") := by rw [ph_at (d := d_law_less) rfl]; exact s_law_less14 
theorem p_law_within : S_lwithin (ph GG W TT (k + 2) "_law_within") := by rw [ph_at (d := d_law_within) rfl]; exact s_law_within (p_law_less W (k + 0))
theorem p_law_agrees : S_lagr14 (ph GG W TT (k + 5) "_law_agrees") := by rw [ph_at (d := d_law_agrees) rfl]; exact s_lagr14 (p_law_row_chances W (k + 0)) (p_law_within W (k + 2))
end
theorem main (ns : List Int) (hl : ns.length ≤ 63) : Law ns := by
  refine ⟨0, ?_⟩
  show ph GG _ TT (7 + 1) "law" _ = _
  rw [ph_at (d := d_law) rfl]
  exact law_k14 ns (p_law_row _ (6)) (p_law_shape _ (4)) (p_law_plain _ (6)) (p_law_made _ (4)) (p_law_ways _ (4)) (p_law_sentence _ (6)) (p_law_allows _ (5)) (p_Data_1 _ (1)) (p_x_Data _ (1)) (p_law_same _ (0) 5) (p_is_mix _ (3)) (p_agrees _ (2)) (p_law_mix _ (4)) (p_law_table _ (2)) (p_law_changed _ (3)) (p_law_is_mix _ (3)) (p_law_agrees _ (2))
end Ev
open PySem PySem.W PySem.Calls PyProof.Rows
set_option maxRecDepth 100000 in
set_option maxHeartbeats 0 in
theorem PySem.Challenge.cw_otherhow_k14_mixes_judged_holds : PySem.Challenge.rw_otherhow_k14_mixes_judged.Holds := by
  w_on; o_law
  refine HandSHeadRun.head_imp (r := OpenLaw.row PySem.Challenge.rw_otherhow_k14_mixes_judged) (q := view (OpenLaw.row PySem.Challenge.rw_otherhow_k14_mixes_judged).prog [0, 66]) (H := Ev.hk) (ob := Ev.ob) (M := 40000) (loose := Ev.looseL) (d := HandSHeadRun.topDef (OpenLaw.row PySem.Challenge.rw_otherhow_k14_mixes_judged).prog 66) (kwd := []) Ev.ob_eq
    Ev.run (by kernel_rfl) (by kernel_rfl) (by kernel_rfl) (by rfl) (by first | assumption | decide +kernel) (by decide +kernel) ⟨rfl, rfl, rfl, rfl, rfl, by decide +kernel⟩ ?hw ?hc
  case hw => w_witness2
  case hc =>
    refine L2.walk_ofE (l := PySem.Challenge.rw_otherhow_k14_mixes_judged) (n := 63) (k := Ev.KK) (x := "_law_script") (CX := L2.CX0) rfl (by decide) (by kernel_rfl) ⟨rfl, by decide, by decide⟩ ?F (fun _ _ _ _ z => z)
    intro w mg fa h Y G hmg0
    obtain ⟨K, KX, c⟩ := Y
    have hmg : mg ("law" : PySem.Str) = some (.ref fa) := by
      have e : (HandSHeadRun.topDef (OpenLaw.row PySem.Challenge.rw_otherhow_k14_mixes_judged).prog 66).name = ("law" : PySem.Str) := by kernel_rfl
      rw [← e]
      exact hmg0
    obtain ⟨fd, hb, hF⟩ := Ev.facts (P := (PySem.Challenge.rw_otherhow_k14_mixes_judged).prog) (w := w) KX G hmg c
    exact ⟨K, fd, Ev.spLaw K (Ev.KC K) fun W => Ev.ph Ev.GG W Ev.TT Ev.KK "law", KX, hb, fun H a ns hl hO hS => Ev.law_sp (Ev.main ns hl) hO hS, hF⟩

