import PyProof.Rows.All
import Wide.All
import OpenK.AllK
import Wide.FinOn
import HandS.ForMost
import HandS.IsInst
import HandS.TryOnly
import HandS.ForExc
import HandS.ExcIs
import HandS.Wide
import HandS.WideBits
import HandS.SortKw
import HandS.Style
import HandS.Text
import HandS.Codes
import HandS.FStr
import PySem.Challenge.RW_chancehall_k07_no_number
set_option Elab.async false
set_option linter.all false
set_option maxRecDepth 100000
set_option maxHeartbeats 4000000

namespace P
open PySem L2

inductive D where
  | non | bl (b : Bool) | int (i : Int) | str (x : Str) | ty (n : String) | cls (x : Str)
  | lst (ds : List D) | tup (ds : List D) | rd (ns : List Int) | ins (C : Str) (fs : List (Str × D)) | dic (kvs : List (Key × D)) | xo (x : Str) (own : Option (Str × D))

/-- an exception object of the class cls, its own dict at d -/
def XO (cls : Value) (d : Option Addr) (a : Addr) : HO := .ext fun h => ∃ (oe : Obj) (vs : Array Value), h.get? a = some oe ∧ oe.cls = cls ∧ oe.dict = d ∧ oe.data = .fields vs
mutual
inductive Rep (K : PySem.W.Frag) (H : Hp) : V → D → Prop
  | non : Rep K H .non .non
  | bl (b : Bool) : Rep K H (.bl b) (.bl b)
  | int (i : Int) : Rep K H (.int i) (.int i)
  | str (x : Str) : Rep K H (.str x) (.str x)
  | ty (n : String) : Rep K H (.ty n) (.ty n)
  | cls {x : Str} {C : Addr} : PySem.W.nsIn K mainGlobals x = some (some (.ref C)) → Rep K H (.ref C) (.cls x)
  | lst {a : Addr} {vs : List V} {ds : List D} : H a = some (.lst vs) → Reps K H vs ds → Rep K H (.ref a) (.lst ds)
  | tup {a : Addr} {vs : List V} {ds : List D} : H a = some (.tup vs) → Reps K H vs ds → Rep K H (.ref a) (.tup ds)
  | rd {a : Addr} {ns : List Int} : SqL K H a (ns.map V.int) → Rep K H (.ref a) (.rd ns)
  | ins {x : Str} {a C dx : Addr} {fs : List (Str × V)} {gs : List (Str × D)} : PySem.W.nsIn K mainGlobals x = some (some (.ref C)) → H a = some (.ins C dx fs) → RepF K H fs gs → Rep K H (.ref a) (.ins x gs)
  | dic {a : Addr} {kvs : List (Key × V)} {kds : List (Key × D)} : H a = some (.dK kvs) → RepK K H kvs kds → Rep K H (.ref a) (.dic kds)
  | xo0 {a C : Addr} {x : Str} : PySem.W.nsIn K mainGlobals x = some (some (.ref C)) → H a = some (XO (.ref C) none a) → Rep K H (.ref a) (.xo x none)
  | xo1 {a C dx : Addr} {x f : Str} {v : V} {d : D} : PySem.W.nsIn K mainGlobals x = some (some (.ref C)) → H a = some (XO (.ref C) (some dx) a) → H dx = some (.xd [(f, v)]) → Rep K H v d → Rep K H (.ref a) (.xo x (some (f, d)))
inductive Reps (K : PySem.W.Frag) (H : Hp) : List V → List D → Prop
  | nil : Reps K H [] []
  | cons {v : V} {d : D} {vs : List V} {ds : List D} : Rep K H v d → Reps K H vs ds → Reps K H (v :: vs) (d :: ds)
inductive RepF (K : PySem.W.Frag) (H : Hp) : List (Str × V) → List (Str × D) → Prop
  | nil : RepF K H [] []
  | cons {f : Str} {v : V} {d : D} {vs : List (Str × V)} {ds : List (Str × D)} : Rep K H v d → RepF K H vs ds → RepF K H ((f, v) :: vs) ((f, d) :: ds)
inductive RepK (K : PySem.W.Frag) (H : Hp) : List (Key × V) → List (Key × D) → Prop
  | nil : RepK K H [] []
  | cons {f : Key} {v : V} {d : D} {vs : List (Key × V)} {ds : List (Key × D)} : Rep K H v d → RepK K H vs ds → RepK K H ((f, v) :: vs) ((f, d) :: ds)
end
section
variable {K : PySem.W.Frag} {H H' : Hp}
mutual
theorem Rep.mono (e : Same H H') : ∀ {v : V} {d : D}, Rep K H v d → Rep K H' v d
  | _, _, .non => .non
  | _, _, .bl b => .bl b
  | _, _, .int b => .int b
  | _, _, .str b => .str b
  | _, _, .ty b => .ty b
  | _, _, .cls n => .cls n
  | _, _, .lst h r => .lst (e _ _ h) (Reps.mono e r)
  | _, _, .tup h r => .tup (e _ _ h) (Reps.mono e r)
  | _, _, .rd h => .rd (e.seq h)
  | _, _, .ins n h r => .ins n (e _ _ h) (RepF.mono e r)
  | _, _, .dic h r => .dic (e _ _ h) (RepK.mono e r)
  | _, _, .xo0 n h => .xo0 n (e _ _ h)
  | _, _, .xo1 n h h' r => .xo1 n (e _ _ h) (e _ _ h') (Rep.mono e r)
theorem Reps.mono (e : Same H H') : ∀ {v : List V} {d : List D}, Reps K H v d → Reps K H' v d
  | _, _, .nil => .nil
  | _, _, .cons a b => .cons (Rep.mono e a) (Reps.mono e b)
theorem RepF.mono (e : Same H H') : ∀ {v : List (Str × V)} {d : List (Str × D)}, RepF K H v d → RepF K H' v d
  | _, _, .nil => .nil
  | _, _, .cons a b => .cons (Rep.mono e a) (RepF.mono e b)
theorem RepK.mono (e : Same H H') : ∀ {v : List (Key × V)} {d : List (Key × D)}, RepK K H v d → RepK K H' v d
  | _, _, .nil => .nil
  | _, _, .cons a b => .cons (Rep.mono e a) (RepK.mono e b)
end
theorem Reps.length : ∀ {v : List V} {d : List D}, Reps K H v d → v.length = d.length
  | _, _, .nil => rfl
  | _, _, .cons _ b => congrArg (· + 1) b.length
theorem Reps.get : ∀ {v : List V} {d : List D} {i : Nat} {x : V}, Reps K H v d → v[i]? = some x → ∃ y, d[i]? = some y ∧ Rep K H x y
  | _, _, _, _, .nil, h => by cases h
  | _, _, 0, _, .cons a b, h => by cases h; exact ⟨_, rfl, a⟩
  | _, _, i + 1, _, .cons a b, h => b.get (i := i) h
theorem Reps.get' : ∀ {v : List V} {d : List D} {i : Nat} {y : D}, Reps K H v d → d[i]? = some y → ∃ x, v[i]? = some x ∧ Rep K H x y
  | _, _, _, _, .nil, h => by cases h
  | _, _, 0, _, .cons a b, h => by cases h; exact ⟨_, rfl, a⟩
  | _, _, i + 1, _, .cons a b, h => b.get' (i := i) h
theorem Reps.append : ∀ {v v' : List V} {d d' : List D}, Reps K H v d → Reps K H v' d' → Reps K H (v ++ v') (d ++ d')
  | _, _, _, _, .nil, h => h
  | _, _, _, _, .cons a b, h => .cons a (b.append h)
theorem Reps.take : ∀ {v : List V} {d : List D} (i : Nat), Reps K H v d → Reps K H (v.take i) (d.take i)
  | _, _, 0, _ => .nil
  | _, _, _ + 1, .nil => .nil
  | _, _, i + 1, .cons a b => .cons a (b.take i)
theorem Reps.drop : ∀ {v : List V} {d : List D} (i : Nat), Reps K H v d → Reps K H (v.drop i) (d.drop i)
  | _, _, 0, r => r
  | _, _, _ + 1, .nil => .nil
  | _, _, i + 1, .cons _ b => b.drop i
theorem Reps.ints : ∀ {v : List V} {ns : List Int}, Reps K H v (ns.map D.int) → v = ns.map V.int
  | _, [], .nil => rfl
  | _, _ :: _, .cons (.int _) b => congrArg (_ :: ·) b.ints
theorem Reps.of_ints : ∀ (ns : List Int), Reps K H (ns.map V.int) (ns.map D.int)
  | [] => .nil
  | n :: r => .cons (.int n) (Reps.of_ints r)
theorem Reps.bls : ∀ {v : List V} {ns : List Bool}, Reps K H v (ns.map D.bl) → v = ns.map V.bl
  | _, [], .nil => rfl
  | _, _ :: _, .cons (.bl _) b => congrArg (_ :: ·) b.bls
theorem Reps.strs : ∀ {v : List V} {ns : List Str}, Reps K H v (ns.map D.str) → v = ns.map V.str
  | _, [], .nil => rfl
  | _, _ :: _, .cons (.str _) b => congrArg (_ :: ·) b.strs
theorem RepF.look : ∀ {fs : List (Str × V)} {gs : List (Str × D)} {f : Str} {d : D}, RepF K H fs gs → gs.lookup f = some d → ∃ v, fs.lookup f = some v ∧ Rep K H v d
  | _, _, _, _, .nil, h => by cases h
  | _, _, f, d, .cons (f := g) a b, h => by
    rw [List.lookup_cons] at h ⊢
    by_cases e : f == g
    · rw [e] at h ⊢
      cases h
      exact ⟨_, rfl, a⟩
    · rw [Bool.not_eq_true] at e
      rw [e] at h ⊢
      exact b.look h
end

open Classical in
noncomputable def del (H : Hp) (O : Addr → Prop) : Hp := fun b => if O b then none else H b
theorem del_some {H : Hp} {O : Addr → Prop} {a : Addr} {o : HO} : del H O a = some o ↔ ¬ O a ∧ H a = some o := by
  unfold del
  split
  · rename_i h
    constructor
    · intro z; cases z
    · rintro ⟨z, _⟩; exact absurd h z
  · rename_i h
    exact ⟨fun z => ⟨h, z⟩, fun z => z.2⟩
theorem del_mono {H H' : Hp} {O : Addr → Prop} (e : Same H H') : Same (del H O) (del H' O) := fun b o h => by
  rw [del_some] at h ⊢
  exact ⟨h.1, e _ _ h.2⟩
theorem del_sub {H : Hp} {O O' : Addr → Prop} (e : ∀ a, O' a → O a) : Same (del H O) (del H O') := fun b o h => by
  rw [del_some] at h ⊢
  exact ⟨fun z => h.1 (e _ z), h.2⟩
theorem del_same (H : Hp) (O : Addr → Prop) : Same (del H O) H := fun b o h => (del_some.mp h).2
theorem del_nil (H : Hp) : del H (fun _ => False) = H := by
  funext b
  unfold del
  rw [if_neg (by simp)]
/-- what may be written -/
def isMut : HO → Bool
  | .lst _ => true | .dK _ => true | .ins _ _ _ => true | _ => false
def Mu (H : Hp) (a : Addr) : Prop := ∃ o, H a = some o ∧ isMut o = true
theorem Mu.mono {H H' : Hp} {a : Addr} (e : Same H H') (h : Mu H a) : Mu H' a := by
  obtain ⟨o, h1, h2⟩ := h
  exact ⟨o, e _ _ h1, h2⟩
/-- what may not be written is kept -/
def KeepI (H H' : Hp) : Prop := ∀ a o, H a = some o → isMut o = false → H' a = some o
theorem same_upd {H : Hp} {p : Addr} (o : HO) (h : H p = none) : Same H (upd H p o) := fun b u q => by
  rw [upd_ne (ne_of_none q h)]
  exact q

/-- no list, dict or instance in it -/
def flat : D → Bool
  | .lst _ => false | .rd _ => false | .ins _ _ => false | .dic _ => false
  | .tup ds => flats ds
  | .xo _ (some (_, d)) => flat d
  | _ => true
where flats : List D → Bool
  | [] => true
  | d :: ds => flat d && flats ds
abbrev flats := flat.flats
mutual
theorem Rep.flat {K : PySem.W.Frag} {H H' : Hp} (e : KeepI H H') : ∀ {v : V} {d : D}, Rep K H v d → flat d = true → Rep K H' v d
  | _, _, .non, _ => .non
  | _, _, .bl b, _ => .bl b
  | _, _, .int b, _ => .int b
  | _, _, .str b, _ => .str b
  | _, _, .ty b, _ => .ty b
  | _, _, .cls n, _ => .cls n
  | _, _, .lst h r, q => nomatch q
  | _, _, .tup h r, q => .tup (e _ _ h rfl) (Reps.flat e r q)
  | _, _, .rd h, q => nomatch q
  | _, _, .ins n h r, q => nomatch q
  | _, _, .dic h r, q => nomatch q
  | _, _, .xo0 n h, _ => .xo0 n (e _ _ h rfl)
  | _, _, .xo1 n h h' r, q => .xo1 n (e _ _ h rfl) (e _ _ h' rfl) (Rep.flat e r q)
theorem Reps.flat {K : PySem.W.Frag} {H H' : Hp} (e : KeepI H H') : ∀ {v : List V} {d : List D}, Reps K H v d → flats d = true → Reps K H' v d
  | _, _, .nil, _ => .nil
  | _, _, .cons a b, q => by
    have q' : (P.flat _ && flats _) = true := q
    rw [Bool.and_eq_true] at q'
    exact .cons (Rep.flat e a q'.1) (Reps.flat e b q'.2)
end
theorem flats_mem : ∀ {ds : List D} {d : D}, flats ds = true → d ∈ ds → flat d = true
  | e :: ds, d, h, hd => by
    have q' : (flat e && flats ds) = true := h
    rw [Bool.and_eq_true] at q'
    rcases List.mem_cons.mp hd with rfl | hd
    · exact q'.1
    · exact flats_mem q'.2 hd

/-! ### what is held -/
inductive Root where
  | sl (i : Nat) | tm (j : Nat)
  deriving DecidableEq
abbrev Own := Addr → Option (Root × List Nat)
/-- addresses that no held thing touches -/
def Av (B : Addr → Prop) (o : Own) : Addr → Prop := fun a => B a ∨ ∃ p, o a = some p
mutual
/-- the tree at the root r, place p: k levels of it are held -/
inductive RO (K : PySem.W.Frag) (H : Hp) (A : Addr → Prop) (o : Own) : Root → List Nat → Nat → V → D → Prop
  | st {r : Root} {p : List Nat} {v : V} {d : D} : Rep K (del H A) v d → RO K H A o r p 0 v d
  | flat {r : Root} {p : List Nat} {k : Nat} {v : V} {d : D} : flat d = true → Rep K H v d → RO K H A o r p (k + 1) v d
  | lst {r : Root} {p : List Nat} {k : Nat} {a : Addr} {vs : List V} {ds : List D} : o a = some (r, p) → H a = some (.lst vs) → ROs K H A o r p 0 k vs ds → RO K H A o r p (k + 1) (.ref a) (.lst ds)
  | tup {r : Root} {p : List Nat} {k : Nat} {a : Addr} {vs : List V} {ds : List D} : H a = some (.tup vs) → ROs K H A o r p 0 (k + 1) vs ds → RO K H A o r p (k + 1) (.ref a) (.tup ds)
  | ins {r : Root} {p : List Nat} {k : Nat} {x : Str} {a C dx : Addr} {fs : List (Str × V)} {gs : List (Str × D)} : o a = some (r, p) → PySem.W.nsIn K mainGlobals x = some (some (.ref C)) → H a = some (.ins C dx fs) → ROs K H A o r p 0 k (fs.map (·.2)) (gs.map (·.2)) → fs.map (·.1) = gs.map (·.1) → RO K H A o r p (k + 1) (.ref a) (.ins x gs)
  | dic {r : Root} {p : List Nat} {k : Nat} {a : Addr} {kvs : List (Key × V)} {kds : List (Key × D)} : o a = some (r, p) → H a = some (.dK kvs) → ROs K H A o r p 0 k (kvs.map (·.2)) (kds.map (·.2)) → kvs.map (·.1) = kds.map (·.1) → RO K H A o r p (k + 1) (.ref a) (.dic kds)
inductive ROs (K : PySem.W.Frag) (H : Hp) (A : Addr → Prop) (o : Own) : Root → List Nat → Nat → Nat → List V → List D → Prop
  | nil {r : Root} {p : List Nat} {i k : Nat} : ROs K H A o r p i k [] []
  | cons {r : Root} {p : List Nat} {i k : Nat} {v : V} {d : D} {vs : List V} {ds : List D} : RO K H A o r (p ++ [i]) k v d → ROs K H A o r p (i + 1) k vs ds → ROs K H A o r p i k (v :: vs) (d :: ds)
end
section
variable {K : PySem.W.Frag} {H H' : Hp} {A A' : Addr → Prop} {o o' : Own}
/-- the tree stands elsewhere, in another heap -/
structure Tr (K : PySem.W.Frag) (H H' : Hp) (A A' : Addr → Prop) (o o' : Own) (r : Root) (p : List Nat) (r' : Root) (p' : List Nat) : Prop where
  st : Same (del H A) (del H' A')
  ki : KeepI H H'
  nd : ∀ a q, o a = some (r, p ++ q) → o' a = some (r', p' ++ q) ∧ ∀ u, H a = some u → H' a = some u
mutual
theorem RO.tr {r r' : Root} {p0 p0' : List Nat} (T : Tr K H H' A A' o o' r p0 r' p0') : ∀ {p : List Nat} {k : Nat} {v : V} {d : D} {q : List Nat}, p = p0 ++ q → RO K H A o r p k v d → RO K H' A' o' r' (p0' ++ q) k v d
  | _, _, _, _, q, _, .st h => .st (h.mono T.st)
  | _, _, _, _, q, _, .flat f h => .flat f (h.flat T.ki f)
  | _, _, _, _, q, e, .lst ha hh hs => .lst (T.nd _ q (e ▸ ha)).1 ((T.nd _ q (e ▸ ha)).2 _ hh) (ROs.tr T e hs)
  | _, _, _, _, q, e, .tup hh hs => .tup (T.ki _ _ hh rfl) (ROs.tr T e hs)
  | _, _, _, _, q, e, .ins ha hn hh hs hk => .ins (T.nd _ q (e ▸ ha)).1 hn ((T.nd _ q (e ▸ ha)).2 _ hh) (ROs.tr T e hs) hk
  | _, _, _, _, q, e, .dic ha hh hs hk => .dic (T.nd _ q (e ▸ ha)).1 ((T.nd _ q (e ▸ ha)).2 _ hh) (ROs.tr T e hs) hk
theorem ROs.tr {r r' : Root} {p0 p0' : List Nat} (T : Tr K H H' A A' o o' r p0 r' p0') : ∀ {p : List Nat} {i k : Nat} {vs : List V} {ds : List D} {q : List Nat}, p = p0 ++ q → ROs K H A o r p i k vs ds → ROs K H' A' o' r' (p0' ++ q) i k vs ds
  | _, _, _, _, _, q, _, .nil => .nil
  | _, i, _, _, _, q, e, .cons h hs => .cons (by
      have z := RO.tr T (q := q ++ [i]) (by rw [e, List.append_assoc]) h
      rw [← List.append_assoc] at z
      exact z) (ROs.tr T e hs)
end
theorem ROs.repF {o : Own} (h : Reps K H' (fs.map (·.2)) (gs.map (·.2))) (e : fs.map (·.1) = gs.map (·.1)) : RepF K H' fs gs := by
  induction fs generalizing gs with
  | nil =>
    cases gs with
    | nil => exact .nil
    | cons g gs => cases e
  | cons f fs ih =>
    cases gs with
    | nil => cases e
    | cons g gs =>
      obtain ⟨f1, f2⟩ := f
      obtain ⟨g1, g2⟩ := g
      cases h with
      | cons h hs =>
        simp only [List.map_cons, List.cons.injEq] at e
        obtain ⟨rfl, e⟩ := e
        exact .cons h (ih hs e)
theorem ROs.repK {o : Own} (h : Reps K H' (fs.map (·.2)) (gs.map (·.2))) (e : fs.map (·.1) = gs.map (·.1)) : RepK K H' fs gs := by
  induction fs generalizing gs with
  | nil =>
    cases gs with
    | nil => exact .nil
    | cons g gs => cases e
  | cons f fs ih =>
    cases gs with
    | nil => cases e
    | cons g gs =>
      obtain ⟨f1, f2⟩ := f
      obtain ⟨g1, g2⟩ := g
      cases h with
      | cons h hs =>
        simp only [List.map_cons, List.cons.injEq] at e
        obtain ⟨rfl, e⟩ := e
        exact .cons h (ih hs e)
/-- the tree is let go -/
structure Fz (K : PySem.W.Frag) (H H' : Hp) (A : Addr → Prop) (o : Own) (r : Root) (p : List Nat) : Prop where
  st : Same (del H A) H'
  ki : KeepI H H'
  nd : ∀ a q u, o a = some (r, p ++ q) → H a = some u → H' a = some u
mutual
theorem RO.rep {r : Root} {p0 : List Nat} (T : Fz K H H' A o r p0) : ∀ {p : List Nat} {k : Nat} {v : V} {d : D} {q : List Nat}, p = p0 ++ q → RO K H A o r p k v d → Rep K H' v d
  | _, _, _, _, q, _, .st h => h.mono T.st
  | _, _, _, _, q, _, .flat f h => h.flat T.ki f
  | _, _, _, _, q, e, .lst ha hh hs => .lst (T.nd _ q _ (e ▸ ha) hh) (ROs.rep T e hs)
  | _, _, _, _, q, e, .tup hh hs => .tup (T.ki _ _ hh rfl) (ROs.rep T e hs)
  | _, _, _, _, q, e, .ins ha hn hh hs hk => .ins hn (T.nd _ q _ (e ▸ ha) hh) (ROs.repF (o := o) (ROs.rep T e hs) hk)
  | _, _, _, _, q, e, .dic ha hh hs hk => .dic (T.nd _ q _ (e ▸ ha) hh) (ROs.repK (o := o) (ROs.rep T e hs) hk)
theorem ROs.rep {r : Root} {p0 : List Nat} (T : Fz K H H' A o r p0) : ∀ {p : List Nat} {i k : Nat} {vs : List V} {ds : List D} {q : List Nat}, p = p0 ++ q → ROs K H A o r p i k vs ds → Reps K H' vs ds
  | _, _, _, _, _, q, _, .nil => .nil
  | _, i, _, _, _, q, e, .cons h hs => .cons (RO.rep T (q := q ++ [i]) (by rw [e, List.append_assoc]) h) (ROs.rep T e hs)
end
/-- as it stands in the heap -/
theorem RO.repH {r : Root} {p : List Nat} {k : Nat} {v : V} {d : D} (h : RO K H A o r p k v d) : Rep K H v d :=
  RO.rep (p0 := p) (q := []) ⟨del_same _ _, fun _ _ q _ => q, fun _ _ _ _ q => q⟩ (by simp) h
theorem ROs.get {r : Root} : ∀ {p : List Nat} {i k : Nat} {vs : List V} {ds : List D} {j : Nat} {d : D}, ROs K H A o r p i k vs ds → ds[j]? = some d → ∃ v, vs[j]? = some v ∧ RO K H A o r (p ++ [i + j]) k v d
  | _, _, _, _, _, _, _, .nil, h => by cases h
  | _, _, _, _, _, 0, _, .cons a b, h => by cases h; exact ⟨_, rfl, a⟩
  | _, _, _, _, _, j + 1, _, .cons a b, h => by
    obtain ⟨v, e, r⟩ := ROs.get (j := j) b h
    exact ⟨v, e, by rw [show ∀ i j : Nat, i + (j + 1) = i + 1 + j from fun i j => by omega]; exact r⟩
theorem ROs.length {r : Root} : ∀ {p : List Nat} {i k : Nat} {vs : List V} {ds : List D}, ROs K H A o r p i k vs ds → vs.length = ds.length
  | _, _, _, _, _, .nil => rfl
  | _, _, _, _, _, .cons _ b => congrArg (· + 1) b.length
theorem ROs.append {r : Root} : ∀ {p : List Nat} {i k : Nat} {vs ws : List V} {ds es : List D}, ROs K H A o r p i k vs ds → ROs K H A o r p (i + ds.length) k ws es → ROs K H A o r p i k (vs ++ ws) (ds ++ es)
  | _, _, _, _, _, _, _, .nil, h => h
  | _, i, _, _, _, _, _, .cons a b, h => .cons a (b.append (by
    rw [List.length_cons, show ∀ n : Nat, i + (n + 1) = i + 1 + n from fun n => by omega] at h
    exact h))
end
end P

namespace P
open PySem L2
theorem del_upd {H : Hp} {O : Addr → Prop} {a : Addr} {o : HO} (h : O a) : del (upd H a o) O = del H O := by
  funext b
  unfold del
  by_cases hb : b = a
  · subst hb
    rw [if_pos h, if_pos h]
  · rw [upd_ne hb]
/-- a local: not known; the tree d, k levels of it held -/
inductive Sl where
  | no | ow (k : Nat) (d : D)
abbrev Env := List Sl
/-- a thing at hand: k levels of it held; to be looked at alone; at a place of the tree at w -/
inductive Kd where
  | ow (k : Nat) | bw | pl (w : V) (q : List Nat)
structure T where
  v : V
  k : Kd
  d : D
def child (H : Hp) (a : Addr) (j : Nat) : Option V := match H a with
  | some (.lst vs) => vs[j]?
  | some (.tup vs) => vs[j]?
  | some (.ins _ _ fs) => (fs.map (·.2))[j]?
  | some (.dK kvs) => (kvs.map (·.2))[j]?
  | _ => none
/-- from w the path q leads to v -/
def PathTo (H : Hp) : V → List Nat → V → Prop
  | w, [], v => v = w
  | w, j :: q, v => ∃ a u, w = .ref a ∧ child H a j = some u ∧ PathTo H u q v
theorem child_mono {H H' : Hp} (e : Same H H') {a : Addr} {j : Nat} {u : V} (h : child H a j = some u) : child H' a j = some u := by
  unfold child at h ⊢
  cases q : H a with
  | none => rw [q] at h; cases h
  | some o =>
    rw [e _ _ q]
    rw [q] at h
    exact h
theorem PathTo.mono {H H' : Hp} (e : Same H H') : ∀ {q : List Nat} {w v : V}, PathTo H w q v → PathTo H' w q v
  | [], _, _, h => h
  | j :: q, w, v, h => by
    obtain ⟨a, u, h1, h2, h3⟩ := h
    exact ⟨a, u, h1, child_mono e h2, PathTo.mono e h3⟩
theorem PathTo.snoc {H : Hp} {j : Nat} {u : V} {a : Addr} : ∀ {q : List Nat} {w : V}, PathTo H w q (.ref a) → child H a j = some u → PathTo H w (q ++ [j]) u
  | [], w, h, h2 => ⟨a, u, h.symm, h2, rfl⟩
  | i :: q, w, h, h2 => by
    obtain ⟨a', u', e1, e2, e3⟩ := h
    exact ⟨a', u', e1, e2, PathTo.snoc e3 h2⟩
section
variable (K : PySem.W.Frag) (H : Hp) (B : Addr → Prop) (o : Own)
def TmOk (j : Nat) (t : T) : Prop := match t.k with
  | .ow k => RO K H (Av B o) o (.tm j) [] k t.v t.d
  | .bw => Rep K H t.v t.d
  | .pl w q => PathTo H w q t.v
def TOk : List T → Prop
  | [] => True
  | t :: τ => TmOk K H B o τ.length t ∧ TOk τ
end
/-- the dict of an exception that is handled -/
structure Px where
  a : Addr
  f : Str
  v : V
  d : D
/-- what stays throughout -/
structure Bg where
  hp : Hp
  pn : List Px
def Bk (K : PySem.W.Frag) (B : Addr → Prop) (G : Bg) (H : Hp) (o : Own) : Prop := Same G.hp H ∧ ∀ p, p ∈ G.pn → H p.a = some (.xd [(p.f, p.v)]) ∧ Rep K (del H (Av B o)) p.v p.d
theorem Bk.tr {K : PySem.W.Frag} {B : Addr → Prop} {G : Bg} {H H' : Hp} {o o' : Own} (h : Bk K B G H o) (hs : Same G.hp H') (hk : KeepI H H') (hd : Same (del H (Av B o)) (del H' (Av B o'))) : Bk K B G H' o' :=
  ⟨hs, fun p hp => ⟨hk _ _ (h.2 p hp).1 rfl, (h.2 p hp).2.mono hd⟩⟩
structure Ok (K : PySem.W.Frag) (B : Addr → Prop) (H0 : Hp) (Hf : Bg) (σ : St) (ρ : Env) (τ : List T) (H : Hp) (o : Own) : Prop where
  len : σ.length = ρ.length
  bs : ∀ a, B a → Mu H0 a
  sm : Same H0 H
  fl : Bk K B Hf H o
  ow : ∀ a p, o a = some p → H0 a = none ∧ Mu H a
  sl : ∀ i k d, ρ[i]? = some (.ow k d) → ∃ v, σ[i]? = some (some v) ∧ RO K H (Av B o) o (.sl i) [] k v d
  tp : TOk K H B o τ
section
variable {K : PySem.W.Frag} {B : Addr → Prop} {H0 H H' : Hp} {Hf : Bg} {σ σ' : St} {ρ ρ' : Env} {τ τ' : List T} {o o' : Own} {v : V} {d : D} {t : T} {k : Nat} {r r' : Root} {p p' : List Nat}
theorem Ok.mu (I : Ok K B H0 Hf σ ρ τ H o) {a : Addr} (h : Av B o a) : Mu H a := by
  rcases h with h | ⟨p, h⟩
  · exact (I.bs a h).mono I.sm
  · exact (I.ow a p h).2
theorem Ok.nb (I : Ok K B H0 Hf σ ρ τ H o) {a : Addr} {p : Root × List Nat} (h : o a = some p) : ¬ B a := fun hb => by
  obtain ⟨u, e, _⟩ := I.bs a hb
  rw [(I.ow a p h).1] at e
  cases e
theorem RO.grow (e : Same H H') (h : RO K H (Av B o) o r p k v d) : RO K H' (Av B o) o r p k v d := by
  have z := RO.tr (p0 := p) (p0' := p) (r' := r) (q := []) ⟨del_mono e, fun a u h _ => e a u h, fun a q h => ⟨h, e a⟩⟩ (by simp) h
  simpa using z
theorem TmOk.grow (e : Same H H') {j : Nat} (h : TmOk K H B o j t) : TmOk K H' B o j t := by
  obtain ⟨v, k, d⟩ := t
  cases k with
  | ow k => exact RO.grow e h
  | bw => exact Rep.mono e h
  | pl w q => exact PathTo.mono e h
theorem TOk.grow (e : Same H H') : ∀ {τ : List T}, TOk K H B o τ → TOk K H' B o τ
  | [], _ => trivial
  | _ :: _, h => ⟨h.1.grow e, TOk.grow e h.2⟩
theorem Ok.grow (I : Ok K B H0 Hf σ ρ τ H o) (e : Same H H') : Ok K B H0 Hf σ ρ τ H' o :=
  ⟨I.len, I.bs, I.sm.trans e, I.fl.tr (I.fl.1.trans e) (fun a u h _ => e a u h) (del_mono e), fun a p h => ⟨(I.ow a p h).1, (I.ow a p h).2.mono e⟩, fun i k d h => by
    obtain ⟨v, e1, e2⟩ := I.sl i k d h
    exact ⟨v, e1, e2.grow e⟩, I.tp.grow e⟩
theorem Ok.push (I : Ok K B H0 Hf σ ρ τ H o) (h : TmOk K H B o τ.length t) : Ok K B H0 Hf σ ρ (t :: τ) H o := ⟨I.len, I.bs, I.sm, I.fl, I.ow, I.sl, h, I.tp⟩
theorem Ok.pop (I : Ok K B H0 Hf σ ρ (t :: τ) H o) : Ok K B H0 Hf σ ρ τ H o := ⟨I.len, I.bs, I.sm, I.fl, I.ow, I.sl, I.tp.2⟩
theorem TOk.drop : ∀ {τ' τ : List T}, TOk K H B o (τ' ++ τ) → TOk K H B o τ
  | [], _, h => h
  | _ :: τ', _, h => TOk.drop (τ' := τ') h.2
theorem Ok.pops (I : Ok K B H0 Hf σ ρ (τ' ++ τ) H o) : Ok K B H0 Hf σ ρ τ H o := ⟨I.len, I.bs, I.sm, I.fl, I.ow, I.sl, I.tp.drop⟩
theorem Ok.top (I : Ok K B H0 Hf σ ρ (t :: τ) H o) : TmOk K H B o τ.length t := I.tp.1
theorem Ok.stab (I : Ok K B H0 Hf σ ρ τ H o) (h : Rep K (del H (Av B o)) v d) : Ok K B H0 Hf σ ρ (⟨v, .ow 0, d⟩ :: τ) H o := I.push (.st h)
theorem keep_av (I : Ok K B H0 Hf σ ρ τ H o) : KeepI H (del H (Av B o)) := fun a u h hu => by
  refine del_some.mpr ⟨fun z => ?_, h⟩
  obtain ⟨u', e, m⟩ := I.mu z
  rw [h] at e
  cases e
  rw [hu] at m
  cases m
/-- flat things are held for nothing -/
theorem Ok.flatP (I : Ok K B H0 Hf σ ρ τ H o) (r : Rep K H v d) (h : flat d = true) : Ok K B H0 Hf σ ρ (⟨v, .ow 0, d⟩ :: τ) H o := I.stab (r.flat (keep_av I) h)
def isS : D → Bool
  | .non => true | .bl _ => true | .int _ => true | .str _ => true | .ty _ => true | _ => false
def toV : D → V
  | .non => .non | .bl b => .bl b | .int i => .int i | .str s => .str s | .ty n => .ty n
  | _ => .non
theorem Rep.sc {K : PySem.W.Frag} {H : Hp} {v : V} {d : D} (r : Rep K H v d) (h : isS d = true) : v = toV d := by
  cases r <;> first | rfl | cases h
theorem Rep.of_sc {K : PySem.W.Frag} {H : Hp} {d : D} (h : isS d = true) : Rep K H (toV d) d := by
  cases d <;> first | constructor | cases h
theorem Ok.scal (I : Ok K B H0 Hf σ ρ τ H o) (h : isS d = true) : Ok K B H0 Hf σ ρ (⟨toV d, .ow 0, d⟩ :: τ) H o := I.stab (.of_sc h)
/-- as it stands in the heap -/
theorem TmOk.rep {j : Nat} (h : TmOk K H B o j t) (hk : ∀ w q, t.k ≠ .pl w q) : Rep K H t.v t.d := by
  obtain ⟨v, k, d⟩ := t
  cases k with
  | ow k => exact RO.repH h
  | bw => exact h
  | pl w q => exact absurd rfl (hk w q)
/-! ### places are renamed or let go -/
def ob (o : Own) (g : Root × List Nat → Option (Root × List Nat)) : Own := fun a => (o a).bind g
theorem ob_some {g : Root × List Nat → Option (Root × List Nat)} {a : Addr} {z : Root × List Nat} (h : ob o g a = some z) : ∃ y, o a = some y ∧ g y = some z := by
  unfold ob at h
  cases e : o a with
  | none => rw [e] at h; cases h
  | some y => rw [e] at h; exact ⟨y, rfl, h⟩
theorem av_ob {g : Root × List Nat → Option (Root × List Nat)} {a : Addr} (h : Av B (ob o g) a) : Av B o a := by
  rcases h with h | ⟨z, h⟩
  · exact .inl h
  · obtain ⟨y, e, _⟩ := ob_some h
    exact .inr ⟨y, e⟩
theorem RO.re {g : Root × List Nat → Option (Root × List Nat)} (hg : ∀ q, g (r, p ++ q) = some (r', p' ++ q)) (h : RO K H (Av B o) o r p k v d) : RO K H (Av B (ob o g)) (ob o g) r' p' k v d := by
  have z := RO.tr (p0 := p) (p0' := p') (r' := r') (q := []) (o' := ob o g) (A' := Av B (ob o g)) (H' := H) ⟨del_sub fun a => av_ob, fun a u h _ => h, fun a q h => ⟨by unfold ob; rw [h]; exact hg q, fun u e => e⟩⟩ (by simp) h
  simpa using z
theorem RO.fz {g : Root × List Nat → Option (Root × List Nat)} (I : Ok K B H0 Hf σ ρ τ H o) (hg : ∀ q, g (r, p ++ q) = none) (h : RO K H (Av B o) o r p k v d) : Rep K (del H (Av B (ob o g))) v d :=
  RO.rep (p0 := p) (q := []) ⟨del_sub fun a => av_ob, fun a u h hu => del_sub (fun a => av_ob) a u (keep_av I a u h hu), fun a q u h e => by
    refine del_some.mpr ⟨fun z => ?_, e⟩
    rcases z with z | ⟨y, z⟩
    · exact I.nb h z
    · unfold ob at z
      rw [h] at z
      have z : g (r, p ++ q) = some y := z
      rw [hg] at z
      cases z⟩ (by simp) h
/-- the new roots of the temps from n on -/
theorem Ok.remap (I : Ok K B H0 Hf σ ρ τ H o) (g : Root × List Nat → Option (Root × List Nat)) (hl : σ'.length = ρ'.length)
    (hs : ∀ i k d, ρ'[i]? = some (.ow k d) → ∃ v, σ'[i]? = some (some v) ∧ RO K H (Av B (ob o g)) (ob o g) (.sl i) [] k v d) (ht : TOk K H B (ob o g) τ') : Ok K B H0 Hf σ' ρ' τ' H (ob o g) :=
  ⟨hl, I.bs, I.sm, I.fl.tr I.fl.1 (fun a u h _ => h) (del_sub fun a => av_ob), fun a p h => by
    obtain ⟨y, e, _⟩ := ob_some h
    exact I.ow a y e, hs, ht⟩
theorem TOk.re {g : Root × List Nat → Option (Root × List Nat)} : ∀ {τ : List T}, (∀ j q, j < τ.length → g (.tm j, q) = some (.tm j, q)) → TOk K H B o τ → TOk K H B (ob o g) τ
  | [], _, _ => trivial
  | t :: τ, hg, h => ⟨by
      obtain ⟨v, k, d⟩ := t
      obtain ⟨h, _⟩ := h
      cases k with
      | ow k => exact RO.re (fun q => hg _ _ (Nat.lt_succ_self _)) h
      | bw => exact h
      | pl w q => exact h, TOk.re (fun j q hj => hg j q (Nat.lt_succ_of_lt hj)) h.2⟩
theorem set_get {α : Type} {ρ : List α} {i j : Nat} {x y : α} (h : (ρ.set i x)[j]? = some y) : (i = j ∧ x = y ∧ i < ρ.length) ∨ (i ≠ j ∧ ρ[j]? = some y) := by
  by_cases hj : i = j
  · subst hj
    by_cases hi : i < ρ.length
    · rw [List.getElem?_set_self hi] at h
      cases h
      exact .inl ⟨rfl, rfl, hi⟩
    · rw [List.getElem?_eq_none (by rw [List.length_set]; omega)] at h
      cases h
  · rw [List.getElem?_set_ne hj] at h
    exact .inr ⟨hj, h⟩
/-- the thing at hand is put into a slot -/
def gSet (n i : Nat) : Root × List Nat → Option (Root × List Nat) := fun z => if z.1 = .tm n then some (.sl i, z.2) else some z
theorem Ok.set (I : Ok K B H0 Hf σ ρ (⟨v, .ow k, d⟩ :: τ) H o) (i : Nat) : Ok K B H0 Hf (σ.set i (some v)) (ρ.set i (.ow k d)) τ H (ob o (gSet τ.length i)) := by
  refine I.remap _ (by rw [List.length_set, List.length_set, I.len]) (fun j k' d' h => ?_) (TOk.re (fun j q hj => ?_) I.pop.tp)
  · rcases set_get h with ⟨rfl, z, hi⟩ | ⟨n, h⟩
    · cases z
      exact ⟨v, by rw [List.getElem?_set_self (by rw [I.len]; exact hi)], RO.re (fun q => if_pos rfl) I.top⟩
    · obtain ⟨v', e1, e2⟩ := I.sl j k' d' h
      exact ⟨v', by rw [List.getElem?_set_ne n]; exact e1, RO.re (fun q => if_neg (by intro z; cases z)) e2⟩
  · exact if_neg (by intro z; cases z; omega)
/-- a slot is let go -/
def gFz (i : Nat) : Root × List Nat → Option (Root × List Nat) := fun z => if z.1 = .sl i then none else some z
theorem Ok.freeze (I : Ok K B H0 Hf σ ρ τ H o) {i : Nat} (h : ρ[i]? = some (.ow k d)) : Ok K B H0 Hf σ (ρ.set i (.ow 0 d)) τ H (ob o (gFz i)) := by
  refine I.remap _ (by rw [List.length_set, I.len]) (fun j k' d' h' => ?_) (TOk.re (fun j q hj => if_neg (by intro z; cases z)) I.tp)
  rcases set_get h' with ⟨rfl, z, hi⟩ | ⟨n, h'⟩
  · cases z
    obtain ⟨v, e1, e2⟩ := I.sl i k d h
    exact ⟨v, e1, .st (RO.fz I (fun q => if_pos rfl) e2)⟩
  · obtain ⟨v', e1, e2⟩ := I.sl j k' d' h'
    exact ⟨v', e1, RO.re (fun q => if_neg (by intro z; cases z; exact n rfl)) e2⟩
/-- a slot's thing is taken out -/
def gOut (i n : Nat) : Root × List Nat → Option (Root × List Nat) := fun z => if z.1 = .sl i then some (.tm n, z.2) else some z
theorem Ok.out (I : Ok K B H0 Hf σ ρ τ H o) {i : Nat} (h : ρ[i]? = some (.ow k d)) : ∃ v, σ[i]? = some (some v) ∧ Ok K B H0 Hf σ (ρ.set i .no) (⟨v, .ow k, d⟩ :: τ) H (ob o (gOut i τ.length)) := by
  obtain ⟨v, e1, e2⟩ := I.sl i k d h
  refine ⟨v, e1, I.remap _ (by rw [List.length_set, I.len]) (fun j k' d' h' => ?_) ⟨RO.re (fun q => if_pos rfl) e2, TOk.re (fun j q hj => if_neg (by intro z; cases z)) I.tp⟩⟩
  rcases set_get h' with ⟨rfl, z, hi⟩ | ⟨n, h'⟩
  · cases z
  · obtain ⟨v', e1, e2⟩ := I.sl j k' d' h'
    exact ⟨v', e1, RO.re (fun q => if_neg (by intro z; cases z; exact n rfl)) e2⟩
/-- the things at hand from n on are let go -/
def gTop (n : Nat) : Root × List Nat → Option (Root × List Nat) := fun z => match z.1 with
  | .tm j => if n ≤ j then none else some z
  | _ => some z
def fzT (t : T) : T := ⟨t.v, .ow 0, t.d⟩
/-- may be held for ever -/
def stb (t : T) : Bool := match t.k with
  | .ow _ => true | .bw => flat t.d | .pl _ _ => false
theorem Ok.fzTop : ∀ {ts : List T}, ts.all stb = true → Ok K B H0 Hf σ ρ (ts ++ τ) H o → Ok K B H0 Hf σ ρ (ts.map fzT ++ τ) H (ob o (gTop τ.length)) := fun {ts} hs I => by
  refine I.remap _ I.len (fun j k' d' h' => ?_) ?_
  · obtain ⟨v', e1, e2⟩ := I.sl j k' d' h'
    exact ⟨v', e1, RO.re (fun q => rfl) e2⟩
  have I0 := I
  replace I := I.tp
  induction ts with
  | nil => exact TOk.re (τ := τ) (fun j q hj => if_neg (by omega)) I
  | cons t ts ih =>
    rw [List.all_cons, Bool.and_eq_true] at hs
    refine ⟨?_, ih hs.2 I0.pop I.2⟩
    obtain ⟨v, k, d⟩ := t
    have h := I.1
    refine .st ?_
    cases k with
    | ow k =>
      have e : ∀ q, gTop τ.length (Root.tm (ts ++ τ).length, [] ++ q) = none := fun q => if_pos (by rw [List.length_append]; omega)
      exact RO.fz I0 e h
    | bw => exact (Rep.flat (keep_av I0) h hs.1).mono (del_sub fun a => av_ob)
    | pl w q => cases hs.1
/-! ### a new object -/
def oNew (o : Own) (a : Addr) (z : Root × List Nat) : Own := fun b => if b = a then some z else o b
theorem av_new {a : Addr} {z : Root × List Nat} {b : Addr} (h : Av B (oNew o a z) b) : b = a ∨ Av B o b := by
  rcases h with h | ⟨y, h⟩
  · exact .inr (.inl h)
  · unfold oNew at h
    split at h
    · rename_i e; exact .inl e
    · exact .inr (.inr ⟨y, h⟩)
theorem del_new {a : Addr} {z : Root × List Nat} {u : HO} (hp : H a = none) : Same (del H (Av B o)) (del (upd H a u) (Av B (oNew o a z))) := fun b w h => by
  obtain ⟨n, e⟩ := del_some.mp h
  have hb : b ≠ a := ne_of_none e hp
  exact del_some.mpr ⟨fun q => (av_new q).elim hb n, by rw [upd_ne hb]; exact e⟩
theorem Ok.newNone (I : Ok K B H0 Hf σ ρ τ H o) {a : Addr} (hp : H a = none) : o a = none := by
  cases e : o a with
  | none => rfl
  | some z =>
    obtain ⟨u, q, _⟩ := (I.ow a z e).2
    rw [hp] at q
    cases q
theorem RO.new (I : Ok K B H0 Hf σ ρ τ H o) {a : Addr} {z : Root × List Nat} {u : HO} (hp : H a = none) (h : RO K H (Av B o) o r p k v d) : RO K (upd H a u) (Av B (oNew o a z)) (oNew o a z) r p k v d := by
  have q := RO.tr (p0 := p) (p0' := p) (r' := r) (q := []) (A' := Av B (oNew o a z)) (o' := oNew o a z) (H' := upd H a u) ⟨del_new hp, fun b w h _ => same_upd u hp b w h, fun b q h => by
    refine ⟨?_, fun w e => same_upd u hp b w e⟩
    unfold oNew
    rw [if_neg]
    · exact h
    · rintro rfl
      rw [I.newNone hp] at h
      cases h⟩ (by simp) h
  simpa using q
theorem TOk.new (I : Ok K B H0 Hf σ ρ τ H o) {a : Addr} {z : Root × List Nat} {u : HO} (hp : H a = none) : ∀ {τ' : List T}, TOk K H B o τ' → TOk K (upd H a u) B (oNew o a z) τ'
  | [], _ => trivial
  | t :: τ', h => ⟨by
      obtain ⟨v, k, d⟩ := t
      obtain ⟨h, _⟩ := h
      cases k with
      | ow k => exact RO.new I hp h
      | bw => exact Rep.mono (same_upd u hp) h
      | pl w q => exact PathTo.mono (same_upd u hp) h, TOk.new I hp h.2⟩
theorem Ok.new (I : Ok K B H0 Hf σ ρ τ H o) {a : Addr} (z : Root × List Nat) {u : HO} (hp : H a = none) (hu : isMut u = true) : Ok K B H0 Hf σ ρ τ (upd H a u) (oNew o a z) :=
  ⟨I.len, I.bs, I.sm.trans (same_upd u hp), I.fl.tr (I.fl.1.trans (same_upd u hp)) (fun b w h _ => same_upd u hp b w h) (del_new hp), fun b y h => by
    unfold oNew at h
    split at h
    · rename_i e
      subst e
      refine ⟨?_, u, upd_same, hu⟩
      cases e : H0 b with
      | none => rfl
      | some w => rw [I.sm _ _ e] at hp; cases hp
    · exact ⟨(I.ow b y h).1, (I.ow b y h).2.mono (same_upd u hp)⟩, fun i k d h => by
    obtain ⟨v, e1, e2⟩ := I.sl i k d h
    exact ⟨v, e1, RO.new I hp e2⟩, TOk.new I hp I.tp⟩
end
end P

namespace P
open PySem L2
/-! ### outcomes -/
inductive Rs (α : Type) where
  | val (a : α) (ρ : Env) | exc (x : Str) (w : Option (Str × D))
abbrev R (α : Type) := Option (Rs α)
def R.bind {α β : Type} (r : R α) (f : α → Env → R β) : R β := match r with
  | none => none
  | some (.exc x w) => some (.exc x w)
  | some (.val a ρ) => f a ρ
theorem R.bind_some {α β : Type} {r : R α} {f : α → Env → R β} {z : Rs β} (h : r.bind f = some z) : (∃ x w, r = some (.exc x w) ∧ z = .exc x w) ∨ ∃ a ρ, r = some (.val a ρ) ∧ f a ρ = some z := by
  match r, h with
  | none, h => cases h
  | some (.exc x w), h => cases h; exact .inl ⟨x, w, rfl, rfl⟩
  | some (.val a ρ), h => exact .inr ⟨a, ρ, rfl, h⟩
open Classical in
/-- as far as p holds -/
noncomputable def chk {α : Type} (p : Prop) (x : Option α) : Option α := if p then x else none
theorem chk_some {α : Type} {p : Prop} {x : Option α} {y : α} (h : chk p x = some y) : p ∧ x = some y := by
  unfold chk at h
  split at h
  · rename_i q; exact ⟨q, h⟩
  · cases h
theorem chk_pos {α : Type} {p : Prop} {x : Option α} (h : p) : chk p x = x := if_pos h
/-- what is handed on: k levels held by nobody else; to be looked at alone -/
inductive Kv where
  | ow (k : Nat) | bw
def Kv.kd : Kv → Kd
  | .ow k => .ow k | .bw => .bw
abbrev Kx := Kv × D
abbrev FE := Env → R Kx
abbrev FT := Env → R Bool
abbrev FA := Env → R (List Kx)
abbrev FO := Env → R (Option Int)
structure Fx where
  K : PySem.W.Frag
  B : Addr → Prop
  H0 : Hp
  Hf : Bg
  E : XK
/-- what is wanted of an error -/
def XW (X : Fx) (x : Str) : Option (Str × D) → Prop
  | none => ∀ C H', PySem.W.nsIn X.K mainGlobals x = some (some (.ref C)) → Same X.H0 H' → X.E (.ref C) none H'
  | some (f, d) => ∀ C dx v H', PySem.W.nsIn X.K mainGlobals x = some (some (.ref C)) → Same X.H0 H' → H' dx = some (.xd [(f, v)]) → Rep X.K (del H' X.B) v d → X.E (.ref C) (some dx) H'
abbrev OkX (X : Fx) := Ok X.K X.B X.H0 X.Hf
def tmp (v : V) (a : Kx) : T := ⟨v, a.1.kd, a.2⟩
def SE (X : Fx) (te : TE) (f : FE) : Prop := ∀ ρ r, f ρ = some r → ∀ σ τ H o, OkX X σ ρ τ H o → ∀ Q : VK,
  (match r with
  | .val a ρ' => ∀ v H' o', OkX X σ ρ' (tmp v a :: τ) H' o' → Q v H'
  | .exc x w => XW X x w) → te σ H Q
def ST (X : Fx) (tt : TT) (f : FT) : Prop := ∀ ρ r, f ρ = some r → ∀ σ τ H o, OkX X σ ρ τ H o → ∀ Q : Bool → Hp → Prop,
  (match r with
  | .val a ρ' => ∀ H' o', OkX X σ ρ' τ H' o' → Q a H'
  | .exc x w => XW X x w) → tt σ H Q
/-- ts: the things, the last one on top -/
def SA (X : Fx) (ta : TA) (f : FA) : Prop := ∀ ρ r, f ρ = some r → ∀ σ τ H o, OkX X σ ρ τ H o → ∀ Q : List V → Hp → Prop,
  (match r with
  | .val as ρ' => ∀ vs H' o', vs.length = as.length → OkX X σ ρ' ((vs.zipWith tmp as).reverse ++ τ) H' o' → Q vs H'
  | .exc x w => XW X x w) → ta σ H Q
def SO (X : Fx) (to : TO) (f : FO) : Prop := ∀ ρ r, f ρ = some r → ∀ σ τ H o, OkX X σ ρ τ H o → ∀ Q : Option Int → Hp → Prop,
  (match r with
  | .val a ρ' => ∀ H' o', OkX X σ ρ' τ H' o' → Q a H'
  | .exc x w => XW X x w) → to σ H Q
section
variable {X : Fx} {K : PySem.W.Frag} {B : Addr → Prop} {H0 H H' : Hp} {Hf : Bg} {σ σ' : St} {ρ ρ' : Env} {τ τ' : List T} {o o' : Own} {v : V} {d : D} {ta tb tc te : TE} {fa fb fc fe : FE} {tt tu : TT} {ft fu : FT} {ts : TA} {fs : FA}
/-! ### names -/
def look (ρ : Env) (i : Nat) : Option (Nat × D) := match ρ[i]? with
  | some (.ow k d) => some (k, d) | _ => none
theorem look_some {i k : Nat} (h : look ρ i = some (k, d)) : ρ[i]? = some (.ow k d) := by
  unfold look at h
  split at h
  · rename_i e; cases h; exact e
  · cases h
/-- a name looked at -/
def eVar (i : Nat) : FE := fun ρ => match look ρ i with
  | some (0, d) => some (.val (.ow 0, d) ρ)
  | some (_ + 1, d) => some (.val (.bw, d) ρ)
  | none => none
/-- a name whose thing is let go -/
def eFz (i : Nat) : FE := fun ρ => match look ρ i with
  | some (_, d) => some (.val (.ow 0, d) (ρ.set i (.ow 0 d)))
  | none => none
/-- a name whose thing is handed on -/
def eMv (i : Nat) : FE := fun ρ => match look ρ i with
  | some (k, d) => some (.val (.ow k, d) (ρ.set i .no))
  | none => none
theorem se_var {i : Nat} : SE X (tVar i) (eVar i) := fun ρ r h σ τ H o I Q q => by
  unfold eVar at h
  split at h
  · rename_i d e
    cases h
    obtain ⟨v, e1, e2⟩ := I.sl i 0 d (look_some e)
    cases e2 with
    | st e2 => exact ⟨v, e1, q v H o (I.stab e2)⟩
  · rename_i k d e
    cases h
    obtain ⟨v, e1, e2⟩ := I.sl i (k + 1) d (look_some e)
    exact ⟨v, e1, q v H o (I.push e2.repH)⟩
  · cases h
theorem se_fz {i : Nat} : SE X (tVar i) (eFz i) := fun ρ r h σ τ H o I Q q => by
  unfold eFz at h
  split at h
  · rename_i k d e
    cases h
    have e := look_some e
    have hi : i < ρ.length := (List.getElem?_eq_some_iff.mp e).1
    have J := I.freeze e
    obtain ⟨v, e1, e2⟩ := J.sl i 0 d (by rw [List.getElem?_set_self hi])
    cases e2 with
    | st e2 => exact ⟨v, e1, q v H _ (J.stab e2)⟩
  · cases h
theorem se_mv {i : Nat} : SE X (tVar i) (eMv i) := fun ρ r h σ τ H o I Q q => by
  unfold eMv at h
  split at h
  · rename_i k d e
    cases h
    obtain ⟨v, e1, J⟩ := I.out (look_some e)
    exact ⟨v, e1, q v H _ J⟩
  · cases h
/-! ### written things -/
def eC (d : D) : FE := fun ρ => some (.val (.ow 0, d) ρ)
theorem se_c {d : D} (h : isS d = true) : SE X (tC (toV d)) (eC d) := fun ρ r e σ τ H o I Q q => by
  cases e
  exact q _ H o (I.scal h)
theorem se_int {i : Int} : SE X (tC (.int i)) (eC (.int i)) := se_c (d := .int i) rfl
theorem se_bl {i : Bool} : SE X (tC (.bl i)) (eC (.bl i)) := se_c (d := .bl i) rfl
theorem se_non : SE X (tC .non) (eC .non) := se_c (d := .non) rfl
theorem se_str {x : Str} : SE X (tC (.str x)) (eC (.str x)) := se_c (d := .str x) rfl
theorem se_ty {x : String} : SE X (tC (.ty x)) (eC (.ty x)) := se_c (d := .ty x) rfl
theorem se_cls {x : Str} {C : Addr} (h : PySem.W.nsIn X.K mainGlobals x = some (some (.ref C))) : SE X (tC (.ref C)) (eC (.cls x)) := fun ρ r e σ τ H o I Q q => by
  cases e
  exact q _ H o (I.stab (.cls h))
/-! ### one after the other -/
theorem SE.bind (h : SE X te fe) {g : Kx → Env → R Kx} {z : Rs Kx} (e : (fe ρ).bind g = some z) (I : OkX X σ ρ τ H o) {Q : VK} {P : VK} (hx : ∀ x w, z = .exc x w → XW X x w)
    (q : ∀ a ρ' v H' o', g a ρ' = some z → OkX X σ ρ' (tmp v a :: τ) H' o' → P v H') : te σ H P := by
  rcases R.bind_some e with ⟨x, w, e1, rfl⟩ | ⟨a, ρ', e1, e2⟩
  · exact h ρ _ e1 σ τ H o I P (hx x w rfl)
  · exact h ρ _ e1 σ τ H o I P fun v H' o' J => q a ρ' v H' o' e2 J
/-- what is wanted, of whatever outcome -/
def Wt (X : Fx) (σ : St) (τ : List T) (Q : VK) : Rs Kx → Prop
  | .val a ρ' => ∀ v H' o', OkX X σ ρ' (tmp v a :: τ) H' o' → Q v H'
  | .exc x w => XW X x w
theorem SE.run (h : SE X te fe) {r : Rs Kx} (e : fe ρ = some r) (I : OkX X σ ρ τ H o) {Q : VK} (q : Wt X σ τ Q r) : te σ H Q := h ρ r e σ τ H o I Q (by cases r <;> exact q)
theorem SE.bindG {β : Type} (h : SE X te fe) {g : Kx → Env → R β} {z : Rs β} (e : (fe ρ).bind g = some z) (I : OkX X σ ρ τ H o) {P : VK} (hx : ∀ x w, z = .exc x w → XW X x w)
    (q : ∀ a ρ' v H' o', g a ρ' = some z → OkX X σ ρ' (tmp v a :: τ) H' o' → P v H') : te σ H P := by
  rcases R.bind_some e with ⟨x, w, e1, rfl⟩ | ⟨a, ρ', e1, e2⟩
  · exact h ρ _ e1 σ τ H o I P (hx x w rfl)
  · exact h ρ _ e1 σ τ H o I P fun v H' o' J => q a ρ' v H' o' e2 J
/-! ### operators -/
def eOp (g : Kx → Kx → Option Kx) (fa fb : FE) : FE := fun ρ => (fa ρ).bind fun a ρ1 => (fb ρ1).bind fun b ρ2 => (g a b).map fun c => .val c ρ2
def Op2 (X : Fx) (r : R2) (g : Kx → Kx → Option Kx) : Prop := ∀ a b c, g a b = some c → ∀ σ ρ τ H o x y, OkX X σ ρ (tmp y b :: tmp x a :: τ) H o → ∀ Q : VK, (∀ v H' o', OkX X σ ρ (tmp v c :: τ) H' o' → Q v H') → r x y H Q
theorem se_op {r : R2} {g : Kx → Kx → Option Kx} (hr : Op2 X r g) (ha : SE X ta fa) (hb : SE X tb fb) : SE X (tOp r ta tb) (eOp g fa fb) := fun ρ z h σ τ H o I Q q => by
  have hx : ∀ x w, z = .exc x w → XW X x w := fun x w e => by subst e; exact q
  refine ha.bindG h I hx fun a ρ1 x H1 o1 h1 I1 => hb.bindG h1 I1 hx fun b ρ2 y H2 o2 h2 I2 => ?_
  cases e : g a b with
  | none => rw [e] at h2; cases h2
  | some c =>
    rw [e] at h2
    cases h2
    exact hr a b c e σ ρ2 τ H2 o2 x y I2 Q q
theorem kd_npl {a : Kv} : ∀ w q, a.kd ≠ .pl w q := fun w q => by cases a <;> intro z <;> cases z
theorem tmp_rep {j : Nat} {a : Kx} (h : TmOk K H B o j (tmp v a)) : Rep K H v a.2 := h.rep (t := tmp v a) kd_npl
/-- scalars to a scalar -/
def g2 (g : D → D → Option D) : Kx → Kx → Option Kx := fun a b => (g a.2 b.2).map fun c => (.ow 0, c)
def Op2S (r : R2) (g : D → D → Option D) : Prop := ∀ d e f, g d e = some f → isS d = true ∧ isS e = true ∧ isS f = true ∧ ∀ (H : Hp) (Q : VK), Q (toV f) H → r (toV d) (toV e) H Q
theorem Op2S.op {r : R2} {g : D → D → Option D} (h : Op2S r g) : Op2 X r (g2 g) := fun a b c e σ ρ τ H o x y I Q q => by
  unfold g2 at e
  cases e1 : g a.2 b.2 with
  | none => rw [e1] at e; cases e
  | some f =>
    rw [e1] at e
    cases e
    obtain ⟨h1, h2, h3, h4⟩ := h _ _ _ e1
    rw [(tmp_rep I.pop.top).sc h1, (tmp_rep I.top).sc h2]
    exact h4 H Q (q _ H o (I.pop.pop.scal h3))
theorem Op2.or_inl {r r' : R2} {g : Kx → Kx → Option Kx} (h : Op2 X r g) : Op2 X (fun x y H Q => r x y H Q ∨ r' x y H Q) g := fun a b c e σ ρ τ H o x y I Q q => .inl (h a b c e σ ρ τ H o x y I Q q)
theorem Op2.or_inr {r r' : R2} {g : Kx → Kx → Option Kx} (h : Op2 X r' g) : Op2 X (fun x y H Q => r x y H Q ∨ r' x y H Q) g := fun a b c e σ ρ τ H o x y I Q q => .inr (h a b c e σ ρ τ H o x y I Q q)
/-- the first that answers -/
def gOr (g g' : Kx → Kx → Option Kx) : Kx → Kx → Option Kx := fun a b => match g a b with
  | some c => some c | none => g' a b
theorem Op2.gor {r : R2} {g g' : Kx → Kx → Option Kx} (h : Op2 X r g) (h' : Op2 X r g') : Op2 X r (gOr g g') := fun a b c e => by
  unfold gOr at e
  split at e
  · rename_i q; cases e; exact h a b c q
  · exact h' a b c e
/-! ### truths -/
def eAnd (fa fb : FE) : FE := fun ρ => (fa ρ).bind fun a ρ1 => match a.2 with
  | .bl true => fb ρ1 | .bl false => some (.val (.ow 0, .bl false) ρ1) | _ => none
def eOr (fa fb : FE) : FE := fun ρ => (fa ρ).bind fun a ρ1 => match a.2 with
  | .bl true => some (.val (.ow 0, .bl true) ρ1) | .bl false => fb ρ1 | _ => none
def eNot (fa : FE) : FE := fun ρ => (fa ρ).bind fun a ρ1 => match a.2 with
  | .bl b => some (.val (.ow 0, .bl (!b)) ρ1) | _ => none
theorem se_and (ha : SE X ta fa) (hb : SE X tb fb) : SE X (tAndV ta tb) (eAnd fa fb) := fun ρ z h σ τ H o I Q q => by
  have hx : ∀ x w, z = .exc x w → XW X x w := fun x w e => by subst e; exact q
  refine ha.bindG h I hx fun a ρ1 x H1 o1 h1 I1 => ?_
  have rr := tmp_rep I1.top
  split at h1
  · rename_i e; rw [e] at rr; cases rr
    exact ⟨true, rfl, by rw [if_pos rfl]; exact hb ρ1 z h1 σ τ H1 o1 I1.pop Q q⟩
  · rename_i e; rw [e] at rr; cases rr
    cases h1
    exact ⟨false, rfl, by rw [if_neg Bool.false_ne_true]; exact q _ H1 o1 (I1.pop.scal (d := .bl false) rfl)⟩
  · cases h1
theorem se_or (ha : SE X ta fa) (hb : SE X tb fb) : SE X (tOrV ta tb) (eOr fa fb) := fun ρ z h σ τ H o I Q q => by
  have hx : ∀ x w, z = .exc x w → XW X x w := fun x w e => by subst e; exact q
  refine ha.bindG h I hx fun a ρ1 x H1 o1 h1 I1 => ?_
  have rr := tmp_rep I1.top
  split at h1
  · rename_i e; rw [e] at rr; cases rr
    cases h1
    exact ⟨true, rfl, by rw [if_pos rfl]; exact q _ H1 o1 (I1.pop.scal (d := .bl true) rfl)⟩
  · rename_i e; rw [e] at rr; cases rr
    exact ⟨false, rfl, by rw [if_neg Bool.false_ne_true]; exact hb ρ1 z h1 σ τ H1 o1 I1.pop Q q⟩
  · cases h1
theorem se_not (ha : SE X ta fa) : SE X (tNotV ta) (eNot fa) := fun ρ z h σ τ H o I Q q => by
  have hx : ∀ x w, z = .exc x w → XW X x w := fun x w e => by subst e; exact q
  refine ha.bindG h I hx fun a ρ1 x H1 o1 h1 I1 => ?_
  have rr := tmp_rep I1.top
  split at h1
  · rename_i b e; rw [e] at rr; cases rr
    cases h1
    exact ⟨b, rfl, q _ H1 o1 (I1.pop.scal (d := .bl (!b)) rfl)⟩
  · cases h1
/-! ### tests -/
def bOf (fa : FE) : FT := fun ρ => (fa ρ).bind fun a ρ1 => match a.2 with
  | .bl b => some (.val b ρ1) | _ => none
def bAnd (ft fu : FT) : FT := fun ρ => (ft ρ).bind fun a ρ1 => if a = true then fu ρ1 else some (.val false ρ1)
def bOr (ft fu : FT) : FT := fun ρ => (ft ρ).bind fun a ρ1 => if a = true then some (.val true ρ1) else fu ρ1
def bNot (ft : FT) : FT := fun ρ => (ft ρ).bind fun a ρ1 => some (.val (!a) ρ1)
theorem ST.bindG {β : Type} (h : ST X tt ft) {g : Bool → Env → R β} {z : Rs β} (e : (ft ρ).bind g = some z) (I : OkX X σ ρ τ H o) {P : Bool → Hp → Prop} (hx : ∀ x w, z = .exc x w → XW X x w)
    (q : ∀ a ρ' H' o', g a ρ' = some z → OkX X σ ρ' τ H' o' → P a H') : tt σ H P := by
  rcases R.bind_some e with ⟨x, w, e1, rfl⟩ | ⟨a, ρ', e1, e2⟩
  · exact h ρ _ e1 σ τ H o I P (hx x w rfl)
  · exact h ρ _ e1 σ τ H o I P fun H' o' J => q a ρ' H' o' e2 J
theorem st_of (ha : SE X ta fa) : ST X (tB ta) (bOf fa) := fun ρ z h σ τ H o I Q q => by
  have hx : ∀ x w, z = .exc x w → XW X x w := fun x w e => by subst e; exact q
  refine ha.bindG h I hx fun a ρ1 x H1 o1 h1 I1 => ?_
  have rr := tmp_rep I1.top
  split at h1
  · rename_i b e; rw [e] at rr; cases rr
    cases h1
    exact ⟨b, rfl, q H1 o1 I1.pop⟩
  · cases h1
theorem st_test (ha : SE X ta fa) : ST X (tTest ta) (bOf fa) := st_of ha
theorem st_and (ha : ST X tt ft) (hb : ST X tu fu) : ST X (tAnd tt tu) (bAnd ft fu) := fun ρ z h σ τ H o I Q q => by
  have hx : ∀ x w, z = .exc x w → XW X x w := fun x w e => by subst e; exact q
  refine ha.bindG h I hx fun a ρ1 H1 o1 h1 I1 => ?_
  cases a with
  | true => rw [if_pos rfl]; rw [if_pos rfl] at h1; exact hb ρ1 z h1 σ τ H1 o1 I1 Q q
  | false => rw [if_neg Bool.false_ne_true]; rw [if_neg Bool.false_ne_true] at h1; cases h1; exact q H1 o1 I1
theorem st_or (ha : ST X tt ft) (hb : ST X tu fu) : ST X (tOr tt tu) (bOr ft fu) := fun ρ z h σ τ H o I Q q => by
  have hx : ∀ x w, z = .exc x w → XW X x w := fun x w e => by subst e; exact q
  refine ha.bindG h I hx fun a ρ1 H1 o1 h1 I1 => ?_
  cases a with
  | true => rw [if_pos rfl]; rw [if_pos rfl] at h1; cases h1; exact q H1 o1 I1
  | false => rw [if_neg Bool.false_ne_true]; rw [if_neg Bool.false_ne_true] at h1; exact hb ρ1 z h1 σ τ H1 o1 I1 Q q
theorem st_not (ha : ST X tt ft) : ST X (tNot tt) (bNot ft) := fun ρ z h σ τ H o I Q q => by
  have hx : ∀ x w, z = .exc x w → XW X x w := fun x w e => by subst e; exact q
  refine ha.bindG h I hx fun a ρ1 H1 o1 h1 I1 => ?_
  cases h1
  exact q H1 o1 I1
def eIf (ft : FT) (fa fb : FE) : FE := fun ρ => (ft ρ).bind fun b ρ1 => if b = true then fa ρ1 else fb ρ1
theorem se_if (h : ST X tt ft) (ha : SE X ta fa) (hb : SE X tb fb) : SE X (tIf tt ta tb) (eIf ft fa fb) := fun ρ z e σ τ H o I Q q => by
  have hx : ∀ x w, z = .exc x w → XW X x w := fun x w e => by subst e; exact q
  refine h.bindG e I hx fun a ρ1 H1 o1 h1 I1 => ?_
  cases a with
  | true => rw [if_pos rfl]; rw [if_pos rfl] at h1; exact ha ρ1 z h1 σ τ H1 o1 I1 Q q
  | false => rw [if_neg Bool.false_ne_true]; rw [if_neg Bool.false_ne_true] at h1; exact hb ρ1 z h1 σ τ H1 o1 I1 Q q
/-! ### arguments -/
def aNil : FA := fun ρ => some (.val [] ρ)
def aCons (fa : FE) (fs : FA) : FA := fun ρ => (fa ρ).bind fun a ρ1 => (fs ρ1).bind fun as ρ2 => some (.val (a :: as) ρ2)
theorem sa_nil : SA X tNil aNil := fun ρ z h σ τ H o I Q q => by
  cases h
  exact q [] H o rfl I
theorem SA.bindG {β : Type} (h : SA X ts fs) {g : List Kx → Env → R β} {z : Rs β} (e : (fs ρ).bind g = some z) (I : OkX X σ ρ τ H o) {P : List V → Hp → Prop} (hx : ∀ x w, z = .exc x w → XW X x w)
    (q : ∀ as ρ' vs H' o', g as ρ' = some z → vs.length = as.length → OkX X σ ρ' ((vs.zipWith tmp as).reverse ++ τ) H' o' → P vs H') : ts σ H P := by
  rcases R.bind_some e with ⟨x, w, e1, rfl⟩ | ⟨a, ρ', e1, e2⟩
  · exact h ρ _ e1 σ τ H o I P (hx x w rfl)
  · exact h ρ _ e1 σ τ H o I P fun v H' o' l J => q a ρ' v H' o' e2 l J
theorem sa_cons (ha : SE X ta fa) (hs : SA X ts fs) : SA X (tCons ta ts) (aCons fa fs) := fun ρ z h σ τ H o I Q q => by
  have hx : ∀ x w, z = .exc x w → XW X x w := fun x w e => by subst e; exact q
  refine ha.bindG h I hx fun a ρ1 x H1 o1 h1 I1 => hs.bindG h1 I1 hx fun as ρ2 vs H2 o2 h2 l I2 => ?_
  cases h2
  refine q (x :: vs) H2 o2 (congrArg (· + 1) l) ?_
  rw [List.zipWith_cons_cons, List.reverse_cons, List.append_assoc]
  exact I2
/-! ### things let go -/
theorem TmOk.settle (I : Ok K B H0 Hf σ ρ τ' H o) {n j : Nat} {t : T} (hj : n ≤ j) (h : TmOk K H B o j t) : match t.k with
    | .ow _ => Rep K (del H (Av B (ob o (gTop n)))) t.v t.d | .bw => Rep K H t.v t.d | .pl _ _ => True := by
  obtain ⟨v, k, d⟩ := t
  cases k with
  | ow k =>
    have e : ∀ q, gTop n (Root.tm j, [] ++ q) = none := fun q => if_pos hj
    exact RO.fz I e h
  | bw => exact h
  | pl w q => trivial
/-- what is known of a thing let go -/
def Known (K : PySem.W.Frag) (H : Hp) (A : Addr → Prop) (v : V) (a : Kx) : Prop := match a.1 with
  | .ow _ => Rep K (del H A) v a.2 | .bw => Rep K H v a.2
theorem Known.rep {A : Addr → Prop} {a : Kx} (h : Known K H A v a) : Rep K H v a.2 := by
  obtain ⟨k, d⟩ := a
  cases k with
  | ow k => exact Rep.mono (del_same _ _) h
  | bw => exact h
theorem TmOk.known (I : Ok K B H0 Hf σ ρ τ' H o) {n j : Nat} {a : Kx} (hj : n ≤ j) (h : TmOk K H B o j (tmp v a)) : Known K H (Av B (ob o (gTop n))) v a := by
  have z := h.settle I hj
  obtain ⟨k, d⟩ := a
  cases k with
  | ow k => exact z
  | bw => exact z
theorem Ok.cut (I : Ok K B H0 Hf σ ρ (τ' ++ τ) H o) : Ok K B H0 Hf σ ρ τ H (ob o (gTop τ.length)) :=
  I.remap _ I.len (fun j k' d' h' => by
    obtain ⟨v', e1, e2⟩ := I.sl j k' d' h'
    exact ⟨v', e1, RO.re (fun q => rfl) e2⟩) (TOk.re (fun j q hj => if_neg (by omega)) I.pops.tp)
theorem Ok.settle1 {a : Kx} (I : Ok K B H0 Hf σ ρ (tmp v a :: τ) H o) : ∃ o', Ok K B H0 Hf σ ρ τ H o' ∧ Known K H (Av B o') v a :=
  ⟨_, Ok.cut (τ' := [tmp v a]) I, I.top.known I (Nat.le_refl _)⟩
theorem Ok.settle2 {a b : Kx} {w : V} (I : Ok K B H0 Hf σ ρ (tmp w b :: tmp v a :: τ) H o) : ∃ o', Ok K B H0 Hf σ ρ τ H o' ∧ Known K H (Av B o') v a ∧ Known K H (Av B o') w b :=
  ⟨_, Ok.cut (τ' := [tmp w b, tmp v a]) I, I.pop.top.known I (Nat.le_refl _), I.top.known I (Nat.le_succ _)⟩
inductive Knowns (K : PySem.W.Frag) (H : Hp) (A : Addr → Prop) : List V → List Kx → Prop
  | nil : Knowns K H A [] []
  | cons {v : V} {a : Kx} {vs : List V} {as : List Kx} : Known K H A v a → Knowns K H A vs as → Knowns K H A (v :: vs) (a :: as)
theorem Ok.settles : ∀ {as : List Kx} {vs : List V}, vs.length = as.length → Ok K B H0 Hf σ ρ ((vs.zipWith tmp as).reverse ++ τ) H o → ∃ o', Ok K B H0 Hf σ ρ τ H o' ∧ Knowns K H (Av B o') vs as := fun {as vs} l I => by
  refine ⟨_, Ok.cut I, ?_⟩
  have key : ∀ (us : List T) (I : TOk K H B o (us ++ τ)) (t : T), t ∈ us → ∃ j, τ.length ≤ j ∧ TmOk K H B o j t := fun us => by
    induction us with
    | nil => intro _ t h; cases h
    | cons u us ih =>
      intro I t h
      rcases List.mem_cons.mp h with rfl | h
      · exact ⟨(us ++ τ).length, by rw [List.length_append]; omega, I.1⟩
      · exact ih I.2 t h
  have key2 : ∀ t, t ∈ vs.zipWith tmp as → ∃ j, τ.length ≤ j ∧ TmOk K H B o j t := fun t h => key _ I.tp t (List.mem_reverse.mpr h)
  clear key
  generalize hz : (vs.zipWith tmp as).reverse = us at I
  clear hz
  induction vs generalizing as with
  | nil =>
    cases as with
    | nil => exact .nil
    | cons a as => cases l
  | cons v vs ih =>
    cases as with
    | nil => cases l
    | cons a as =>
      obtain ⟨j, hj, h⟩ := key2 (tmp v a) (List.mem_cons_self ..)
      exact .cons (h.known I hj) (ih (Nat.succ.inj l) fun t ht => key2 t (List.mem_cons_of_mem _ ht))
theorem Known.grow {a : Kx} (e : Same H H') (h : Known K H (Av B o) v a) : Known K H' (Av B o) v a := by
  obtain ⟨k, d⟩ := a
  cases k with
  | ow k => exact Rep.mono (del_mono e) h
  | bw => exact Rep.mono e h
/-- held for ever, if nobody else holds it or it is flat -/
def stb' (a : Kx) : Bool := match a.1 with
  | .ow _ => true | .bw => flat a.2
theorem Known.st {a : Kx} (I : Ok K B H0 Hf σ ρ τ H o) (h : Known K H (Av B o) v a) (hs : stb' a = true) : Rep K (del H (Av B o)) v a.2 := by
  obtain ⟨k, d⟩ := a
  cases k with
  | ow k => exact h
  | bw => exact Rep.flat (keep_av I) h hs
theorem Knowns.st (I : Ok K B H0 Hf σ ρ τ H o) : ∀ {vs : List V} {as : List Kx}, Knowns K H (Av B o) vs as → as.all stb' = true → Reps K (del H (Av B o)) vs (as.map (·.2))
  | _, _, .nil, _ => .nil
  | _, _, .cons a b, h => by
    rw [List.all_cons, Bool.and_eq_true] at h
    exact .cons (a.st I h.1) (b.st I h.2)
theorem Knowns.rep {A : Addr → Prop} : ∀ {vs : List V} {as : List Kx}, Knowns K H A vs as → Reps K H vs (as.map (·.2))
  | _, _, .nil => .nil
  | _, _, .cons a b => .cons a.rep b.rep
end
end P

namespace P
open PySem L2
theorem le_sz {n : Nat} (h : Nat.ble n 1000 = true) : n ≤ sizeLine := Nat.le_trans (Nat.le_of_ble_eq_true h) (by decide)
section
variable {X : Fx} {K : PySem.W.Frag} {B : Addr → Prop} {H0 H H' : Hp} {Hf : Bg} {σ σ' : St} {ρ ρ' : Env} {τ τ' : List T} {o o' : Own} {v : V} {d : D} {ta tb tc te : TE} {fa fb fc fe : FE} {tt tu : TT} {ft fu : FT} {ts : TA} {fs : FA} {a b : Kx} {k : Nat}
/-! ### tuples and lists laid -/
theorem Ok.muNo (I : Ok K B H0 Hf σ ρ τ H o) {p : Addr} (hp : H p = none) (z : Av B o p) : False := by
  obtain ⟨w, e, _⟩ := I.mu z
  rw [hp] at e
  cases e
theorem Ok.stNew (I : Ok K B H0 Hf σ ρ τ H o) {p : Addr} {u : HO} (hp : H p = none) (hu : isMut u = false) (h : ∀ H', Same (del H (Av B o)) H' → H' p = some u → Rep K H' (.ref p) d) : Ok K B H0 Hf σ ρ (⟨.ref p, .ow 0, d⟩ :: τ) (upd H p u) o :=
  (I.grow (same_upd u hp)).stab (h _ (del_mono (same_upd u hp)) (del_some.mpr ⟨fun z => I.muNo hp z, upd_same⟩))
/-- a new list whose things are let go -/
theorem Ok.lsNew (I : Ok K B H0 Hf σ ρ τ H o) {p : Addr} {vs : List V} {ds : List D} (hp : H p = none) (h : Reps K (del H (Av B o)) vs ds) : Ok K B H0 Hf σ ρ (⟨.ref p, .ow 1, .lst ds⟩ :: τ) (upd H p (.lst vs)) (oNew o p (.tm τ.length, [])) := by
  refine (I.new (.tm τ.length, []) hp rfl).push (RO.lst (if_pos rfl) upd_same ?_)
  have z := h.mono (del_new (u := .lst vs) (z := (.tm τ.length, [])) hp)
  clear h
  have key : ∀ (vs' : List V) (ds : List D) (i : Nat), Reps K (del (upd H p (.lst vs)) (Av B (oNew o p (.tm τ.length, [])))) vs' ds → ROs K (upd H p (.lst vs)) (Av B (oNew o p (.tm τ.length, []))) (oNew o p (.tm τ.length, [])) (.tm τ.length) [] i 0 vs' ds := fun vs' => by
    induction vs' with
    | nil => intro ds i h; cases h; exact .nil
    | cons v vs ih => intro ds i h; cases h with | cons a b => exact .cons (.st a) (ih _ _ b)
  exact key _ _ _ z
/-- things held by nobody else come together -/
def gGath (n : Nat) : Root × List Nat → Option (Root × List Nat) := fun z => match z.1 with
  | .tm j => if n ≤ j then some (.tm n, (j - n) :: z.2) else some z
  | _ => some z
def hasK (k : Nat) (a : Kx) : Bool := flat a.2 || (match a.1 with | .ow j => j == k + 1 | .bw => false)
theorem Ok.gath {as : List Kx} {vs : List V} (l : vs.length = as.length) (h : as.all (hasK k) = true) (I : Ok K B H0 Hf σ ρ ((vs.zipWith tmp as).reverse ++ τ) H o) :
    Ok K B H0 Hf σ ρ τ H (ob o (gGath τ.length)) ∧ ROs K H (Av B (ob o (gGath τ.length))) (ob o (gGath τ.length)) (.tm τ.length) [] 0 (k + 1) vs (as.map (·.2)) := by
  refine ⟨I.remap _ I.len (fun j k' d' h' => by
    obtain ⟨v', e1, e2⟩ := I.sl j k' d' h'
    exact ⟨v', e1, RO.re (fun q => rfl) e2⟩) (TOk.re (fun j q hj => if_neg (by omega)) I.pops.tp), ?_⟩
  have key : ∀ (as : List Kx) (vs : List V) (τ1 : List T) (i : Nat), vs.length = as.length → as.all (hasK k) = true → τ1.length = τ.length + i → TOk K H B o ((vs.zipWith tmp as).reverse ++ τ1) →
      ROs K H (Av B (ob o (gGath τ.length))) (ob o (gGath τ.length)) (.tm τ.length) [] i (k + 1) vs (as.map (·.2)) := fun as => by
    induction as with
    | nil => intro vs τ1 i l _ _ _; cases vs with | nil => exact .nil | cons => cases l
    | cons a as ih =>
      intro vs τ1 i l h hl I
      cases vs with
      | nil => cases l
      | cons v vs =>
        rw [List.all_cons, Bool.and_eq_true] at h
        rw [List.zipWith_cons_cons, List.reverse_cons, List.append_assoc] at I
        refine .cons ?_ (ih vs (tmp v a :: τ1) (i + 1) (Nat.succ.inj l) h.2 (by rw [List.length_cons, hl]; omega) I)
        have t := I.drop.1
        obtain ⟨ka, da⟩ := a
        have h1 := h.1
        unfold hasK at h1
        rw [Bool.or_eq_true] at h1
        rcases h1 with h1 | h1
        · exact .flat h1 (tmp_rep t)
        · cases ka with
          | bw => cases h1
          | ow j =>
            have e : j = k + 1 := eq_of_beq h1
            subst e
            have t' : RO K H (Av B o) o (.tm τ1.length) [] (k + 1) v da := t
            rw [hl] at t'
            have hg : ∀ q : List Nat, gGath τ.length (Root.tm (τ.length + i), [] ++ q) = some (.tm τ.length, [i] ++ q) := fun q => by
              show (if τ.length ≤ τ.length + i then _ else _) = _
              rw [if_pos (Nat.le_add_right ..), Nat.add_sub_cancel_left]
              rfl
            exact RO.re hg t'
  exact key as vs τ 0 l h rfl I.tp
/-- a new list of things that go with it -/
theorem Ok.lsNewK (I : Ok K B H0 Hf σ ρ τ H o) {p : Addr} {vs : List V} {ds : List D} (hp : H p = none) (h : ROs K H (Av B o) o (.tm τ.length) [] 0 k vs ds) : Ok K B H0 Hf σ ρ (⟨.ref p, .ow (k + 1), .lst ds⟩ :: τ) (upd H p (.lst vs)) (oNew o p (.tm τ.length, [])) := by
  refine (I.new (.tm τ.length, []) hp rfl).push (RO.lst (if_pos rfl) upd_same ?_)
  have key : ∀ (vs' : List V) (ds : List D) (i : Nat), ROs K H (Av B o) o (.tm τ.length) [] i k vs' ds → ROs K (upd H p (.lst vs)) (Av B (oNew o p (.tm τ.length, []))) (oNew o p (.tm τ.length, [])) (.tm τ.length) [] i k vs' ds := fun vs' => by
    induction vs' with
    | nil => intro ds i h; cases h; exact .nil
    | cons v vs ih => intro ds i h; cases h with | cons a b => exact .cons (RO.new I hp a) (ih _ _ b)
  exact key _ _ _ h
theorem ROs.new (I : Ok K B H0 Hf σ ρ τ H o) {p : Addr} {z : Root × List Nat} {u : HO} (hp : H p = none) {r : Root} {q : List Nat} : ∀ {i : Nat} {vs : List V} {ds : List D}, ROs K H (Av B o) o r q i k vs ds → ROs K (upd H p u) (Av B (oNew o p z)) (oNew o p z) r q i k vs ds
  | _, _, _, .nil => .nil
  | _, _, _, .cons a b => .cons (RO.new I hp a) (ROs.new I hp b)
theorem ROs.grow (e : Same H H') {r : Root} {q : List Nat} : ∀ {i : Nat} {vs : List V} {ds : List D}, ROs K H (Av B o) o r q i k vs ds → ROs K H' (Av B o) o r q i k vs ds
  | _, _, _, .nil => .nil
  | _, _, _, .cons a b => .cons (RO.grow e a) (ROs.grow e b)
/-- (..): k levels of it held by nobody else -/
def eTup (k : Nat) (fs : FA) : FE := fun ρ => (fs ρ).bind fun as ρ1 => if as.length ≤ 1000 then (match k with
  | 0 => if as.all stb' = true then some (.val (.ow 0, .tup (as.map (·.2))) ρ1) else some (.val (.bw, .tup (as.map (·.2))) ρ1)
  | k + 1 => if as.all (hasK k) = true then some (.val (.ow (k + 1), .tup (as.map (·.2))) ρ1) else none) else none
def eLst (k : Nat) (fs : FA) : FE := fun ρ => (fs ρ).bind fun as ρ1 => if as.length ≤ 1000 then (match k with
  | 0 => if as.all stb' = true then some (.val (.ow 1, .lst (as.map (·.2))) ρ1) else some (.val (.bw, .lst (as.map (·.2))) ρ1)
  | k + 1 => if as.all (hasK k) = true then some (.val (.ow (k + 2), .lst (as.map (·.2))) ρ1) else none) else none
theorem se_tup {k : Nat} (hs : SA X ts fs) : SE X (tTup ts) (eTup k fs) := fun ρ z h σ τ H o I Q q => by
  have hx : ∀ x w, z = .exc x w → XW X x w := fun x w e => by subst e; exact q
  refine hs.bindG h I hx fun as ρ1 vs H1 o1 h1 l I1 => ?_
  split at h1
  · rename_i hl
    refine ⟨by rw [l]; exact Nat.le_trans hl (by decide), fun p hp => ?_⟩
    split at h1
    · obtain ⟨o2, I2, ks⟩ := Ok.settles l I1
      split at h1
      · rename_i hs
        cases h1
        exact q _ _ o2 (I2.stNew hp rfl fun H' e e2 => .tup e2 ((Knowns.st I2 ks hs).mono e))
      · cases h1
        exact q _ _ o2 ((I2.grow (same_upd _ hp)).push (t := tmp (.ref p) (.bw, .tup (as.map (·.2)))) (.tup upd_same (ks.rep.mono (same_upd _ hp))))
    · split at h1
      · rename_i hs
        cases h1
        obtain ⟨I2, ks⟩ := Ok.gath l hs I1
        exact q _ _ _ ((I2.grow (same_upd _ hp)).push (t := tmp (.ref p) (.ow _, .tup (as.map (·.2)))) (.tup upd_same (ks.grow (same_upd _ hp))))
      · cases h1
  · cases h1
theorem se_lst {k : Nat} (hs : SA X ts fs) : SE X (tLst ts) (eLst k fs) := fun ρ z h σ τ H o I Q q => by
  have hx : ∀ x w, z = .exc x w → XW X x w := fun x w e => by subst e; exact q
  refine hs.bindG h I hx fun as ρ1 vs H1 o1 h1 l I1 => ?_
  split at h1
  · rename_i hl
    refine ⟨by rw [l]; exact Nat.le_trans hl (by decide), fun p hp => ?_⟩
    split at h1
    · obtain ⟨o2, I2, ks⟩ := Ok.settles l I1
      split at h1
      · rename_i hs
        cases h1
        exact q _ _ _ (I2.lsNew hp (Knowns.st I2 ks hs))
      · cases h1
        exact q _ _ o2 ((I2.grow (same_upd _ hp)).push (t := tmp (.ref p) (.bw, .lst (as.map (·.2)))) (.lst upd_same (ks.rep.mono (same_upd _ hp))))
    · split at h1
      · rename_i hs
        cases h1
        obtain ⟨I2, ks⟩ := Ok.gath l hs I1
        exact q _ _ _ (I2.lsNewK hp ks)
      · cases h1
  · cases h1
/-! ### parts of things -/
def ixD : D → Int → Option D
  | .lst ds, i => atI ds i
  | .tup ds, i => atI ds i
  | .rd ns, i => (atI ns i).map D.int
  | .str s, i => if s.length ≤ sizeLine then (atI s.cps.toList i).map fun c => .str ⟨#[c]⟩ else none
  | _, _ => none
theorem atI_map {α β : Type} (f : α → β) (xs : List α) (i : Int) : atI (xs.map f) i = (atI xs i).map f := by
  unfold atI
  rw [List.length_map]
  cases ixN xs.length i with
  | none => rfl
  | some j =>
    show (xs.map f)[j]? = (xs[j]?).map f
    rw [List.getElem?_map]
theorem Reps.at {vs : List V} {ds : List D} {i : Int} (r : Reps K H vs ds) (h : atI ds i = some d) : ∃ v, atI vs i = some v ∧ Rep K H v d := by
  unfold atI at h ⊢
  rw [r.length]
  cases e : ixN ds.length i with
  | none => rw [e] at h; cases h
  | some j =>
    rw [e] at h
    exact r.get' h
/-- the kind of a part of a thing of kind a -/
def kPart (a : Kv) (f : D) : Kv := match a with
  | .ow _ => .ow 0 | .bw => if flat f = true then .ow 0 else .bw
theorem Ok.part {f : D} {w : V} (I : Ok K B H0 Hf σ ρ τ H o) (h : Known K H (Av B o) v a) (hr : ∀ H', Rep K H' v a.2 → (∀ p u, H' p = some u → H p = some u) → Rep K H' w f) : Ok K B H0 Hf σ ρ (tmp w (kPart a.1 f, f) :: τ) H o := by
  obtain ⟨k, d⟩ := a
  cases k with
  | ow k => exact I.stab (hr _ h fun p u e => del_same _ _ p u e)
  | bw =>
    have r := hr H h fun p u e => e
    unfold kPart
    dsimp only
    split
    · rename_i hf
      exact I.flatP r hf
    · exact I.push (t := tmp w (.bw, f)) r
def gIx : Kx → Kx → Option Kx := fun a b => match b.2 with
  | .int i => (ixD a.2 i).map fun f => (kPart a.1 f, f)
  | _ => none
theorem sql_sub {H H' : Hp} {a : Addr} {vs : List V} (e : Same H H') (h : SqL K H a vs) : SqL K H' a vs := e.seq h
theorem op_ix : Op2 X (rIx X.K) gIx := fun a b c e σ ρ τ H o x y I Q q => by
  obtain ⟨o', I', ka, kb⟩ := I.settle2
  obtain ⟨k1, d⟩ := a
  obtain ⟨k2, e2⟩ := b
  have rb := kb.rep
  unfold gIx at e
  dsimp only at e rb
  cases e2 <;> first | cases e; done | skip
  rename_i i
  replace e : (ixD d i).map (fun f => (kPart k1 f, f)) = some c := e
  cases rb
  cases hf : ixD d i with
  | none => rw [hf] at e; cases e
  | some f =>
    rw [hf] at e
    cases e
    have ra := ka.rep
    cases d with
    | lst ds =>
      cases ra with
      | lst hh rr =>
        obtain ⟨w, e1, _⟩ := rr.at hf
        refine .inl ⟨_, _, i, w, rfl, rfl, SqL.of hh, e1, q w H o' (I'.part ka fun H' r sub => ?_)⟩
        cases r with
        | lst h2 r2 =>
          have e3 := sub _ _ h2
          rw [hh] at e3
          cases e3
          obtain ⟨w', e4, e5⟩ := r2.at hf
          rw [e1] at e4
          cases e4
          exact e5
    | tup ds =>
      cases ra with
      | tup hh rr =>
        obtain ⟨w, e1, _⟩ := rr.at hf
        refine .inr (.inl ⟨_, _, i, w, rfl, rfl, SqT.of hh, e1, q w H o' (I'.part ka fun H' r sub => ?_)⟩)
        cases r with
        | tup h2 r2 =>
          have e3 := sub _ _ h2
          rw [hh] at e3
          cases e3
          obtain ⟨w', e4, e5⟩ := r2.at hf
          rw [e1] at e4
          cases e4
          exact e5
    | str s =>
      cases ra
      simp only [ixD] at hf
      split at hf
      · rename_i hs
        cases ec : atI s.cps.toList i with
        | none => rw [ec] at hf; cases hf
        | some c =>
          rw [ec] at hf
          cases hf
          exact .inr (.inr ⟨s, i, c, rfl, rfl, hs, ec, q _ H o' (I'.part ka fun H' _ _ => .str _)⟩)
      · cases hf
    | rd ns =>
      cases ra with
      | rd hh =>
        replace hf : (atI ns i).map D.int = some f := hf
        cases ec : atI ns i with
        | none => rw [ec] at hf; cases hf
        | some c =>
          rw [ec] at hf
          cases hf
          exact .inl ⟨_, _, i, .int c, rfl, rfl, hh, by rw [atI_map, ec]; rfl, q _ H o' (I'.part ka fun H' _ _ => .int _)⟩
    | _ => cases hf
end
end P

namespace P
open PySem L2
/-- all of it that could change is held: k levels -/
def cov : Nat → D → Bool
  | 0, d => flat d
  | k + 1, .lst ds => covs k ds
  | k + 1, .tup ds => covs (k + 1) ds
  | k + 1, .ins _ fs => covF k fs
  | k + 1, .dic kvs => covK k kvs
  | _ + 1, d => flat d
where
  covs : Nat → List D → Bool
  | _, [] => true
  | k, d :: ds => cov k d && covs k ds
  covF : Nat → List (Str × D) → Bool
  | _, [] => true
  | k, (_, d) :: ds => cov k d && covF k ds
  covK : Nat → List (Key × D) → Bool
  | _, [] => true
  | k, (_, d) :: ds => cov k d && covK k ds
abbrev covs := cov.covs
theorem cov_zero (d : D) : cov 0 d = flat d := by cases d <;> rfl
theorem covF_eq (k : Nat) : ∀ fs : List (Str × D), cov.covF k fs = covs k (fs.map (·.2))
  | [] => rfl
  | (_, d) :: fs => congrArg (cov k d && ·) (covF_eq k fs)
theorem covK_eq (k : Nat) : ∀ fs : List (Key × D), cov.covK k fs = covs k (fs.map (·.2))
  | [] => rfl
  | (_, d) :: fs => congrArg (cov k d && ·) (covK_eq k fs)
theorem covs_all (k : Nat) : ∀ ds : List D, covs k ds = ds.all (cov k)
  | [] => rfl
  | d :: ds => congrArg (cov k d && ·) (covs_all k ds)
theorem flats_all : ∀ ds : List D, flats ds = ds.all flat
  | [] => rfl
  | d :: ds => congrArg (flat d && ·) (flats_all ds)
inductive Out where
  | ret (k : Nat) (d : D) | exc (x : Str) (w : Option (Str × D))
/-- a def by what it makes of data -/
abbrev Run := List D → Option Out
section
variable {X : Fx} {K : PySem.W.Frag} {B B' : Addr → Prop} {H0 H H' : Hp} {Hf : Bg} {σ σ' : St} {ρ ρ' : Env} {τ τ' : List T} {o o' : Own} {v : V} {d : D} {ta tb tc te : TE} {fa fb fc fe : FE} {tt tu : TT} {ft fu : FT} {ts : TA} {fs : FA} {a b : Kx} {k : Nat}
mutual
theorem RO.cov {A A' : Addr → Prop} (e : KeepI H (del H A')) {r : Root} : ∀ {p : List Nat} {k : Nat} {v : V} {d : D}, RO K H A o r p k v d → P.cov k d = true → RO K H A' o r p k v d
  | _, _, _, _, .st h, c => .st (Rep.flat e (h.mono (del_same _ _)) (by rw [← cov_zero]; exact c))
  | _, _, _, _, .flat f h, _ => .flat f h
  | _, _, _, _, .lst ha hh hs, c => .lst ha hh (ROs.cov e hs c)
  | _, _, _, _, .tup hh hs, c => .tup hh (ROs.cov e hs c)
  | _, _, _, _, .ins ha hn hh hs hk, c => .ins ha hn hh (ROs.cov e hs (by rw [← covF_eq]; exact c)) hk
  | _, _, _, _, .dic ha hh hs hk, c => .dic ha hh (ROs.cov e hs (by rw [← covK_eq]; exact c)) hk
theorem ROs.cov {A A' : Addr → Prop} (e : KeepI H (del H A')) {r : Root} : ∀ {p : List Nat} {i k : Nat} {vs : List V} {ds : List D}, ROs K H A o r p i k vs ds → covs k ds = true → ROs K H A' o r p i k vs ds
  | _, _, _, _, _, .nil, _ => .nil
  | _, _, _, _, _, .cons h hs, c => by
    have c' : (P.cov _ _ && covs _ _) = true := c
    rw [Bool.and_eq_true] at c'
    exact .cons (RO.cov e h c'.1) (ROs.cov e hs c'.2)
end
/-! ### defs called -/
def WtO (K : PySem.W.Frag) (B : Addr → Prop) (H : Hp) (Q : VK) (E : XK) : Out → Prop
  | .ret k d => ∀ v H' o, Ok K B H ⟨H, []⟩ [] [] [⟨v, .ow k, d⟩] H' o → Q v H'
  | .exc x w => XW ⟨K, B, H, ⟨H, []⟩, E⟩ x w
def spR (K : PySem.W.Frag) (run : Run) : Sp := fun vs H Q E => ∃ (B : Addr → Prop) (ds : List D) (r : Out), (∀ a, B a → Mu H a) ∧ Reps K (del H B) vs ds ∧ run ds = some r ∧ WtO K B H Q E r
theorem Ok.join (I : Ok K B H0 Hf σ ρ τ H o) {k : Nat} {o3 : Own} (J : Ok K (Av B o) H ⟨H, []⟩ [] [] [⟨v, .ow k, d⟩] H' o3) : ∃ o4, Ok K B H0 Hf σ ρ (⟨v, .ow k, d⟩ :: τ) H' o4 := by
  have hno : ∀ a z, o3 a = some z → o a = none := fun a z h => I.newNone (J.ow a z h).1
  let o4 : Own := fun a => match o3 a with
    | some (.tm 0, q) => some (.tm τ.length, q)
    | some _ => none
    | none => o a
  have h3 : ∀ a z, o a = some z → o4 a = some z := fun a z h => by
    show (match o3 a with
      | some (.tm 0, q) => some (Root.tm τ.length, q)
      | some _ => none
      | none => o a) = some z
    cases e : o3 a with
    | none => exact h
    | some y => rw [hno a y e] at h; cases h
  have h4 : ∀ a z, o4 a = some z → (∃ y, o3 a = some y) ∨ o a = some z := fun a z h => by
    have h : (match o3 a with
      | some (.tm 0, q) => some (Root.tm τ.length, q)
      | some _ => none
      | none => o a) = some z := h
    cases e : o3 a with
    | none => rw [e] at h; exact .inr h
    | some y => exact .inl ⟨y, rfl⟩
  have st : Same (del H (Av B o)) (del H' (Av B o4)) := fun b u hb => by
    obtain ⟨n, e⟩ := del_some.mp hb
    refine del_some.mpr ⟨fun z => ?_, J.sm b u e⟩
    rcases z with z | ⟨y, z⟩
    · exact n (.inl z)
    · rcases h4 b y z with ⟨w, e3⟩ | e3
      · rw [(J.ow b w e3).1] at e; cases e
      · exact n (.inr ⟨y, e3⟩)
  have tr : ∀ r p, Tr K H H' (Av B o) (Av B o4) o o4 r p r p := fun r p => ⟨st, fun a u h _ => J.sm a u h, fun a q h => ⟨h3 a _ h, fun u e => J.sm a u e⟩⟩
  refine ⟨o4, I.len, I.bs, I.sm.trans J.sm, I.fl.tr (I.fl.1.trans J.sm) (fun a u h _ => J.sm a u h) st, fun a p h => ?_, fun i k d h => ?_, ?_, ?_⟩
  · rcases h4 a p h with ⟨y, e⟩ | e
    · refine ⟨?_, (J.ow a y e).2⟩
      cases e0 : H0 a with
      | none => rfl
      | some u =>
        have := (J.ow a y e).1
        rw [I.sm _ _ e0] at this
        cases this
    · exact ⟨(I.ow a p e).1, (I.ow a p e).2.mono J.sm⟩
  · obtain ⟨v, e1, e2⟩ := I.sl i k d h
    refine ⟨v, e1, ?_⟩
    have z := RO.tr (q := []) (tr (.sl i) []) (by simp) e2
    simpa using z
  · have T : Tr K H' H' (Av (Av B o) o3) (Av B o4) o3 o4 (.tm 0) [] (.tm τ.length) [] := ⟨del_sub fun a h => by
      rcases h with h | ⟨y, h⟩
      · exact .inl (.inl h)
      · rcases h4 a y h with ⟨w, e⟩ | e
        · exact .inr ⟨w, e⟩
        · exact .inl (.inr ⟨y, e⟩), fun a u h _ => h, fun a q h => ⟨by
      show (match o3 a with
        | some (.tm 0, q) => some (Root.tm τ.length, q)
        | some _ => none
        | none => o a) = _
      rw [h]
      rfl, fun u e => e⟩⟩
    have z : RO K H' (Av B o4) o4 (.tm τ.length) [] k v d := by
      have z := RO.tr (q := []) T (by simp) (show RO K H' (Av (Av B o) o3) o3 (.tm 0) [] k v d from J.tp.1)
      simpa using z
    exact z
  · have key : ∀ {τ : List T}, TOk K H B o τ → TOk K H' B o4 τ := fun {τ} => by
      induction τ with
      | nil => intro _; trivial
      | cons t τ ih =>
        intro h
        refine ⟨?_, ih h.2⟩
        obtain ⟨v, k, d⟩ := t
        have h := h.1
        cases k with
        | ow k =>
          have z : RO K H' (Av B o4) o4 (.tm τ.length) [] k v d := by
            have z := RO.tr (q := []) (tr (.tm τ.length) []) (by simp) (show RO K H (Av B o) o (.tm τ.length) [] k v d from h)
            simpa using z
          exact z
        | bw => exact Rep.mono J.sm h
        | pl w q => exact PathTo.mono J.sm h
    exact key I.tp
theorem XW.imp {E : XK} {x : Str} {w : Option (Str × D)} (h : XW ⟨K, B, H0, Hf, E⟩ x w) (e : Same H0 H) (hb : ∀ a, B a → B' a) : XW ⟨K, B', H, ⟨H, []⟩, E⟩ x w := by
  cases w with
  | none => exact fun C H' n s => h C H' n (e.trans s)
  | some p => exact fun C dx v H' n s q r => h C dx v H' n (e.trans s) q (r.mono (del_sub hb))
theorem keep_mu {A : Addr → Prop} (h : ∀ a, A a → Mu H a) : KeepI H (del H A) := fun a u e hu => by
  refine del_some.mpr ⟨fun z => ?_, e⟩
  obtain ⟨u', e2, m⟩ := h a z
  rw [e] at e2
  cases e2
  rw [hu] at m
  cases m
theorem XW.flat {E : XK} {x : Str} {w : Option (Str × D)} (h : XW ⟨K, B, H0, Hf, E⟩ x w) (e : Same H0 H) (hB : ∀ a, B a → Mu H0 a) (hf : ∀ f d, w = some (f, d) → flat d = true) : XW ⟨K, fun _ => False, H, ⟨H, []⟩, E⟩ x w := by
  cases w with
  | none => exact fun C H' n s => h C H' n (e.trans s)
  | some p => exact fun C dx v H' n s q r => h C dx v H' n (e.trans s) q (Rep.flat (keep_mu fun a ha => (hB a ha).mono (e.trans s)) (r.mono (del_same _ _)) (hf _ _ rfl))
def flatX : Option (Str × D) → Bool
  | none => true | some (_, d) => flat d
/-- f(..) -/
def eCall (run : Run) (fs : FA) : FE := fun ρ => (fs ρ).bind fun as ρ1 => match run (as.map (·.2)) with
  | none => none
  | some (.ret k d) => if as.all stb' = true then some (.val (.ow k, d) ρ1) else if cov k d = true then some (.val (.ow k, d) ρ1) else none
  | some (.exc x w) => if as.all stb' = true then some (.exc x w) else if flatX w = true then some (.exc x w) else none
theorem se_call {run : Run} (hs : SA X ts fs) : SE X (tCall (spR X.K run) [] X.E ts) (eCall run fs) := fun ρ z h σ τ H o I Q q => by
  have hx : ∀ x w, z = .exc x w → XW X x w := fun x w e => by subst e; exact q
  refine hs.bindG h I hx fun as ρ1 vs H1 o1 h1 l I1 => ?_
  obtain ⟨o2, I2, ks⟩ := Ok.settles l I1
  cases er : run (as.map (·.2)) with
  | none => rw [er] at h1; cases h1
  | some out =>
    rw [er] at h1
    cases out with
    | ret k d =>
      dsimp only at h1
      split at h1
      · rename_i hst
        cases h1
        refine ⟨Av X.B o2, as.map (·.2), .ret k d, fun a ha => I2.mu ha, by rw [List.append_nil]; exact Knowns.st I2 ks hst, er, fun v H' o3 J => ?_⟩
        obtain ⟨o4, I4⟩ := I2.join J
        exact q v H' o4 I4
      · split at h1
        · rename_i hc
          cases h1
          refine ⟨fun _ => False, as.map (·.2), .ret k d, fun a ha => ha.elim, by rw [List.append_nil, del_nil]; exact ks.rep, er, fun v H' o3 J => ?_⟩
          have hmu : ∀ a, Av (Av X.B o2) o3 a → Mu H' a := fun a ha => by
            rcases ha with ha | ⟨y, ha⟩
            · exact (I2.mu ha).mono J.sm
            · exact (J.ow a y ha).2
          obtain ⟨o4, I4⟩ := I2.join (v := v) (d := d) (k := k) (o3 := o3) (H' := H') ⟨rfl, fun a ha => I2.mu ha, J.sm, ⟨J.sm, fun p hp => nomatch hp⟩, J.ow, (fun i k d h => nomatch h), RO.cov (keep_mu hmu) J.tp.1 hc, trivial⟩
          exact q v H' o4 I4
        · cases h1
    | exc x w =>
      dsimp only at h1
      split at h1
      · rename_i hst
        cases h1
        exact ⟨Av X.B o2, as.map (·.2), .exc x w, fun a ha => I2.mu ha, by rw [List.append_nil]; exact Knowns.st I2 ks hst, er, XW.imp (q : XW ⟨X.K, X.B, X.H0, X.Hf, X.E⟩ x w) I2.sm fun a ha => .inl ha⟩
      · split at h1
        · rename_i hc
          cases h1
          refine ⟨fun _ => False, as.map (·.2), .exc x w, fun a ha => ha.elim, by rw [List.append_nil, del_nil]; exact ks.rep, er, XW.flat (q : XW ⟨X.K, X.B, X.H0, X.Hf, X.E⟩ x w) I2.sm I2.bs fun f d e => ?_⟩
          subst e
          exact hc
        · cases h1
/-! ### statements -/
inductive Fl where
  | nxt (ρ : Env) | ret (k : Nat) (d : D) | exc (x : Str) (w : Option (Str × D)) | brk (ρ : Env) | cnt (ρ : Env)
abbrev FS := Env → Option Fl
def noBw (τ : List T) : Prop := ∀ t, t ∈ τ → ∃ k, t.k = .ow k
def En (X : Fx) (τ : List T) (D : Ends) : Fl → Prop
  | .nxt ρ => ∀ σ H o, OkX X σ ρ τ H o → D.nx σ H
  | .brk ρ => ∀ σ H o, OkX X σ ρ τ H o → D.bk σ H
  | .cnt ρ => ∀ σ H o, OkX X σ ρ τ H o → D.ct σ H
  | .ret k d => ∀ v H o, OkX X [] [] [⟨v, .ow k, d⟩] H o → D.rt v H
  | .exc x w => XW X x w
def SS (X : Fx) (t : TS) (f : FS) : Prop := ∀ ρ fl, f ρ = some fl → ∀ σ τ H o, X.Hf.hp = X.H0 → noBw τ → OkX X σ ρ τ H o → ∀ D : Ends, En X τ D fl → t D σ H
def R.toF {α : Type} (r : R α) (f : α → Env → Option Fl) : Option Fl := match r with
  | none => none
  | some (.exc x w) => some (.exc x w)
  | some (.val a ρ) => f a ρ
theorem R.toF_some {α : Type} {r : R α} {f : α → Env → Option Fl} {z : Fl} (h : r.toF f = some z) : (∃ x w, r = some (.exc x w) ∧ z = .exc x w) ∨ ∃ a ρ, r = some (.val a ρ) ∧ f a ρ = some z := by
  match r, h with
  | none, h => cases h
  | some (.exc x w), h => cases h; exact .inl ⟨x, w, rfl, rfl⟩
  | some (.val a ρ), h => exact .inr ⟨a, ρ, rfl, h⟩
theorem SE.toF (h : SE X te fe) {g : Kx → Env → Option Fl} {z : Fl} (e : (fe ρ).toF g = some z) (I : OkX X σ ρ τ H o) {D : Ends} (hz : En X τ' D z) {P : VK}
    (q : ∀ a ρ' v H' o', g a ρ' = some z → OkX X σ ρ' (tmp v a :: τ) H' o' → P v H') : te σ H P := by
  rcases R.toF_some e with ⟨x, w, e1, rfl⟩ | ⟨a, ρ', e1, e2⟩
  · exact h ρ _ e1 σ τ H o I P hz
  · exact h ρ _ e1 σ τ H o I P fun v H' o' J => q a ρ' v H' o' e2 J
theorem ST.toF (h : ST X tt ft) {g : Bool → Env → Option Fl} {z : Fl} (e : (ft ρ).toF g = some z) (I : OkX X σ ρ τ H o) {D : Ends} (hz : En X τ' D z) {P : Bool → Hp → Prop}
    (q : ∀ a ρ' H' o', g a ρ' = some z → OkX X σ ρ' τ H' o' → P a H') : tt σ H P := by
  rcases R.toF_some e with ⟨x, w, e1, rfl⟩ | ⟨a, ρ', e1, e2⟩
  · exact h ρ _ e1 σ τ H o I P hz
  · exact h ρ _ e1 σ τ H o I P fun H' o' J => q a ρ' H' o' e2 J
def sNext : FS := fun ρ => some (.nxt ρ)
def sBrk : FS := fun ρ => some (.brk ρ)
def sCnt : FS := fun ρ => some (.cnt ρ)
def sNever : FS := fun _ => none
def sSeq (f g : FS) : FS := fun ρ => match f ρ with
  | some (.nxt ρ1) => g ρ1
  | r => r
def sRet (fe : FE) : FS := fun ρ => (fe ρ).toF fun a ρ1 => match a.1 with
  | .ow k => some (.ret k a.2) | .bw => if flat a.2 = true then some (.ret 0 a.2) else none
def sDrop (fe : FE) : FS := fun ρ => (fe ρ).toF fun _ ρ1 => some (.nxt ρ1)
def sIf (ft : FT) (f g : FS) : FS := fun ρ => (ft ρ).toF fun b ρ1 => if b = true then f ρ1 else g ρ1
/-- ahead of f these names are let go -/
def sFz : List Nat → FS → FS
  | [], f => f
  | i :: is, f => fun ρ => match look ρ i with
    | some (_, d) => sFz is f (ρ.set i (.ow 0 d))
    | none => none
variable {t u : TS} {f g : FS}
theorem ss_next : SS X tNext sNext := fun ρ fl h σ τ H o h0f nb I D q => by cases h; exact q σ H o I
theorem ss_brk : SS X tBreak sBrk := fun ρ fl h σ τ H o h0f nb I D q => by cases h; exact q σ H o I
theorem ss_cnt : SS X tCont sCnt := fun ρ fl h σ τ H o h0f nb I D q => by cases h; exact q σ H o I
theorem ss_never : SS X t sNever := fun ρ fl h => nomatch h
theorem ss_seq (hf : SS X t f) (hg : SS X u g) : SS X (tSeq t u) (sSeq f g) := fun ρ fl h σ τ H o h0f nb I D q => by
  unfold sSeq at h
  split at h
  · rename_i ρ1 e
    exact hf ρ _ e σ τ H o h0f nb I _ fun σ1 H1 o1 I1 => hg ρ1 fl h σ1 τ H1 o1 h0f nb I1 D q
  · rename_i r hr
    refine hf ρ fl h σ τ H o h0f nb I _ ?_
    cases fl with
    | nxt ρ1 => exact absurd h (hr ρ1)
    | ret k d => exact q
    | exc x w => exact q
    | brk ρ1 => exact q
    | cnt ρ1 => exact q
theorem TmOk.res {j k : Nat} (I : OkX X σ ρ τ H o) (h : TmOk X.K H X.B o j ⟨v, .ow k, d⟩) : ∃ o', OkX X [] [] [⟨v, .ow k, d⟩] H o' :=
  ⟨ob o fun z => if z.1 = .tm j then some (.tm 0, z.2) else none, I.remap _ rfl (fun i k d h => nomatch h) ⟨RO.re (fun q => if_pos rfl) h, trivial⟩⟩
theorem ss_ret (he : SE X te fe) : SS X (tRet te) (sRet fe) := fun ρ fl h σ τ H o h0f nb I D q => by
  refine he.toF h I q fun a ρ1 v H1 o1 h1 I1 => ?_
  obtain ⟨k, d⟩ := a
  cases k with
  | ow k =>
    cases h1
    obtain ⟨o2, I2⟩ := I1.top.res I1.pop
    exact q v H1 o2 I2
  | bw =>
    dsimp only at h1
    split at h1
    · rename_i hf
      cases h1
      have I3 := I1.pop.flatP (tmp_rep I1.top) hf
      obtain ⟨o2, I2⟩ := I3.top.res I3.pop
      exact q v H1 o2 I2
    · cases h1
def sRetN : FS := fun _ => some (.ret 0 .non)
theorem ss_retN : SS X tRetN sRetN := fun ρ fl h σ τ H o h0f nb I D q => by
  cases h
  have I1 := I.scal (d := .non) rfl
  obtain ⟨o2, I2⟩ := I1.top.res I1.pop
  exact q _ H o2 I2
theorem ss_drop (he : SE X te fe) : SS X (tDrop te) (sDrop fe) := fun ρ fl h σ τ H o h0f nb I D q => by
  refine he.toF h I q fun a ρ1 v H1 o1 h1 I1 => ?_
  cases h1
  exact q σ H1 o1 I1.pop
theorem ss_if (ht : ST X tt ft) (hf : SS X t f) (hg : SS X u g) : SS X (tIfS tt t u) (sIf ft f g) := fun ρ fl h σ τ H o h0f nb I D q => by
  refine ht.toF h I q fun b ρ1 H1 o1 h1 I1 => ?_
  cases b with
  | true => rw [if_pos rfl]; rw [if_pos rfl] at h1; exact hf ρ1 fl h1 σ τ H1 o1 h0f nb I1 D q
  | false => rw [if_neg Bool.false_ne_true]; rw [if_neg Bool.false_ne_true] at h1; exact hg ρ1 fl h1 σ τ H1 o1 h0f nb I1 D q
theorem ss_fz : ∀ {is : List Nat} {f : FS}, SS X t f → SS X t (sFz is f)
  | [], _, h => h
  | i :: is, f, h => fun ρ fl e σ τ H o h0f nb I D q => by
    unfold sFz at e
    split at e
    · rename_i k d e2
      exact ss_fz h _ fl e σ τ H _ h0f nb (I.freeze (look_some e2)) D q
    · cases e
/-! ### targets -/
abbrev FG := Kx → Env → Option Env
abbrev FGs := List Kx → Env → Option Env
def Agree {α : Type} (ρ ρ' : List α) (js : List Nat) : Prop := ρ'.length = ρ.length ∧ ∀ j, j ∉ js → ρ'[j]? = ρ[j]?
theorem Agree.refl {α : Type} (ρ : List α) (js : List Nat) : Agree ρ ρ js := ⟨rfl, fun _ _ => rfl⟩
theorem Agree.trans {α : Type} {ρ ρ' ρ'' : List α} {js : List Nat} (h : Agree ρ ρ' js) (h' : Agree ρ' ρ'' js) : Agree ρ ρ'' js := ⟨h'.1.trans h.1, fun j hj => by rw [h'.2 j hj, h.2 j hj]⟩
theorem Agree.of_set {α : Type} (ρ : List α) (i : Nat) (x : α) {js : List Nat} (hi : i ∈ js) : Agree ρ (ρ.set i x) js := ⟨List.length_set .., fun j hj => by
  rw [List.getElem?_set_ne]
  rintro rfl
  exact hj hi⟩
/-- js: the slots that it may set -/
def SG (X : Fx) (js : List Nat) (g : TG) (fg : FG) : Prop := ∀ a ρ ρ', fg a ρ = some ρ' → ∀ σ τ H o v, OkX X σ ρ (tmp v a :: τ) H o → ∀ Q : St → Hp → Prop, (∀ σ' H' o', OkX X σ' ρ' τ H' o' → Agree σ σ' js → Q σ' H') → g v σ H Q
def ows (as : List Kx) : Prop := ∀ a, a ∈ as → ∃ k, a.1 = .ow k
def SGs (X : Fx) (js : List Nat) (g : TGs) (fg : FGs) : Prop := ∀ as ρ ρ', fg as ρ = some ρ' → ows as → ∀ σ τ H o vs, vs.length = as.length → OkX X σ ρ (vs.zipWith tmp as ++ τ) H o → ∀ Q : St → Hp → Prop, (∀ σ' H' o', OkX X σ' ρ' τ H' o' → Agree σ σ' js → Q σ' H') → g vs σ H Q
def gN (i : Nat) : FG := fun a ρ => match a.1 with
  | .ow k => some (ρ.set i (.ow k a.2)) | .bw => if flat a.2 = true then some (ρ.set i (.ow 0 a.2)) else none
theorem sg_name {i : Nat} {js : List Nat} (hi : i ∈ js) : SG X js (gName i) (gN i) := fun a ρ ρ' h σ τ H o v I Q q => by
  obtain ⟨k, d⟩ := a
  cases k with
  | ow k => cases h; exact q _ H _ (Ok.set I i) (.of_set _ _ _ hi)
  | bw =>
    unfold gN at h
    dsimp only at h
    split at h
    · rename_i hf
      cases h
      exact q _ H _ (Ok.set (I.pop.flatP (tmp_rep I.top) hf) i) (.of_set _ _ _ hi)
    · cases h
def gsNil : FGs := fun as ρ => match as with
  | [] => some ρ | _ => none
def gsCons (fg : FG) (fgs : FGs) : FGs := fun as ρ => match as with
  | [] => none
  | a :: as => match fg a ρ with
    | some ρ1 => fgs as ρ1 | none => none
theorem sgs_nil {js : List Nat} : SGs X js gNil gsNil := fun as ρ ρ' h ha σ τ H o vs l I Q q => by
  cases as with
  | nil => cases vs with
    | nil => cases h; exact ⟨rfl, q σ H o I (.refl _ _)⟩
    | cons => cases l
  | cons => cases h
theorem noBw_app {τ1 τ2 : List T} (h1 : noBw τ1) (h2 : noBw τ2) : noBw (τ1 ++ τ2) := fun t ht => (List.mem_append.mp ht).elim (h1 t) (h2 t)
theorem noBw_ows : ∀ {as : List Kx} {vs : List V}, ows as → noBw (vs.zipWith tmp as)
  | [], vs, _ => by cases vs <;> exact fun t h => nomatch h
  | a :: as, [], _ => fun t h => nomatch h
  | a :: as, v :: vs, h => fun t ht => by
    rw [List.zipWith_cons_cons] at ht
    rcases List.mem_cons.mp ht with rfl | ht
    · obtain ⟨k, e⟩ := h a (List.mem_cons_self ..)
      exact ⟨k, by show a.1.kd = _; rw [e]; rfl⟩
    · exact noBw_ows (fun a ha => h a (List.mem_cons_of_mem _ ha)) t ht
theorem sgs_cons {js : List Nat} {g : TG} {gs : TGs} {fg : FG} {fgs : FGs} (h1 : SG X js g fg) (h2 : SGs X js gs fgs) : SGs X js (gCons g gs) (gsCons fg fgs) := fun as ρ ρ' h ha σ τ H o vs l I Q q => by
  cases as with
  | nil => cases h
  | cons a as => cases vs with
    | nil => cases l
    | cons v vs =>
      replace h : (match fg a ρ with | some ρ1 => fgs as ρ1 | none => none) = some ρ' := h
      cases e : fg a ρ with
      | none => rw [e] at h; cases h
      | some ρ1 =>
        rw [e] at h
        have ha' : ows as := fun b hb => ha b (List.mem_cons_of_mem _ hb)
        refine ⟨v, vs, rfl, h1 a ρ ρ1 e σ (vs.zipWith tmp as ++ τ) H o v I _ fun σ1 H1 o1 I1 g1 => ?_⟩
        exact h2 as ρ1 ρ' h ha' σ1 τ H1 o1 vs (Nat.succ.inj l) I1 Q fun σ2 H2 o2 I2 g2 => q σ2 H2 o2 I2 (g1.trans g2)
end
end P

namespace P
open PySem L2
section
variable {X : Fx} {K : PySem.W.Frag} {B B' : Addr → Prop} {H0 H H' : Hp} {Hf : Bg} {σ σ' : St} {ρ ρ' : Env} {τ τ' : List T} {o o' : Own} {v : V} {d : D} {ta tb tc te : TE} {fa fb fc fe : FE} {tt tu : TT} {ft fu : FT} {ts : TA} {fs : FA} {a b : Kx} {k : Nat} {t u : TS} {f g : FS}
/-! ### unpacking -/
def gSeq (K : PySem.W.Frag) (n : Nat) (t : TGs) : TG := fun v σ H Q => gTup K n t v σ H Q ∨ gLst K n t v σ H Q
theorem pg_seq {X : Cx} {es : List Expr} {k : Nat} {t : TGs} {n : Nat} {pos : Pos} (hc : X.calm = true) (h : PGs X es t)
    (hn : (assignEach es X.env).length = n := by rfl) (hst : (assignEach es X.env).findIdx? (·.1) = none := by rfl) : PG X (.Tuple es k pos) (gSeq X.K n t) :=
  ⟨fun pins s σ H v u Q I r q => q.elim (fun q => (pg_tup (k := k) (pos := pos) hc h hn hst).run pins s σ H v u Q I r q) fun q => (pg_lst (k := k) (pos := pos) hc h hn hst).run pins s σ H v u Q I r q⟩
def withK (k : Kv) (ds : List D) : List Kx := ds.map fun d => (k, d)
/-- n things into n names -/
def gT (n : Nat) (fgs : FGs) : FG := fun a ρ => match a with
  | (.ow 0, .tup ds) => if ds.length = n then fgs (withK (.ow 0) ds) ρ else none
  | (.ow (k + 1), .tup ds) => if ds.length = n then fgs (withK (.ow (k + 1)) ds) ρ else none
  | (.ow _, .lst ds) => if ds.length = n then fgs (withK (.ow 0) ds) ρ else none
  | (.bw, .tup ds) => if ds.length = n then (if flats ds = true then fgs (withK (.ow 0) ds) ρ else none) else none
  | (.bw, .lst ds) => if ds.length = n then (if flats ds = true then fgs (withK (.ow 0) ds) ρ else none) else none
  | _ => none
theorem ows_with (k : Nat) (ds : List D) : ows (withK (.ow k) ds) := fun a h => by
  obtain ⟨d, _, rfl⟩ := List.mem_map.mp h
  exact ⟨k, rfl⟩
theorem with_map {k : Kv} (ds : List D) : (withK k ds).map (·.2) = ds := by
  unfold withK
  rw [List.map_map]
  exact List.map_id ds
/-- things held for ever, put on top -/
theorem Ok.stabs : ∀ {vs : List V} {ds : List D}, Ok K B H0 Hf σ ρ τ H o → Reps K (del H (Av B o)) vs ds → Ok K B H0 Hf σ ρ (vs.zipWith tmp (withK (.ow 0) ds) ++ τ) H o
  | _, _, I, .nil => I
  | _, _, I, .cons a b => (Ok.stabs I b).push (.st a)
def gSplit (n m : Nat) : Root × List Nat → Option (Root × List Nat) := fun z => if z.1 = .tm n then (match z.2 with
  | j :: q => some (.tm (n + (m - 1 - j)), q) | [] => none) else some z
theorem Ok.split {vs : List V} {ds : List D} (I : Ok K B H0 Hf σ ρ τ H o) (h : ROs K H (Av B o) o (.tm τ.length) [] 0 (k + 1) vs ds) : Ok K B H0 Hf σ ρ (vs.zipWith tmp (withK (.ow (k + 1)) ds) ++ τ) H (ob o (gSplit τ.length ds.length)) := by
  have tk : TOk K H B (ob o (gSplit τ.length ds.length)) τ := TOk.re (fun j q hj => if_neg (by intro z; cases z; omega)) I.tp
  refine I.remap _ I.len (fun j k' d' h' => by
    obtain ⟨v', e1, e2⟩ := I.sl j k' d' h'
    exact ⟨v', e1, RO.re (fun q => if_neg (by intro z; cases z)) e2⟩) ?_
  have key : ∀ (vs : List V) (es : List D) (i : Nat), i + es.length = ds.length → ROs K H (Av B o) o (.tm τ.length) [] i (k + 1) vs es → TOk K H B (ob o (gSplit τ.length ds.length)) (vs.zipWith tmp (withK (.ow (k + 1)) es) ++ τ) := fun vs => by
    induction vs with
    | nil => intro es i _ h; cases h; exact tk
    | cons v vs ih =>
      intro es i hi h
      cases h with
      | cons a b =>
        rename_i e es
        have hl := b.length
        refine ⟨?_, ih es (i + 1) (by rw [List.length_cons] at hi; omega) b⟩
        have e : (vs.zipWith tmp (withK (.ow (k + 1)) es) ++ τ).length = τ.length + (ds.length - 1 - i) := by
          unfold withK
          rw [List.length_append, List.length_zipWith, List.length_map, hl, Nat.min_self]
          rw [List.length_cons] at hi
          omega
        show TmOk K H B _ (vs.zipWith tmp (withK (.ow (k + 1)) es) ++ τ).length _
        rw [e]
        have hg : ∀ q : List Nat, gSplit τ.length ds.length (Root.tm τ.length, ([] ++ [i]) ++ q) = some (.tm (τ.length + (ds.length - 1 - i)), [] ++ q) := fun q => if_pos rfl
        exact RO.re hg a
  exact key vs ds 0 (by omega) h
theorem sg_seq {js : List Nat} {n : Nat} {gs : TGs} {fgs : FGs} (h : SGs X js gs fgs) : SG X js (gSeq X.K n gs) (gT n fgs) := fun a ρ ρ' e σ τ H o v I Q q => by
  have fin : ∀ (vs : List V) (ds : List D) (o : Own), fgs (withK (.ow 0) ds) ρ = some ρ' → OkX X σ ρ τ H o → Reps X.K (del H (Av X.B o)) vs ds → gs vs σ H Q := fun vs ds o e I r =>
    h _ _ _ e (ows_with _ _) σ τ H o vs (by unfold withK; rw [List.length_map, r.length]) (I.stabs r) Q q
  unfold gT at e
  split at e
  · rename_i ds
    split at e
    · rename_i hl
      have r : RO X.K H (Av X.B o) o (.tm τ.length) [] 0 v (.tup ds) := I.top
      cases r with
      | st r => cases r with
        | tup hh rr => exact .inl ⟨_, _, rfl, SqT.of (del_some.mp hh).2, by rw [rr.length, hl], fin _ _ o e I.pop rr⟩
    · cases e
  · rename_i k ds
    split at e
    · rename_i hl
      have r : RO X.K H (Av X.B o) o (.tm τ.length) [] (k + 1) v (.tup ds) := I.top
      cases r with
      | flat hf r => cases r with
        | tup hh rr =>
          refine .inl ⟨_, _, rfl, SqT.of hh, by rw [rr.length, hl], h _ _ _ e (ows_with _ _) σ τ H o _ (by unfold withK; rw [List.length_map, rr.length]) ?_ Q q⟩
          have key : ∀ {vs : List V} {ds : List D}, Reps X.K H vs ds → flats ds = true → OkX X σ ρ (vs.zipWith tmp (withK (.ow (k + 1)) ds) ++ τ) H o := fun {vs} => by
            induction vs with
            | nil => intro ds r _; cases r; exact I.pop
            | cons v vs ih =>
              intro ds r hf
              cases r with
              | cons a b =>
                have hf' : (flat _ && flats _) = true := hf
                rw [Bool.and_eq_true] at hf'
                exact (ih b hf'.2).push (.flat hf'.1 a)
          exact key rr hf
      | tup hh rr =>
        exact .inl ⟨_, _, rfl, SqT.of hh, by rw [rr.length, hl], h _ _ _ e (ows_with _ _) σ τ H _ _ (by unfold withK; rw [List.length_map, rr.length]) (I.pop.split rr) Q q⟩
    · cases e
  · rename_i k ds
    split at e
    · rename_i hl
      obtain ⟨o', I', ka⟩ := I.settle1
      have r : Rep X.K (del H (Av X.B o')) v (.lst ds) := ka
      cases r with
      | lst hh rr => exact .inr ⟨_, _, rfl, SqL.of (del_some.mp hh).2, by rw [rr.length, hl], fin _ _ o' e I' rr⟩
    · cases e
  · rename_i ds
    split at e
    · rename_i hl
      split at e
      · rename_i hf
        have r : Rep X.K H v (.tup ds) := I.top
        cases r with
        | tup hh rr => exact .inl ⟨_, _, rfl, SqT.of hh, by rw [rr.length, hl], fin _ _ o e I.pop (Reps.flat (keep_av I.pop) rr hf)⟩
      · cases e
    · cases e
  · rename_i ds
    split at e
    · rename_i hl
      split at e
      · rename_i hf
        have r : Rep X.K H v (.lst ds) := I.top
        cases r with
        | lst hh rr => exact .inr ⟨_, _, rfl, SqL.of hh, by rw [rr.length, hl], fin _ _ o e I.pop (Reps.flat (keep_av I.pop) rr hf)⟩
      · cases e
    · cases e
  · cases e
/-! ### assignments -/
def sAsg (fe : FE) (fg : FG) : FS := fun ρ => (fe ρ).toF fun a ρ1 => match fg a ρ1 with
  | some ρ2 => some (.nxt ρ2) | none => none
theorem ss_asg {js : List Nat} {g : TG} {fg : FG} (he : SE X te fe) (hg : SG X js g fg) : SS X (tAsg te g) (sAsg fe fg) := fun ρ fl h σ τ H o h0f nb I D q => by
  refine he.toF h I q fun a ρ1 v H1 o1 h1 I1 => ?_
  cases e : fg a ρ1 with
  | none => rw [e] at h1; cases h1
  | some ρ2 =>
    rw [e] at h1
    cases h1
    exact hg a ρ1 ρ2 e σ τ H1 o1 v I1 _ fun σ' H' o' I' _ => q σ' H' o' I'
/-- x, y = a, b -/
def sPar (i j : Nat) (fs : FA) : FS := fun ρ => match fs ρ with
  | none => none
  | some (.exc x w) => some (.exc x w)
  | some (.val as ρ1) => match as with
    | [a, b] => if as.all stb' = true then some (.nxt ((ρ1.set i (.ow 0 a.2)).set j (.ow 0 b.2))) else none
    | _ => none
theorem ss_par {i j : Nat} (hs : SA X ts fs) : SS X (tPar i j ts) (sPar i j fs) := fun ρ fl h σ τ H o h0f nb I D q => by
  unfold sPar at h
  split at h
  · cases h
  · rename_i x w e
    cases h
    exact hs ρ _ e σ τ H o I _ q
  · rename_i as ρ1 e
    split at h
    · rename_i a b
      split at h
      · rename_i hst
        cases h
        refine hs ρ _ e σ τ H o I _ fun vs H1 o1 l I1 => ?_
        obtain ⟨o2, I2, ks⟩ := Ok.settles l I1
        have r := Knowns.st I2 ks hst
        match vs, l, r with
        | [v, w], _, .cons ra (.cons rb .nil) =>
          refine ⟨v, w, rfl, ?_⟩
          have J := ((I2.stab rb).stab (show Rep X.K (del H1 (Av X.B o2)) v a.2 from ra)).set i
          exact q _ H1 _ (Ok.set J j)
      · cases h
    · cases h
/-- x += n -/
def sAug (i : Nat) (fe : FE) (op : Int → Int → Int) : FS := fun ρ => match look ρ i with
  | some (_, .int m) => (fe ρ).toF fun a ρ1 => match a.2 with
    | .int n => some (.nxt (ρ1.set i (.ow 0 (.int (op m n))))) | _ => none
  | _ => none
theorem ss_aug {i : Nat} {op : Int → Int → Int} (he : SE X te fe) : SS X (tAug i te (ipI op)) (sAug i fe op) := fun ρ fl h σ τ H o h0f nb I D q => by
  unfold sAug at h
  split at h
  · rename_i k m e
    obtain ⟨v, e1, e2⟩ := I.sl i k _ (look_some e)
    have r := e2.repH
    cases r
    refine ⟨_, e1, he.toF h I q fun a ρ1 w H1 o1 h1 I1 => ?_⟩
    have ra := tmp_rep I1.top
    split at h1
    · rename_i n en
      rw [en] at ra
      cases ra
      cases h1
      exact ⟨m, n, rfl, rfl, q _ H1 _ ((I1.pop.scal (d := .int (op m n)) rfl).set i)⟩
    · cases h1
  · cases h
/-! ### while -/
def whileF (ft : FT) (fb : FS) : Nat → Env → Option Fl
  | 0, _ => none
  | n + 1, ρ => (ft ρ).toF fun b ρ1 => if b = true then (match fb ρ1 with
    | none => none
    | some (.nxt ρ2) => whileF ft fb n ρ2
    | some (.cnt ρ2) => whileF ft fb n ρ2
    | some (.brk ρ2) => some (.nxt ρ2)
    | some r => some r) else some (.nxt ρ1)
theorem whileF_more {ft : FT} {fb : FS} : ∀ {n : Nat} {ρ : Env} {r : Fl}, whileF ft fb n ρ = some r → ∀ m, n ≤ m → whileF ft fb m ρ = some r
  | 0, _, _, h, _, _ => nomatch h
  | n + 1, ρ, r, h, m, hm => by
    cases m with
    | zero => omega
    | succ m =>
      unfold whileF at h ⊢
      cases e : ft ρ with
      | none => rw [e] at h; cases h
      | some z =>
        rw [e] at h
        cases z with
        | exc x w => exact h
        | val b ρ1 =>
          cases b with
          | false => exact h
          | true =>
            replace h : (match fb ρ1 with
              | none => none
              | some (.nxt ρ2) => whileF ft fb n ρ2
              | some (.cnt ρ2) => whileF ft fb n ρ2
              | some (.brk ρ2) => some (.nxt ρ2)
              | some r => some r) = some r := h
            show (match fb ρ1 with
              | none => none
              | some (.nxt ρ2) => whileF ft fb m ρ2
              | some (.cnt ρ2) => whileF ft fb m ρ2
              | some (.brk ρ2) => some (.nxt ρ2)
              | some r => some r) = some r
            cases e2 : fb ρ1 with
            | none => rw [e2] at h; cases h
            | some y =>
              rw [e2] at h
              cases y with
              | nxt ρ2 => exact whileF_more (n := n) h m (by omega)
              | cnt ρ2 => exact whileF_more (n := n) h m (by omega)
              | brk ρ2 => exact h
              | ret k d => exact h
              | exc x w => exact h
open Classical in
noncomputable def sWhile (ft : FT) (fb : FS) : FS := fun ρ => if h : ∃ (r : Fl) (n : Nat), whileF ft fb n ρ = some r then some h.choose else none
theorem sWhile_of {ft : FT} {fb : FS} {n : Nat} {r : Fl} (h : whileF ft fb n ρ = some r) : sWhile ft fb ρ = some r := by
  have ex : ∃ (r : Fl) (n : Nat), whileF ft fb n ρ = some r := ⟨r, n, h⟩
  unfold sWhile
  rw [dif_pos ex]
  obtain ⟨m, hm⟩ := ex.choose_spec
  have h1 := whileF_more h (max n m) (by omega)
  have h2 := whileF_more hm (max n m) (by omega)
  rw [h1] at h2
  exact h2.symm
theorem sWhile_some {ft : FT} {fb : FS} {r : Fl} (h : sWhile ft fb ρ = some r) : ∃ n, whileF ft fb n ρ = some r := by
  unfold sWhile at h
  split at h
  · rename_i ex
    cases h
    exact ex.choose_spec
  · cases h
theorem ss_while (ht : ST X tt ft) (hb : SS X t f) : SS X (tWhile tt t) (sWhile ft f) := fun ρ fl h σ τ H o h0f nb I D q => by
  obtain ⟨n, hn⟩ := sWhile_some h
  refine ⟨fun m σ H => ∃ ρ o, whileF ft f m ρ = some fl ∧ OkX X σ ρ τ H o, ⟨n, ρ, o, hn, I⟩, ?_⟩
  rintro m σ H ⟨ρ, o, hm, I⟩
  cases m with
  | zero => cases hm
  | succ m =>
    unfold whileF at hm
    refine ht.toF hm I q fun b ρ1 H1 o1 h1 I1 => ?_
    cases b with
    | false =>
      rw [if_neg Bool.false_ne_true]
      rw [if_neg Bool.false_ne_true] at h1
      cases h1
      exact q σ H1 o1 I1
    | true =>
      rw [if_pos rfl]
      rw [if_pos rfl] at h1
      refine ⟨fun σ' H' => ∃ ρ o, whileF ft f m ρ = some fl ∧ OkX X σ' ρ τ H' o, fun σ' H' ⟨ρ, o, e, I⟩ => ⟨m, Nat.lt_succ_self m, ρ, o, e, I⟩, ?_⟩
      cases e2 : f ρ1 with
      | none => rw [e2] at h1; cases h1
      | some y =>
        rw [e2] at h1
        refine hb ρ1 y e2 σ τ H1 o1 h0f nb I1 _ ?_
        cases y with
        | nxt ρ2 => exact fun σ' H' o' I' => ⟨ρ2, o', h1, I'⟩
        | cnt ρ2 => exact fun σ' H' o' I' => ⟨ρ2, o', h1, I'⟩
        | brk ρ2 => cases h1; exact fun σ' H' o' I' => q σ' H' o' I'
        | ret k d => cases h1; exact q
        | exc x w => cases h1; exact q
/-! ### what is walked -/
def Walks (X : Fx) (J : It) (ds : List D) (W : List (V × D)) : Prop := ∀ σ ρ τ H o i, OkX X σ ρ τ H o → (∀ p, p ∈ W → Rep X.K (del H (Av X.B o)) p.1 p.2) →
  (ds.length ≤ i → J.stop i H) ∧ ∀ d, ds[i]? = some d → J.go i H ∧ ∀ x H', J.yld i H x H' → Same H H' ∧ OkX X σ ρ (⟨x, .ow 0, d⟩ :: τ) H' o
abbrev FI := Env → R (List D)
def SI (X : Fx) (wi : TI) (fi : FI) : Prop := ∀ ρ r, fi ρ = some r → ∀ σ τ H o, OkX X σ ρ τ H o → ∀ Q : It → Hp → Prop,
  (match r with
  | .val ds ρ' => ∀ J W H' o', Walks X J ds W → OkX X σ ρ' τ H' o' → (∀ p, p ∈ W → Rep X.K (del H' (Av X.B o')) p.1 p.2) → Q J H'
  | .exc x w => XW X x w) → wi σ H Q
/-- the things of a list that stands still -/
def lstD (a : Kx) : Option (List D) := match a with
  | (.ow _, .lst ds) => some ds
  | (.ow _, .rd ns) => some (ns.map .int)
  | _ => none
theorem walks_l {p : Addr} {ds : List D} : Walks X (Itl X.K p) ds [(.ref p, .lst ds)] := fun σ ρ τ H o i I hW => by
  have r := hW _ (List.mem_cons_self ..)
  cases r with
  | lst hh rr =>
    have hq : SqL X.K H p _ := SqL.of (del_some.mp hh).2
    refine ⟨fun hi => ⟨_, hq, by rw [rr.length]; exact hi⟩, fun d hd => ?_⟩
    obtain ⟨x, e1, e2⟩ := rr.get' hd
    refine ⟨⟨_, x, hq, e1⟩, fun x' H' y => ?_⟩
    obtain ⟨rfl, y⟩ := y
    have e := y _ hq
    rw [e1] at e
    cases e
    exact ⟨Same.refl _, I.stab e2⟩
theorem walks_rd {p : Addr} {ns : List Int} : Walks X (Itl X.K p) (ns.map .int) [(.ref p, .rd ns)] := fun σ ρ τ H o i I hW => by
  have r := hW _ (List.mem_cons_self ..)
  cases r with
  | rd hh =>
    have hq := (del_same H (Av X.B o)).seq hh
    refine ⟨fun hi => ⟨_, hq, by rw [List.length_map] at hi ⊢; exact hi⟩, fun d hd => ?_⟩
    rw [List.getElem?_map] at hd
    cases e : ns[i]? with
    | none => rw [e] at hd; cases hd
    | some n =>
      rw [e] at hd
      cases hd
      have e1 : (ns.map V.int)[i]? = some (V.int n) := by rw [List.getElem?_map, e]; rfl
      refine ⟨⟨_, _, hq, e1⟩, fun x' H' y => ?_⟩
      obtain ⟨rfl, y⟩ := y
      have e := y _ hq
      rw [e1] at e
      cases e
      exact ⟨Same.refl _, I.stab (.int n)⟩
def iLst (fe : FE) : FI := fun ρ => (fe ρ).bind fun a ρ1 => (lstD a).map fun ds => .val ds ρ1
theorem SE.bindI (h : SE X te fe) {g : Kx → Env → R (List D)} {z : Rs (List D)} (e : (fe ρ).bind g = some z) (I : OkX X σ ρ τ H o) {P : VK} (hx : ∀ x w, z = .exc x w → XW X x w)
    (q : ∀ a ρ' v H' o', g a ρ' = some z → OkX X σ ρ' (tmp v a :: τ) H' o' → P v H') : te σ H P := h.bindG e I hx q
theorem si_lst (he : SE X te fe) : SI X (iList X.K te) (iLst fe) := fun ρ z h σ τ H o I Q q => by
  have hx : ∀ x w, z = .exc x w → XW X x w := fun x w e => by subst e; exact q
  refine he.bindI h I hx fun a ρ1 v H1 o1 h1 I1 => ?_
  obtain ⟨o2, I2, ka⟩ := I1.settle1
  cases e : lstD a with
  | none => rw [e] at h1; cases h1
  | some ds =>
    rw [e] at h1
    cases h1
    unfold lstD at e
    split at e
    · cases e
      have r : Rep X.K (del H1 (Av X.B o2)) v (.lst ds) := ka
      cases r with
      | lst hh rr =>
        refine ⟨_, rfl, ⟨_, SqL.of (del_some.mp hh).2⟩, q _ _ H1 o2 walks_l I2 fun p hp => ?_⟩
        rw [List.mem_singleton.mp hp]
        exact .lst hh rr
    · rename_i ns
      cases e
      have r : Rep X.K (del H1 (Av X.B o2)) v (.rd ns) := ka
      cases r with
      | rd hh =>
        refine ⟨_, rfl, ⟨_, (del_same _ _).seq hh⟩, q _ _ H1 o2 walks_rd I2 fun p hp => ?_⟩
        rw [List.mem_singleton.mp hp]
        exact .rd hh
    · cases e
def rangeD (lo : Int) (n : Nat) : List D := (List.range n).map fun i => .int (lo + (i : Nat))
theorem rangeD_length (lo : Int) (n : Nat) : (rangeD lo n).length = n := by unfold rangeD; rw [List.length_map, List.length_range]
theorem rangeD_get {lo : Int} {n i : Nat} {d : D} (h : (rangeD lo n)[i]? = some d) : i < n ∧ d = .int (lo + (i : Nat)) := by
  unfold rangeD at h
  rw [List.getElem?_map] at h
  cases e : (List.range n)[i]? with
  | none => rw [e] at h; cases h
  | some j =>
    rw [e] at h
    cases h
    have hi := (List.getElem?_eq_some_iff.mp e)
    obtain ⟨h1, h2⟩ := hi
    rw [List.getElem_range] at h2
    subst h2
    rw [List.length_range] at h1
    exact ⟨h1, rfl⟩
theorem walks_range {lo : Int} {n : Nat} : Walks X (Itr lo n) (rangeD lo n) [] := fun σ ρ τ H o i I hW => by
  refine ⟨fun hi => by rw [rangeD_length] at hi; exact hi, fun d hd => ?_⟩
  obtain ⟨h1, rfl⟩ := rangeD_get hd
  exact ⟨h1, fun x H' y => by
    obtain ⟨rfl, rfl⟩ := y
    exact ⟨Same.refl _, I.stab (.int _)⟩⟩
noncomputable def iR1 (fe : FE) : FI := fun ρ => (fe ρ).bind fun a ρ1 => match a.2 with
  | .int n => chk (-(2 ^ 62) ≤ n ∧ n < 2 ^ 62) (some (.val (rangeD 0 n.toNat) ρ1)) | _ => none
noncomputable def iR2 (fa fb : FE) : FI := fun ρ => (fa ρ).bind fun a ρ1 => (fb ρ1).bind fun b ρ2 => match a.2, b.2 with
  | .int m, .int n => chk (-(2 ^ 62) ≤ m ∧ m < 2 ^ 62 ∧ -(2 ^ 62) ≤ n ∧ n < 2 ^ 62) (some (.val (rangeD m (n - m).toNat) ρ2)) | _, _ => none
theorem si_r1 (he : SE X te fe) : SI X (iRng1 (tCons te tNil)) (iR1 fe) := fun ρ z h σ τ H o I Q q => by
  have hx : ∀ x w, z = .exc x w → XW X x w := fun x w e => by subst e; exact q
  refine he.bindI h I hx fun a ρ1 v H1 o1 h1 I1 => ?_
  have ra := tmp_rep I1.top
  split at h1
  · rename_i n en
    rw [en] at ra
    cases ra
    obtain ⟨hc, h1⟩ := chk_some h1
    cases h1
    exact ⟨n, rfl, hc.1, hc.2, q _ [] H1 o1 walks_range I1.pop fun p hp => nomatch hp⟩
  · cases h1
theorem si_r2 (ha : SE X ta fa) (hb : SE X tb fb) : SI X (iRng2 (tCons ta (tCons tb tNil))) (iR2 fa fb) := fun ρ z h σ τ H o I Q q => by
  have hx : ∀ x w, z = .exc x w → XW X x w := fun x w e => by subst e; exact q
  refine ha.bindI h I hx fun a ρ1 v H1 o1 h1 I1 => hb.bindI h1 I1 hx fun b ρ2 w H2 o2 h2 I2 => ?_
  have ra := tmp_rep I2.pop.top
  have rb := tmp_rep I2.top
  split at h2
  · rename_i m n em en
    rw [em] at ra
    rw [en] at rb
    cases ra
    cases rb
    obtain ⟨hc, h2⟩ := chk_some h2
    cases h2
    exact ⟨m, n, rfl, hc, q _ [] H2 o2 walks_range I2.pop.pop fun p hp => nomatch hp⟩
  · cases h2
/-! ### for -/
def loop (fg : FG) (fb : FS) : List D → Env → Option Fl
  | [], ρ => some (.nxt ρ)
  | d :: ds, ρ => match fg (.ow 0, d) ρ with
    | none => none
    | some ρ1 => match fb ρ1 with
      | none => none
      | some (.nxt ρ2) => loop fg fb ds ρ2
      | some (.cnt ρ2) => loop fg fb ds ρ2
      | some (.brk ρ2) => some (.nxt ρ2)
      | some r => some r
def sFor (fi : FI) (fg : FG) (fb : FS) : FS := fun ρ => match fi ρ with
  | none => none
  | some (.exc x w) => some (.exc x w)
  | some (.val ds ρ1) => loop fg fb ds ρ1
def aside (W : List (V × D)) : List T := W.map fun p => ⟨p.1, .ow 0, p.2⟩
theorem aside_get : ∀ {W : List (V × D)}, TOk K H B o (aside W ++ τ) → ∀ p, p ∈ W → Rep K (del H (Av B o)) p.1 p.2
  | [], _, p, hp => nomatch hp
  | w :: W, h, p, hp => by
    rcases List.mem_cons.mp hp with rfl | hp
    · have z : RO K H (Av B o) o _ [] 0 p.1 p.2 := h.1
      cases z with
      | st z => exact z
    · exact aside_get (W := W) h.2 p hp
theorem Ok.aside : ∀ {W : List (V × D)}, Ok K B H0 Hf σ ρ τ H o → (∀ p, p ∈ W → Rep K (del H (Av B o)) p.1 p.2) → Ok K B H0 Hf σ ρ (P.aside W ++ τ) H o
  | [], I, _ => I
  | w :: W, I, h => (Ok.aside (W := W) I fun p hp => h p (List.mem_cons_of_mem _ hp)).push (.st (h w (List.mem_cons_self ..)))
theorem noBw_aside (W : List (V × D)) : noBw (aside W) := fun t ht => by
  obtain ⟨p, _, rfl⟩ := List.mem_map.mp ht
  exact ⟨0, rfl⟩
theorem ss_for {js : List Nat} {wi : TI} {fi : FI} {g : TG} {fg : FG} (hi : SI X wi fi) (hg : SG X js g fg) (hb : SS X t f) : SS X (tFor wi g t) (sFor fi fg f) := fun ρ fl h σ τ H o h0f nb I D q => by
  unfold sFor at h
  split at h
  · cases h
  · rename_i x w e
    cases h
    exact hi ρ _ e σ τ H o I _ q
  · rename_i ds ρ1 e
    refine hi ρ _ e σ τ H o I _ fun J W H1 o1 hW I1 hF => ?_
    refine ⟨fun i m σ H => m = ds.length - i ∧ i ≤ ds.length ∧ ∃ ρ o, loop fg f (ds.drop i) ρ = some fl ∧ OkX X σ ρ (aside W ++ τ) H o, ⟨_, rfl, Nat.zero_le _, ρ1, o1, h, I1.aside hF⟩, ?_⟩
    rintro i m σ H ⟨rfl, hi, ρ, o, hl, I⟩
    obtain ⟨w1, w2⟩ := hW σ ρ _ H o i I (aside_get I.tp)
    by_cases hlt : i < ds.length
    · obtain ⟨go, y⟩ := w2 ds[i] (List.getElem?_eq_getElem hlt)
      rw [List.drop_eq_getElem_cons hlt] at hl
      unfold loop at hl
      refine .inr ⟨go, fun σ' H' => ∃ ρ o, loop fg f (ds.drop (i + 1)) ρ = some fl ∧ OkX X σ' ρ (aside W ++ τ) H' o, fun σ' H' ⟨ρ, o, e, I⟩ => ⟨_, by omega, rfl, hlt, ρ, o, e, I⟩, fun x H' hy => ?_⟩
      obtain ⟨_, I2⟩ := y x H' hy
      cases eg : fg (.ow 0, ds[i]) ρ with
      | none => rw [eg] at hl; cases hl
      | some ρ2 =>
        rw [eg] at hl
        dsimp only at hl
        refine hg (.ow 0, ds[i]) ρ ρ2 eg σ _ H' o x I2 _ fun σ3 H3 o3 I3 _ => ?_
        cases eb : f ρ2 with
        | none => rw [eb] at hl; cases hl
        | some r =>
          rw [eb] at hl
          refine hb ρ2 r eb σ3 _ H3 o3 h0f (noBw_app (noBw_aside W) nb) I3 _ ?_
          cases r with
          | nxt ρ4 => exact fun σ' H' o' I' => ⟨ρ4, o', hl, I'⟩
          | cnt ρ4 => exact fun σ' H' o' I' => ⟨ρ4, o', hl, I'⟩
          | brk ρ4 => cases hl; exact fun σ' H' o' I' => q σ' H' o' I'.pops
          | ret k d => cases hl; exact q
          | exc x w => cases hl; exact q
    · have e : i = ds.length := by omega
      subst e
      rw [List.drop_length] at hl
      cases hl
      exact .inl ⟨w1 (Nat.le_refl _), q σ H o I.pops⟩
end
end P

namespace P
open PySem L2
/-! ### what is held is changed -/
def getK : Nat → D → List Nat → Option (Nat × D)
  | k, d, [] => some (k, d)
  | k + 1, .lst ds, j :: q => match ds[j]? with
    | some e => getK k e q | none => none
  | k + 1, .tup ds, j :: q => match ds[j]? with
    | some e => getK (k + 1) e q | none => none
  | k + 1, .ins _ fs, j :: q => match (fs.map (·.2))[j]? with
    | some e => getK k e q | none => none
  | k + 1, .dic fs, j :: q => match (fs.map (·.2))[j]? with
    | some e => getK k e q | none => none
  | _, _, _ :: _ => none
def setV {α : Type} (fs : List (α × D)) (j : Nat) (d : D) : List (α × D) := match fs, j with
  | [], _ => []
  | (x, _) :: fs, 0 => (x, d) :: fs
  | f :: fs, j + 1 => f :: setV fs j d
def putK : D → List Nat → D → D
  | _, [], n => n
  | .lst ds, j :: q, n => match ds[j]? with
    | some e => .lst (ds.set j (putK e q n)) | none => .lst ds
  | .tup ds, j :: q, n => match ds[j]? with
    | some e => .tup (ds.set j (putK e q n)) | none => .tup ds
  | .ins C fs, j :: q, n => match (fs.map (·.2))[j]? with
    | some e => .ins C (setV fs j (putK e q n)) | none => .ins C fs
  | .dic fs, j :: q, n => match (fs.map (·.2))[j]? with
    | some e => .dic (setV fs j (putK e q n)) | none => .dic fs
  | d, _ :: _, _ => d
theorem setV_snd {α : Type} : ∀ (fs : List (α × D)) (j : Nat) (d : D), (setV fs j d).map (·.2) = (fs.map (·.2)).set j d
  | [], _, _ => rfl
  | (_, _) :: _, 0, _ => rfl
  | f :: fs, j + 1, d => congrArg (f.2 :: ·) (setV_snd fs j d)
theorem setV_fst {α : Type} : ∀ (fs : List (α × D)) (j : Nat) (d : D), (setV fs j d).map (·.1) = fs.map (·.1)
  | [], _, _ => rfl
  | (_, _) :: _, 0, _ => rfl
  | f :: fs, j + 1, d => congrArg (f.1 :: ·) (setV_fst fs j d)
section
variable {X : Fx} {K : PySem.W.Frag} {A A' B B' : Addr → Prop} {H0 H H' : Hp} {Hf : Bg} {σ σ' : St} {ρ ρ' : Env} {τ τ' : List T} {o o' : Own} {v w : V} {d e : D} {ta tb tc te : TE} {fa fb fc fe : FE} {tt tu : TT} {ft fu : FT} {ts : TA} {fs : FA} {a b : Kx} {k : Nat} {t u : TS} {f g : FS} {r r' : Root} {p p' q : List Nat}
theorem PathTo.det : ∀ {q : List Nat} {w v v' : V}, PathTo H w q v → PathTo H w q v' → v = v'
  | [], _, _, _, h, h' => h.trans h'.symm
  | j :: q, w, v, v', h, h' => by
    obtain ⟨a, u, rfl, h2, h3⟩ := h
    obtain ⟨a', u', e, h2', h3'⟩ := h'
    cases e
    rw [h2] at h2'
    cases h2'
    exact PathTo.det h3 h3'
theorem child_lst {a : Addr} {j : Nat} {vs : List V} (h : H a = some (.lst vs)) : child H a j = vs[j]? := by unfold child; rw [h]
theorem child_tup {a : Addr} {j : Nat} {vs : List V} (h : H a = some (.tup vs)) : child H a j = vs[j]? := by unfold child; rw [h]
theorem child_ins {a C dx : Addr} {j : Nat} {fs : List (Str × V)} (h : H a = some (.ins C dx fs)) : child H a j = (fs.map (·.2))[j]? := by unfold child; rw [h]
theorem child_dic {a : Addr} {j : Nat} {fs : List (Key × V)} (h : H a = some (.dK fs)) : child H a j = (fs.map (·.2))[j]? := by unfold child; rw [h]
/-- a part of what is held -/
theorem RO.get : ∀ {q : List Nat} {p : List Nat} {k k' : Nat} {w : V} {d e : D}, RO K H A o r p k w d → getK k d q = some (k', e) → ∃ v, RO K H A o r (p ++ q) k' v e ∧ PathTo H w q v
  | [], p, k, k', w, d, e, h, g => by
    have g : some (k, d) = some (k', e) := by cases k <;> exact g
    cases g
    exact ⟨w, by rw [List.append_nil]; exact h, rfl⟩
  | j :: q, p, k, k', w, d, e, h, g => by
    cases h with
    | st h => cases d <;> cases g
    | flat hf h =>
      cases d with
      | tup ds =>
        cases h with
        | tup hh rr =>
          replace g : (match ds[j]? with | some e => getK (_ + 1) e q | none => none) = some (k', e) := g
          cases ej : ds[j]? with
          | none => rw [ej] at g; cases g
          | some f =>
            rw [ej] at g
            obtain ⟨v, e1, e2⟩ := rr.get' ej
            obtain ⟨v', h1, h2⟩ := RO.get (p := p ++ [j]) (.flat (flats_mem hf (List.mem_of_getElem? ej)) e2) g
            exact ⟨v', by rw [List.append_cons]; exact h1, _, v, rfl, by rw [child_tup hh]; exact e1, h2⟩
      | lst => cases hf
      | ins => cases hf
      | dic => cases hf
      | _ => cases g
    | lst ha hh hs =>
      rename_i ds
      replace g : (match ds[j]? with | some e => getK _ e q | none => none) = some (k', e) := g
      cases ej : ds[j]? with
      | none => rw [ej] at g; cases g
      | some f =>
        rw [ej] at g
        obtain ⟨v, e1, e2⟩ := hs.get ej
        rw [Nat.zero_add] at e2
        obtain ⟨v', h1, h2⟩ := RO.get e2 g
        exact ⟨v', by rw [List.append_cons]; exact h1, _, v, rfl, by rw [child_lst hh]; exact e1, h2⟩
    | tup hh hs =>
      rename_i ds
      replace g : (match ds[j]? with | some e => getK (_ + 1) e q | none => none) = some (k', e) := g
      cases ej : ds[j]? with
      | none => rw [ej] at g; cases g
      | some f =>
        rw [ej] at g
        obtain ⟨v, e1, e2⟩ := hs.get ej
        rw [Nat.zero_add] at e2
        obtain ⟨v', h1, h2⟩ := RO.get e2 g
        exact ⟨v', by rw [List.append_cons]; exact h1, _, v, rfl, by rw [child_tup hh]; exact e1, h2⟩
    | ins ha hn hh hs hk =>
      rename_i fs gs
      replace g : (match (gs.map (·.2))[j]? with | some e => getK _ e q | none => none) = some (k', e) := g
      cases ej : (gs.map (·.2))[j]? with
      | none => rw [ej] at g; cases g
      | some f =>
        rw [ej] at g
        obtain ⟨v, e1, e2⟩ := hs.get ej
        rw [Nat.zero_add] at e2
        obtain ⟨v', h1, h2⟩ := RO.get e2 g
        exact ⟨v', by rw [List.append_cons]; exact h1, _, v, rfl, by rw [child_ins hh]; exact e1, h2⟩
    | dic ha hh hs hk =>
      rename_i fs gs
      replace g : (match (gs.map (·.2))[j]? with | some e => getK _ e q | none => none) = some (k', e) := g
      cases ej : (gs.map (·.2))[j]? with
      | none => rw [ej] at g; cases g
      | some f =>
        rw [ej] at g
        obtain ⟨v, e1, e2⟩ := hs.get ej
        rw [Nat.zero_add] at e2
        obtain ⟨v', h1, h2⟩ := RO.get e2 g
        exact ⟨v', by rw [List.append_cons]; exact h1, _, v, rfl, by rw [child_dic hh]; exact e1, h2⟩
/-- a write at the place (r, z): all else stays -/
structure Wr (K : PySem.W.Frag) (H H' : Hp) (A A' : Addr → Prop) (o o' : Own) (r : Root) (z : List Nat) : Prop where
  tr : ∀ p : List Nat, (∀ s, p ++ s ≠ z) → Tr K H H' A A' o o' r p r p
  nd : ∀ a s, o a = some (r, s) → s ≠ z → o' a = some (r, s) ∧ ∀ u, H a = some u → H' a = some u
  ki : KeepI H H'
theorem Wr.ro (W : Wr K H H' A A' o o' r q) (hp : ∀ s, p ++ s ≠ q) (h : RO K H A o r p k w d) : RO K H' A' o' r p k w d := by
  have z := RO.tr (q := []) (W.tr p hp) (by simp) h
  simpa using z
theorem ROs.of : ∀ {vs : List V} {ds : List D} {i : Nat}, vs.length = ds.length → (∀ j v d, vs[j]? = some v → ds[j]? = some d → RO K H A o r (p ++ [i + j]) k v d) → ROs K H A o r p i k vs ds
  | [], [], _, _, _ => .nil
  | v :: vs, d :: ds, i, l, h => .cons (h 0 v d rfl rfl) (ROs.of (Nat.succ.inj l) fun j w e h1 h2 => by
    have z := h (j + 1) w e h1 h2
    rw [show i + (j + 1) = i + 1 + j from by omega] at z
    exact z)
theorem ROs.gets {vs : List V} {ds : List D} (h : ROs K H A o r p 0 k vs ds) {j : Nat} (h1 : vs[j]? = some v) (h2 : ds[j]? = some d) : RO K H A o r (p ++ [j]) k v d := by
  obtain ⟨w, e1, e2⟩ := h.get h2
  rw [h1] at e1
  cases e1
  rw [Nat.zero_add] at e2
  exact e2
theorem ROs.put {j : Nat} {n : D} {vs : List V} {ds : List D} (W : Wr K H H' A A' o o' r (p ++ [j] ++ q)) (h : ROs K H A o r p 0 k vs ds) (hv : vs[j]? = some v) (hn : RO K H' A' o' r (p ++ [j]) k v n) : ROs K H' A' o' r p 0 k vs (ds.set j n) := by
  refine .of (by rw [List.length_set]; exact h.length) fun i w e h1 h2 => ?_
  rw [Nat.zero_add]
  rcases set_get h2 with ⟨rfl, rfl, _⟩ | ⟨ne, h2⟩
  · rw [hv] at h1
    cases h1
    exact hn
  · refine W.ro (fun s e' => ?_) (h.gets h1 h2)
    rw [List.append_assoc, List.append_assoc] at e'
    have e' := List.append_cancel_left e'
    injection e' with e' _
    exact ne e'.symm
theorem RO.tupS {ds : List D} (h : RO K H A o r p (k + 1) w (.tup ds)) : ∃ a vs, w = .ref a ∧ H a = some (.tup vs) ∧ ROs K H A o r p 0 (k + 1) vs ds := by
  cases h with
  | tup hh hs => exact ⟨_, _, rfl, hh, hs⟩
  | flat hf h =>
    cases h with
    | tup hh rr =>
      refine ⟨_, _, rfl, hh, .of rr.length fun j v d h1 h2 => ?_⟩
      obtain ⟨v', e1, e2⟩ := rr.get' h2
      rw [h1] at e1
      cases e1
      exact .flat (flats_mem hf (List.mem_of_getElem? h2)) e2
theorem RO.put : ∀ {q : List Nat} {p : List Nat} {k k' : Nat} {w v : V} {d e n : D}, RO K H A o r p k w d → getK k d q = some (k', e) → Wr K H H' A A' o o' r (p ++ q) → PathTo H w q v → RO K H' A' o' r (p ++ q) k' v n → RO K H' A' o' r p k w (putK d q n)
  | [], p, k, k', w, v, d, e, n, h, g, W, hv, hn => by
    have g : some (k, d) = some (k', e) := by cases k <;> exact g
    cases g
    cases hv
    rw [List.append_nil] at hn
    have e : putK d [] n = n := by cases d <;> rfl
    rw [e]
    exact hn
  | j :: q, p, k, k', w, v, d, e, n, h, g, W, hv, hn => by
    have ne : p ≠ p ++ j :: q := fun z => by
      have z' : p ++ [] = p ++ j :: q := by rw [List.append_nil]; exact z
      cases List.append_cancel_left z'
    obtain ⟨a0, u0, e0, c0, h0⟩ := hv
    have apc : p ++ j :: q = p ++ [j] ++ q := List.append_cons ..
    cases k with
    | zero => cases d <;> cases g
    | succ k =>
      cases d with
      | tup ds =>
        obtain ⟨ad, vs, rfl, hh, hs⟩ := h.tupS
        cases e0
        rw [child_tup hh] at c0
        replace g : (match ds[j]? with | some e => getK (k + 1) e q | none => none) = some (k', e) := g
        cases ej : ds[j]? with
        | none => rw [ej] at g; cases g
        | some f =>
          rw [ej] at g
          have sub := RO.put (p := p ++ [j]) (hs.gets c0 ej) g (by rw [← apc]; exact W) h0 (by rw [← apc]; exact hn)
          show RO K H' A' o' r p _ _ (match ds[j]? with | some e => .tup (ds.set j (putK e q n)) | none => .tup ds)
          rw [ej]
          exact .tup (W.ki _ _ hh rfl) (ROs.put (by rw [← apc]; exact W) hs c0 sub)
      | lst ds =>
        cases h with
        | flat hf h => cases hf
        | lst ha hh hs =>
          cases e0
          rw [child_lst hh] at c0
          replace g : (match ds[j]? with | some e => getK k e q | none => none) = some (k', e) := g
          cases ej : ds[j]? with
          | none => rw [ej] at g; cases g
          | some f =>
            rw [ej] at g
            have sub := RO.put (p := p ++ [j]) (hs.gets c0 ej) g (by rw [← apc]; exact W) h0 (by rw [← apc]; exact hn)
            show RO K H' A' o' r p _ _ (match ds[j]? with | some e => .lst (ds.set j (putK e q n)) | none => .lst ds)
            rw [ej]
            obtain ⟨n1, n2⟩ := W.nd _ _ ha ne
            exact .lst n1 (n2 _ hh) (ROs.put (by rw [← apc]; exact W) hs c0 sub)
      | ins C fs =>
        cases h with
        | flat hf h => cases hf
        | ins ha hn' hh hs hk =>
          cases e0
          rw [child_ins hh] at c0
          replace g : (match (fs.map (·.2))[j]? with | some e => getK k e q | none => none) = some (k', e) := g
          cases ej : (fs.map (·.2))[j]? with
          | none => rw [ej] at g; cases g
          | some f =>
            rw [ej] at g
            have sub := RO.put (p := p ++ [j]) (hs.gets c0 ej) g (by rw [← apc]; exact W) h0 (by rw [← apc]; exact hn)
            show RO K H' A' o' r p _ _ (match (fs.map (·.2))[j]? with | some e => .ins C (setV fs j (putK e q n)) | none => .ins C fs)
            rw [ej]
            obtain ⟨n1, n2⟩ := W.nd _ _ ha ne
            exact .ins n1 hn' (n2 _ hh) (by rw [setV_snd]; exact ROs.put (by rw [← apc]; exact W) hs c0 sub) (by rw [setV_fst]; exact hk)
      | dic fs =>
        cases h with
        | flat hf h => cases hf
        | dic ha hh hs hk =>
          cases e0
          rw [child_dic hh] at c0
          replace g : (match (fs.map (·.2))[j]? with | some e => getK k e q | none => none) = some (k', e) := g
          cases ej : (fs.map (·.2))[j]? with
          | none => rw [ej] at g; cases g
          | some f =>
            rw [ej] at g
            have sub := RO.put (p := p ++ [j]) (hs.gets c0 ej) g (by rw [← apc]; exact W) h0 (by rw [← apc]; exact hn)
            show RO K H' A' o' r p _ _ (match (fs.map (·.2))[j]? with | some e => .dic (setV fs j (putK e q n)) | none => .dic fs)
            rw [ej]
            obtain ⟨n1, n2⟩ := W.nd _ _ ha ne
            exact .dic n1 (n2 _ hh) (by rw [setV_snd]; exact ROs.put (by rw [← apc]; exact W) hs c0 sub) (by rw [setV_fst]; exact hk)
      | _ => cases g
/-! ### the write -/
/-- what stands elsewhere, under a write at ad and a renaming g -/
theorem Ok.wrTr (I : Ok K B H0 Hf σ ρ τ H o) {ad : Addr} {r0 : Root} {z : List Nat} (ha : o ad = some (r0, z)) {u : HO} (hu : isMut u = true) {g : Root × List Nat → Option (Root × List Nat)} (hg : g (r0, z) = some (r0, z))
    (hp : ∀ s, (r, p ++ s) ≠ (r0, z)) (hr : ∀ s, g (r, p ++ s) = some (r', p' ++ s)) : Tr K H (upd H ad u) (Av B o) (Av B (ob o g)) o (ob o g) r p r' p' := by
  refine ⟨fun b w hb => ?_, fun b w hb hw => ?_, fun b s hb => ⟨by unfold ob; rw [hb]; exact hr s, fun w e => ?_⟩⟩
  · obtain ⟨n, e⟩ := del_some.mp hb
    have nb : b ≠ ad := by
      rintro rfl
      exact n (.inr ⟨_, ha⟩)
    exact del_some.mpr ⟨fun q => n (av_ob q), by rw [upd_ne nb]; exact e⟩
  · have nb : b ≠ ad := by
      rintro rfl
      obtain ⟨w', e, m⟩ := I.mu (.inr ⟨_, ha⟩)
      rw [hb] at e
      cases e
      rw [hw] at m
      cases m
    rw [upd_ne nb]
    exact hb
  · have nb : b ≠ ad := by
      rintro rfl
      rw [ha] at hb
      exact hp s (Option.some.inj hb).symm
    rw [upd_ne nb]
    exact e
theorem Ok.wrBase (I : Ok K B H0 Hf σ ρ τ H o) {ad : Addr} {y : Root × List Nat} (ha : o ad = some y) {u : HO} (hu : isMut u = true) : Same H0 (upd H ad u) ∧ ∀ g a p, ob o g a = some p → H0 a = none ∧ Mu (upd H ad u) a := by
  refine ⟨fun b w hb => ?_, fun g a p h => ?_⟩
  · rw [upd_ne (ne_of_none hb (I.ow ad y ha).1)]
    exact I.sm b w hb
  · obtain ⟨y', e, _⟩ := ob_some h
    obtain ⟨h1, w, h2, h3⟩ := I.ow a y' e
    refine ⟨h1, ?_⟩
    by_cases hb : a = ad
    · subst hb; exact ⟨u, upd_same, hu⟩
    · exact ⟨w, by rw [upd_ne hb]; exact h2, h3⟩
theorem TOk.wr (I : Ok K B H0 Hf σ ρ τ' H o) {ad : Addr} {r0 : Root} {z : List Nat} (ha : o ad = some (r0, z)) {u : HO} (hu : isMut u = true) {g : Root × List Nat → Option (Root × List Nat)} (hg : g (r0, z) = some (r0, z)) : ∀ {τ : List T}, noBw τ → (∀ j, j < τ.length → r0 ≠ .tm j ∧ ∀ s, g (.tm j, s) = some (.tm j, s)) → TOk K H B o τ → TOk K (upd H ad u) B (ob o g) τ
  | [], _, _, _ => trivial
  | t :: τ, nb, hr, h => by
    refine ⟨?_, TOk.wr I ha hu hg (fun t ht => nb t (List.mem_cons_of_mem _ ht)) (fun j hj => hr j (Nat.lt_succ_of_lt hj)) h.2⟩
    obtain ⟨k, ek⟩ := nb t (List.mem_cons_self ..)
    obtain ⟨v, kd, d⟩ := t
    cases ek
    have t := h.1
    have T := I.wrTr (r := .tm τ.length) (p := []) (r' := .tm τ.length) (p' := []) ha hu hg (fun s e => (hr τ.length (Nat.lt_succ_self _)).1 (by cases e; rfl)) (fun s => (hr τ.length (Nat.lt_succ_self _)).2 s)
    have z : RO K (upd H ad u) (Av B (ob o g)) (ob o g) (.tm τ.length) [] k v d := by
      have z := RO.tr (q := []) T (by simp) (show RO K H (Av B o) o (.tm τ.length) [] k v d from t)
      simpa using z
    exact z
theorem app_ne {r0 : Root} {q s : List Nat} {j : Nat} (e : ((r0, (q ++ [j]) ++ s) : Root × List Nat) = (r0, q)) : False := by
  injection e with _ e
  have e' : q ++ ([j] ++ s) = q ++ [] := by rw [List.append_nil, ← List.append_assoc]; exact e
  cases List.append_cancel_left e'
/-- a write into what a slot holds: its new content c -/
theorem Ok.wrSlot (I : Ok K B H0 Hf σ ρ τ H o) (hf : Hf.hp = H0) (nb : noBw τ) {i : Nat} {k k' : Nat} {d e : D} {q : List Nat} (hi : ρ[i]? = some (.ow k d)) (hk : getK k d q = some (k', e)) {w : V} (hw : σ[i]? = some (some w)) {ad : Addr} (hp : PathTo H w q (.ref ad)) (ha : o ad = some (.sl i, q))
    {u : HO} (hu : isMut u = true) {g : Root × List Nat → Option (Root × List Nat)} (hg : ∀ r s, (∀ n, τ.length ≤ n → r ≠ .tm n) → g (r, s) = some (r, s)) {n : D} (hn : RO K (upd H ad u) (Av B (ob o g)) (ob o g) (.sl i) q k' (.ref ad) n) :
    Ok K B H0 Hf σ (ρ.set i (.ow k (putK d q n))) τ (upd H ad u) (ob o g) := by
  have hg0 : g (.sl i, q) = some (.sl i, q) := hg _ _ fun n _ z => nomatch z
  obtain ⟨b1, b2⟩ := I.wrBase ha hu
  refine ⟨by rw [List.length_set, I.len], I.bs, b1, I.fl.tr (hf ▸ b1) (I.wrTr (r := .sl i) (p := q ++ [0]) (r' := .sl i) (p' := q ++ [0]) ha hu hg0 (fun s e => app_ne e) (fun s => hg _ _ fun n _ z => nomatch z)).ki (I.wrTr (r := .sl i) (p := q ++ [0]) (r' := .sl i) (p' := q ++ [0]) ha hu hg0 (fun s e => app_ne e) (fun s => hg _ _ fun n _ z => nomatch z)).st, b2 g, fun j kj dj h => ?_, ?_⟩
  case refine_2 => exact TOk.wr I ha hu hg0 nb (fun j hj => ⟨(fun z => nomatch z), fun s => hg (.tm j) s fun n hn z => by injection z with z; omega⟩) I.tp
  rcases set_get h with ⟨rfl, z, hlt⟩ | ⟨ne, h⟩
  · cases z
    obtain ⟨w', e1, e2⟩ := I.sl i k d hi
    rw [hw] at e1
    cases e1
    have ki : KeepI H (upd H ad u) := fun b v hb hv => by
      rw [upd_ne]
      · exact hb
      · rintro rfl
        obtain ⟨w', e, m⟩ := I.mu (.inr ⟨_, ha⟩)
        rw [hb] at e
        cases e
        rw [hv] at m
        cases m
    have nd : ∀ a s, o a = some (.sl i, s) → s ≠ q → ob o g a = some (.sl i, s) ∧ ∀ v, H a = some v → upd H ad u a = some v := fun a s h hs => by
      refine ⟨?_, fun v e => ?_⟩
      · unfold ob
        rw [h]
        exact hg _ _ fun n _ z => nomatch z
      · rw [upd_ne]
        · exact e
        · rintro rfl
          rw [ha] at h
          cases h
          exact hs rfl
    have W : Wr K H (upd H ad u) (Av B o) (Av B (ob o g)) o (ob o g) (.sl i) q := ⟨fun p hp => I.wrTr ha hu hg0 (fun s e => hp s (by injection e)) (fun s => hg _ _ fun n _ z => nomatch z), nd, ki⟩
    exact ⟨w, hw, RO.put (p := []) e2 hk (by rw [List.nil_append]; exact W) hp (by rw [List.nil_append]; exact hn)⟩
  · obtain ⟨w', e1, e2⟩ := I.sl j kj dj h
    refine ⟨w', e1, ?_⟩
    have T := I.wrTr (r := .sl j) (p := []) (r' := .sl j) (p' := []) ha hu hg0 (fun s e => by cases e; exact ne rfl) (fun s => hg _ _ fun n _ z => nomatch z)
    have z := RO.tr (q := []) T (by simp) e2
    simpa using z
end
end P

namespace P
open PySem L2
/-- a thing that may go where k levels are held -/
def okItem : Nat → Kx → Bool
  | 0, a => stb' a
  | k + 1, a => hasK k a
abbrev FP := Env → R (Nat × List Nat)
section
variable {X : Fx} {K : PySem.W.Frag} {A A' B B' : Addr → Prop} {H0 H H' : Hp} {Hf : Bg} {σ σ' : St} {ρ ρ' : Env} {τ τ' : List T} {o o' : Own} {v w : V} {d e : D} {ta tb tc te to : TE} {fa fb fc fe : FE} {tt tu : TT} {ft fu : FT} {ts : TA} {fs : FA} {a b : Kx} {k : Nat} {t u : TS} {f g : FS} {r r' : Root} {p p' q : List Nat} {fp : FP}
def SP (X : Fx) (te : TE) (fp : FP) : Prop := ∀ ρ r, fp ρ = some r → ∀ σ τ H o, OkX X σ ρ τ H o → ∀ Q : VK,
  (match r with
  | .val z ρ' => ∀ v w H' o', OkX X σ ρ' τ H' o' → σ[z.1]? = some (some w) → PathTo H' w z.2 v → Q v H'
  | .exc x w => XW X x w) → te σ H Q
def pVar (i : Nat) : FP := fun ρ => match look ρ i with
  | some _ => some (.val (i, []) ρ) | none => none
def nodeL (ρ : Env) (i : Nat) (q : List Nat) : Option (Nat × D) := match look ρ i with
  | some (k, d) => getK k d q | none => none
def seqD : D → Option (List D)
  | .lst ds => some ds | .tup ds => some ds | _ => none
def pIx (fp : FP) (fe : FE) : FP := fun ρ => (fp ρ).bind fun z ρ1 => (fe ρ1).bind fun a ρ2 => match a.2, nodeL ρ2 z.1 z.2 with
  | .int n, some (_ + 1, e) => match seqD e with
    | some ds => (ixN ds.length n).map fun j => .val (z.1, z.2 ++ [j]) ρ2
    | none => none
  | _, _ => none
theorem sp_var {i : Nat} : SP X (tVar i) (pVar i) := fun ρ r h σ τ H o I Q q => by
  unfold pVar at h
  split at h
  · rename_i kd e
    cases h
    obtain ⟨k, d⟩ := kd
    obtain ⟨w, e1, e2⟩ := I.sl i k d (look_some e)
    exact ⟨w, e1, q w w H o I e1 rfl⟩
  · cases h
theorem SP.bindG {β : Type} (h : SP X te fp) {g : Nat × List Nat → Env → R β} {z : Rs β} (e : (fp ρ).bind g = some z) (I : OkX X σ ρ τ H o) {P : VK} (hx : ∀ x w, z = .exc x w → XW X x w)
    (q : ∀ a ρ' v w H' o', g a ρ' = some z → OkX X σ ρ' τ H' o' → σ[a.1]? = some (some w) → PathTo H' w a.2 v → P v H') : te σ H P := by
  rcases R.bind_some e with ⟨x, w, e1, rfl⟩ | ⟨a, ρ', e1, e2⟩
  · exact h ρ _ e1 σ τ H o I P (hx x w rfl)
  · exact h ρ _ e1 σ τ H o I P fun v w H' o' J h1 h2 => q a ρ' v w H' o' e2 J h1 h2
theorem nodeL_some {i : Nat} {q : List Nat} {k : Nat} {e : D} (h : nodeL ρ i q = some (k, e)) : ∃ k0 d0, ρ[i]? = some (.ow k0 d0) ∧ getK k0 d0 q = some (k, e) := by
  unfold nodeL at h
  split at h
  · rename_i k0 d0 e; exact ⟨k0, d0, look_some e, h⟩
  · cases h
/-- the node at a place -/
theorem Ok.node (I : Ok K B H0 Hf σ ρ τ H o) {i : Nat} {q : List Nat} {k : Nat} {e : D} (h : nodeL ρ i q = some (k, e)) (hw : σ[i]? = some (some w)) (hp : PathTo H w q v) : RO K H (Av B o) o (.sl i) q k v e := by
  obtain ⟨k0, d0, h1, h2⟩ := nodeL_some h
  obtain ⟨w', e1, e2⟩ := I.sl i k0 d0 h1
  rw [hw] at e1
  cases e1
  obtain ⟨v', r, p'⟩ := e2.get h2
  rw [hp.det p']
  exact r
theorem seq_get {r : Root} {q : List Nat} {ds : List D} (h : RO K H A o r q (k + 1) v e) (hs : seqD e = some ds) : ∃ a vs, v = .ref a ∧ (H a = some (.lst vs) ∨ H a = some (.tup vs)) ∧ vs.length = ds.length := by
  cases e with
  | lst es =>
    cases hs
    cases h with
    | flat hf _ => cases hf
    | lst ha hh hs => exact ⟨_, _, rfl, .inl hh, hs.length⟩
  | tup es =>
    cases hs
    obtain ⟨a, vs, rfl, hh, hs⟩ := h.tupS
    exact ⟨a, vs, rfl, .inr hh, hs.length⟩
  | _ => cases hs
theorem ixN_lt {n : Nat} {i : Int} {j : Nat} (h : ixN n i = some j) : j < n := by
  unfold ixN at h
  split at h
  · split at h
    · cases h; omega
    · cases h
  · split at h
    · cases h; omega
    · cases h
theorem sp_ix (hp : SP X to fp) (he : SE X te fe) : SP X (tOp (rIx X.K) to te) (pIx fp fe) := fun ρ z h σ τ H o I Q q => by
  have hx : ∀ x w, z = .exc x w → XW X x w := fun x w e => by subst e; exact q
  refine hp.bindG h I hx fun a ρ1 v w H1 o1 h1 I1 hw hpt => ?_
  refine he.bindG h1 (I1.push (t := ⟨v, .pl w a.2, .non⟩) hpt) hx fun b ρ2 y H2 o2 h2 I2 => ?_
  have hpt2 : PathTo H2 w a.2 v := I2.pop.top
  have ry := tmp_rep I2.top
  split at h2
  · rename_i n k e en hn
    rw [en] at ry
    cases ry
    have nd := I2.pop.pop.node hn hw hpt2
    cases hs : seqD e with
    | none => rw [hs] at h2; cases h2
    | some ds =>
      rw [hs] at h2
      obtain ⟨ad, vs, rfl, hh, hl⟩ := seq_get nd hs
      dsimp only at h2
      cases ej : ixN ds.length n with
      | none => rw [ej] at h2; cases h2
      | some j =>
        rw [ej] at h2
        cases h2
        have hj : j < vs.length := by rw [hl]; exact ixN_lt ej
        have ev : vs[j]? = some vs[j] := List.getElem?_eq_getElem hj
        have at1 : atI vs n = some vs[j] := by unfold atI; rw [hl, ej]; exact ev
        rcases hh with hh | hh
        · exact .inl ⟨ad, vs, n, _, rfl, rfl, SqL.of hh, at1, q _ w H2 o2 I2.pop.pop hw (hpt2.snoc (by rw [child_lst hh]; exact ev))⟩
        · exact .inr (.inl ⟨ad, vs, n, _, rfl, rfl, SqT.of hh, at1, q _ w H2 o2 I2.pop.pop hw (hpt2.snoc (by rw [child_tup hh]; exact ev))⟩)
  · cases h2
/-! ### append -/
def gGraft (n i : Nat) (q : List Nat) : Root × List Nat → Option (Root × List Nat) := fun z => match z.1 with
  | .tm j => if j = n then some (.sl i, q ++ z.2) else if n < j then none else some z
  | _ => some z
/-- the rest of the list under a write -/
theorem ROs.wr (I : Ok K B H0 Hf σ ρ τ H o) {ad : Addr} {r0 : Root} {z : List Nat} (ha : o ad = some (r0, z)) {u : HO} (hu : isMut u = true) {g : Root × List Nat → Option (Root × List Nat)} (hg : ∀ s, g (r0, s) = some (r0, s)) {vs : List V} {ds : List D} {i : Nat} (h : ROs K H (Av B o) o r0 z i k vs ds) : ROs K (upd H ad u) (Av B (ob o g)) (ob o g) r0 z i k vs ds := by
  refine .of h.length fun j v d h1 h2 => ?_
  obtain ⟨w, e1, e2⟩ := h.get h2
  rw [h1] at e1
  cases e1
  have T := I.wrTr (r := r0) (p := z ++ [i + j]) (r' := r0) (p' := z ++ [i + j]) ha hu (hg z) (fun s e => by
    injection e with _ e
    have e' : z ++ ([i + j] ++ s) = z ++ [] := by rw [List.append_nil, ← List.append_assoc]; exact e
    cases List.append_cancel_left e') (fun s => hg _)
  have y := RO.tr (q := []) T (by simp) e2
  simpa using y
/-- the item, behind the write -/
theorem item_wr (I : Ok K B H0 Hf σ ρ τ' H o) {ad : Addr} {r0 : Root} {z : List Nat} (ha : o ad = some (r0, z)) {u : HO} (hu : isMut u = true) {g : Root × List Nat → Option (Root × List Nat)} (hg : ∀ s, g (r0, s) = some (r0, s)) {n : Nat} {q' : List Nat} (hn : r0 ≠ .tm n)
    (h0 : k = 0 → ∀ s, g (.tm n, s) = none) (h1 : k ≠ 0 → ∀ s, g (.tm n, s) = some (r0, q' ++ s)) (h : TmOk K H B o n (tmp v a)) (ok : okItem k a = true) : RO K (upd H ad u) (Av B (ob o g)) (ob o g) r0 q' k v a.2 := by
  have hav : Av B (ob o g) ad := .inr ⟨(r0, z), by unfold ob; rw [ha]; exact hg z⟩
  have T0 := I.wrTr (r := r0) (p := z ++ [0]) (r' := r0) (p' := z ++ [0]) ha hu (hg z) (fun s e => by
    injection e with _ e
    have e' : z ++ ([0] ++ s) = z ++ [] := by rw [List.append_nil, ← List.append_assoc]; exact e
    cases List.append_cancel_left e') (fun s => hg _)
  obtain ⟨ka, da⟩ := a
  cases k with
  | zero =>
    refine .st ?_
    rw [del_upd hav]
    cases ka with
    | ow j => exact RO.fz (p := []) I (h0 rfl) h
    | bw => exact (Rep.flat (keep_av I) h ok).mono (del_sub fun a => av_ob)
  | succ k =>
    have ok : hasK k (ka, da) = true := ok
    unfold hasK at ok
    rw [Bool.or_eq_true] at ok
    rcases ok with ok | ok
    · exact .flat ok (Rep.flat T0.ki (tmp_rep h) ok)
    · cases ka with
      | bw => cases ok
      | ow j =>
        have e : j = k + 1 := eq_of_beq ok
        subst e
        have T := I.wrTr (r := .tm n) (p := []) (r' := r0) (p' := q') ha hu (hg z) (fun s e => by injection e with e _; exact hn e.symm) (fun s => h1 (Nat.succ_ne_zero k) _)
        have y := RO.tr (q := []) T (by simp) (show RO K H (Av B o) o (.tm n) [] (k + 1) v da from h)
        simpa using y
def isLst : Option (Nat × D) → Bool
  | some (_ + 1, .lst _) => true | _ => false
theorem isLst_some {z : Option (Nat × D)} (h : isLst z = true) : ∃ k ds, z = some (k + 1, .lst ds) := by
  unfold isLst at h
  split at h
  · exact ⟨_, _, rfl⟩
  · cases h
noncomputable def sApp (fp : FP) (fe : FE) : FS := fun ρ => match fp ρ with
  | none => none
  | some (.exc x w) => some (.exc x w)
  | some (.val z ρ1) => if isLst (nodeL ρ1 z.1 z.2) = true then (fe ρ1).toF fun a ρ2 => match look ρ2 z.1 with
    | none => none
    | some (k0, d0) => match getK k0 d0 z.2 with
      | some (k + 1, .lst ds) => if okItem k a = true then chk (ds.length < sizeLine) (some (.nxt (ρ2.set z.1 (.ow k0 (putK d0 z.2 (.lst (ds ++ [a.2]))))))) else none
      | _ => none else none
theorem own_lst {r : Root} {q : List Nat} {ds : List D} (h : RO K H A o r q (k + 1) v (.lst ds)) : ∃ a vs, v = .ref a ∧ o a = some (r, q) ∧ H a = some (.lst vs) ∧ ROs K H A o r q 0 k vs ds := by
  cases h with
  | flat hf _ => cases hf
  | lst ha hh hs => exact ⟨_, _, rfl, ha, hh, hs⟩
theorem gGraft_sl {n i j : Nat} {q s : List Nat} : gGraft n i q (.sl j, s) = some (.sl j, s) := rfl
theorem gTop_sl {n j : Nat} {s : List Nat} : gTop n (.sl j, s) = some (.sl j, s) := rfl
/-- a list's content is written anew, in a slot: with one more thing or not -/
theorem Ok.app {ad : Addr} {k0 : Nat} {d0 : D} {z : Nat × List Nat} {ds : List D} {τ1 : List T} (I : Ok K B H0 Hf σ ρ (tmp w a :: τ1 ++ τ) H o) (hf : Hf.hp = H0) (nb : noBw τ) (hi : ρ[z.1]? = some (.ow k0 d0)) (hk : getK k0 d0 z.2 = some (k + 1, .lst ds)) {vs : List V} {x : V} (hw : σ[z.1]? = some (some x)) (hp : PathTo H x z.2 (.ref ad))
    (ha : o ad = some (.sl z.1, z.2)) (hh : H ad = some (.lst vs)) (hs : ROs K H (Av B o) o (.sl z.1) z.2 0 k vs ds) (ok : okItem k a = true) : ∃ o', Ok K B H0 Hf σ (ρ.set z.1 (.ow k0 (putK d0 z.2 (.lst (ds ++ [a.2]))))) τ (upd H ad (.lst (vs ++ [w]))) o' := by
  obtain ⟨m, hm⟩ : ∃ m, m = (τ1 ++ τ).length := ⟨_, rfl⟩
  have hmt : τ.length ≤ m := by rw [hm, List.length_append]; omega
  have top : TmOk K H B o m (tmp w a) := by rw [hm]; exact I.tp.1
  have J : Ok K B H0 Hf σ ρ τ H o := Ok.pops (τ' := tmp w a :: τ1) I
  have fin : ∀ g : Root × List Nat → Option (Root × List Nat), (∀ r s, (∀ n, τ.length ≤ n → r ≠ .tm n) → g (r, s) = some (r, s)) → (k = 0 → ∀ s, g (.tm m, s) = none) → (k ≠ 0 → ∀ s, g (.tm m, s) = some (.sl z.1, (z.2 ++ [ds.length]) ++ s)) →
      Ok K B H0 Hf σ (ρ.set z.1 (.ow k0 (putK d0 z.2 (.lst (ds ++ [a.2]))))) τ (upd H ad (.lst (vs ++ [w]))) (ob o g) := fun g hg h0 h1 => by
    have hgs : ∀ s, g (.sl z.1, s) = some (.sl z.1, s) := fun s => hg _ _ fun n _ y => nomatch y
    refine J.wrSlot hf nb hi hk hw hp ha rfl hg (.lst (by unfold ob; rw [ha]; exact hgs _) upd_same (ROs.append (ROs.wr J ha rfl hgs hs) (.cons ?_ .nil)))
    rw [Nat.zero_add]
    exact item_wr I ha rfl hgs (fun y => nomatch y) h0 h1 top ok
  cases k with
  | zero =>
    exact ⟨_, fin (gTop τ.length) (fun r s hr => by
      cases r with
      | sl i => rfl
      | tm n =>
        show (if τ.length ≤ n then none else some (Root.tm n, s)) = _
        rw [if_neg (fun z => hr n z rfl)]) (fun _ s => by
        show (if τ.length ≤ m then none else some (Root.tm m, s)) = _
        rw [if_pos hmt]) (fun h => absurd rfl h)⟩
  | succ k =>
    let g : Root × List Nat → Option (Root × List Nat) := fun y => match y.1 with
      | .tm j => if j = m then some (.sl z.1, (z.2 ++ [ds.length]) ++ y.2) else if τ.length ≤ j then none else some y
      | _ => some y
    exact ⟨_, fin g (fun r s hr => by
      cases r with
      | sl i => rfl
      | tm n =>
        show (if n = m then _ else if τ.length ≤ n then none else some (Root.tm n, s)) = _
        rw [if_neg (fun y => hr n (by omega) rfl), if_neg (fun z => hr n z rfl)]) (fun h => absurd h (Nat.succ_ne_zero k)) (fun _ s => if_pos rfl)⟩
theorem ss_app (hp : SP X to fp) (he : SE X te fe) : SS X (tDrop (tBM X.K "list" rAppend to (tCons te tNil))) (sApp fp fe) := fun ρ fl h σ τ H o h0f nb I D q => by
  unfold sApp at h
  split at h
  · cases h
  · rename_i x w e
    cases h
    exact hp ρ _ e σ τ H o I _ q
  · rename_i z ρ1 ez
    refine hp ρ _ ez σ τ H o I _ fun v w H1 o1 I1 hw hpt => ?_
    split at h
    · rename_i hl
      obtain ⟨k1, ds1, e1⟩ := isLst_some hl
      obtain ⟨ad1, vs1, rfl, _, hh1, _⟩ := own_lst (I1.node e1 hw hpt)
      refine ⟨.inl ⟨rfl, vs1, SqL.of hh1⟩, ?_⟩
      refine he.toF h (I1.push (t := ⟨.ref ad1, .pl w z.2, .non⟩) hpt) q fun a ρ2 y H2 o2 h2 I2 => ?_
      have hpt2 : PathTo H2 w z.2 (.ref ad1) := I2.pop.top
      cases e2 : look ρ2 z.1 with
      | none => rw [e2] at h2; cases h2
      | some kd =>
        obtain ⟨k0, d0⟩ := kd
        rw [e2] at h2
        dsimp only at h2
        split at h2
        · rename_i k ds e3
          split at h2
          · rename_i ok
            obtain ⟨hz, h2⟩ := chk_some h2
            cases h2
            have nd := I2.pop.pop.node (by unfold nodeL; rw [e2]; exact e3) hw hpt2
            obtain ⟨ad, vs, e4, ha, hh, hs⟩ := own_lst nd
            cases e4
            obtain ⟨o', J⟩ := Ok.app (τ1 := [⟨.ref ad1, .pl w z.2, .non⟩]) (τ := τ) I2 h0f nb (look_some e2) e3 hw hpt2 ha hh hs ok
            exact ⟨ad1, vs, y, rfl, rfl, hh, by rw [hs.length]; exact hz, q _ _ o' J⟩
          · cases h2
        · cases h2
    · cases h
/-! ### x[i] = e -/
noncomputable def sSet (fp : FP) (fi fe : FE) : FS := fun ρ => (fe ρ).toF fun a ρ1 => match fp ρ1 with
  | none => none
  | some (.exc x w) => some (.exc x w)
  | some (.val z ρ2) => (fi ρ2).toF fun b ρ3 => match b.2 with
    | .int n => match look ρ3 z.1 with
      | none => none
      | some (k0, d0) => match getK k0 d0 z.2 with
        | some (k + 1, .lst ds) => match ixN ds.length n with
          | some j => if okItem k a = true then some (.nxt (ρ3.set z.1 (.ow k0 (putK d0 z.2 (.lst (ds.set j a.2)))))) else none
          | none => none
        | _ => none
    | _ => none
theorem ROs.setAt {r : Root} {z : List Nat} {vs : List V} {ds : List D} {j : Nat} (h : ROs K H A o r z 0 k vs ds) (hn : RO K H A o r (z ++ [j]) k v d) : ROs K H A o r z 0 k (vs.set j v) (ds.set j d) := by
  refine .of (by rw [List.length_set, List.length_set]; exact h.length) fun i w e h1 h2 => ?_
  rw [Nat.zero_add]
  rcases set_get h1 with ⟨rfl, rfl, hl⟩ | ⟨ne, h1⟩
  · rcases set_get h2 with ⟨_, rfl, _⟩ | ⟨ne, _⟩
    · exact hn
    · exact absurd rfl ne
  · rcases set_get h2 with ⟨e, _, _⟩ | ⟨_, h2⟩
    · exact absurd e ne
    · exact h.gets h1 h2
theorem ss_set (hp : SP X to fp) (hi : SE X tb fb) (he : SE X te fe) : SS X (tAsg te (gSub to tb rSetL)) (sSet fp fb fe) := fun ρ fl h σ τ H o h0f nb I D q => by
  refine he.toF h I q fun a ρ1 y H1 o1 h1 I1 => ?_
  split at h1
  · cases h1
  · rename_i x w e
    cases h1
    exact hp ρ1 _ e σ _ H1 o1 I1 _ q
  · rename_i z ρ2 ez
    refine hp ρ1 _ ez σ _ H1 o1 I1 _ fun v w H2 o2 I2 hw hpt => ?_
    refine hi.toF h1 (I2.push (t := ⟨v, .pl w z.2, .non⟩) hpt) q fun b ρ3 yb H3 o3 h3 I3 => ?_
    have hpt3 : PathTo H3 w z.2 v := I3.pop.top
    have rb := tmp_rep I3.top
    split at h3
    · rename_i n en
      rw [en] at rb
      cases rb
      cases e2 : look ρ3 z.1 with
      | none => rw [e2] at h3; cases h3
      | some kd =>
        obtain ⟨k0, d0⟩ := kd
        rw [e2] at h3
        dsimp only at h3
        split at h3
        · rename_i k ds e3
          cases ej : ixN ds.length n with
          | none => rw [ej] at h3; cases h3
          | some j =>
            rw [ej] at h3
            dsimp only at h3
            split at h3
            · rename_i ok
              cases h3
              have J := I3.pop.pop
              have nd := J.node (by unfold nodeL; rw [e2]; exact e3) hw hpt3
              obtain ⟨ad, vs, rfl, ha, hh, hs⟩ := own_lst nd
              have fin : ∀ g : Root × List Nat → Option (Root × List Nat), (∀ r s, (∀ n, τ.length ≤ n → r ≠ .tm n) → g (r, s) = some (r, s)) → (k = 0 → ∀ s, g (.tm τ.length, s) = none) → (k ≠ 0 → ∀ s, g (.tm τ.length, s) = some (.sl z.1, (z.2 ++ [j]) ++ s)) →
                  OkX X σ (ρ3.set z.1 (.ow k0 (putK d0 z.2 (.lst (ds.set j a.2))))) τ (upd H3 ad (.lst (vs.set j y))) (ob o3 g) := fun g hg h0 h1 => by
                have hgs : ∀ s, g (.sl z.1, s) = some (.sl z.1, s) := fun s => hg _ _ fun n _ y => nomatch y
                refine J.pop.wrSlot h0f nb (look_some e2) e3 hw hpt3 ha rfl hg (.lst (by unfold ob; rw [ha]; exact hgs _) upd_same (ROs.setAt (ROs.wr J ha rfl hgs hs) ?_))
                exact item_wr J ha rfl hgs (fun y => nomatch y) h0 h1 J.tp.1 ok
              have fin2 : ∃ o', OkX X σ (ρ3.set z.1 (.ow k0 (putK d0 z.2 (.lst (ds.set j a.2))))) τ (upd H3 ad (.lst (vs.set j y))) o' := by
                cases k with
                | zero =>
                  exact ⟨_, fin (gTop τ.length) (fun r s hr => by
                    cases r with
                    | sl i => rfl
                    | tm n =>
                      show (if τ.length ≤ n then none else some (Root.tm n, s)) = _
                      rw [if_neg (fun z => hr n z rfl)]) (fun _ s => by
                      show (if τ.length ≤ τ.length then none else some (Root.tm τ.length, s)) = _
                      rw [if_pos (Nat.le_refl _)]) (fun h => absurd rfl h)⟩
                | succ k =>
                  let g : Root × List Nat → Option (Root × List Nat) := fun y => match y.1 with
                    | .tm i => if i = τ.length then some (.sl z.1, (z.2 ++ [j]) ++ y.2) else if τ.length ≤ i then none else some y
                    | _ => some y
                  exact ⟨_, fin g (fun r s hr => by
                    cases r with
                    | sl i => rfl
                    | tm n =>
                      show (if n = τ.length then _ else if τ.length ≤ n then none else some (Root.tm n, s)) = _
                      rw [if_neg (fun y => hr n (by omega) rfl), if_neg (fun z => hr n z rfl)]) (fun h => absurd h (Nat.succ_ne_zero k)) (fun _ s => if_pos rfl)⟩
              obtain ⟨o', J'⟩ := fin2
              exact ⟨ad, vs, n, j, rfl, rfl, hh, by rw [hs.length]; exact ej, q _ _ o' J'⟩
            · cases h3
        · cases h3
    · cases h3
/-! ### clear, reverse -/
def sClr (fp : FP) : FS := fun ρ => match fp ρ with
  | none => none
  | some (.exc x w) => some (.exc x w)
  | some (.val z ρ2) => match look ρ2 z.1 with
      | none => none
      | some (k0, d0) => match getK k0 d0 z.2 with
        | some (_ + 1, .lst _) => some (.nxt (ρ2.set z.1 (.ow k0 (putK d0 z.2 (.lst [])))))
        | _ => none
def sRev (fp : FP) : FS := fun ρ => match fp ρ with
  | none => none
  | some (.exc x w) => some (.exc x w)
  | some (.val z ρ2) => match look ρ2 z.1 with
      | none => none
      | some (k0, d0) => match getK k0 d0 z.2 with
        | some (1, .lst ds) => some (.nxt (ρ2.set z.1 (.ow k0 (putK d0 z.2 (.lst ds.reverse)))))
        | _ => none
theorem ob_id (o : Own) : ob o some = o := by
  funext a
  show (o a).bind some = o a
  cases o a <;> rfl
theorem Ok.wrSame (J : Ok K B H0 Hf σ ρ τ H o) (hf : Hf.hp = H0) (nb : noBw τ) {z : Nat × List Nat} {ad : Addr} {k0 : Nat} {d0 : D} {ds es : List D} (e2 : look ρ z.1 = some (k0, d0)) (e3 : getK k0 d0 z.2 = some (k + 1, .lst ds)) {vs ws : List V} {x : V} (hw : σ[z.1]? = some (some x)) (hp : PathTo H x z.2 (.ref ad))
    (ha : o ad = some (.sl z.1, z.2)) (hn : ROs K (upd H ad (.lst ws)) (Av B o) o (.sl z.1) z.2 0 k ws es) : Ok K B H0 Hf σ (ρ.set z.1 (.ow k0 (putK d0 z.2 (.lst es)))) τ (upd H ad (.lst ws)) o := by
  have y := J.wrSlot (g := some) hf nb (look_some e2) e3 hw hp ha (u := .lst ws) rfl (fun r s _ => rfl) (n := .lst es) (by rw [ob_id]; exact .lst ha upd_same hn)
  rw [ob_id] at y
  exact y
theorem ss_clr (hp : SP X to fp) : SS X (tDrop (tBM0 X.K "list" rClear to)) (sClr fp) := fun ρ fl h σ τ H o h0f nb I D q => by
  unfold sClr at h
  split at h
  · cases h
  · rename_i x w e
    cases h
    exact hp ρ _ e σ _ H o I _ q
  · rename_i z ρ2 ez
    refine hp ρ _ ez σ _ H o I _ fun v w H2 o2 I2 hw hpt => ?_
    split at h
    · cases h
    · rename_i k0 d0 e2
      split at h
      · rename_i k ds e3
        cases h
        obtain ⟨ad, vs, rfl, ha, hh, hs⟩ := own_lst (I2.node (by unfold nodeL; rw [e2]; exact e3) hw hpt)
        exact ⟨.inl ⟨rfl, vs, SqL.of hh⟩, ad, vs, rfl, rfl, hh, q _ _ o2 (I2.wrSame h0f nb e2 e3 (vs := vs) hw hpt ha .nil)⟩
      · cases h
theorem ss_rev (hp : SP X to fp) : SS X (tDrop (tBM0 X.K "list" rReverse to)) (sRev fp) := fun ρ fl h σ τ H o h0f nb I D q => by
  unfold sRev at h
  split at h
  · cases h
  · rename_i x w e
    cases h
    exact hp ρ _ e σ _ H o I _ q
  · rename_i z ρ2 ez
    refine hp ρ _ ez σ _ H o I _ fun v w H2 o2 I2 hw hpt => ?_
    split at h
    · cases h
    · rename_i k0 d0 e2
      split at h
      · rename_i ds e3
        cases h
        obtain ⟨ad, vs, rfl, ha, hh, hs⟩ := own_lst (I2.node (by unfold nodeL; rw [e2]; exact e3) hw hpt)
        have hs' : ROs X.K (upd H2 ad (.lst vs.reverse)) (Av X.B o2) o2 (.sl z.1) z.2 0 0 vs ds := by
          have y := ROs.wr I2 ha (u := .lst vs.reverse) rfl (g := some) (fun s => rfl) hs
          rw [ob_id] at y
          exact y
        refine ⟨.inl ⟨rfl, vs, SqL.of hh⟩, ad, vs, rfl, rfl, hh, q _ _ o2 (I2.wrSame h0f nb e2 e3 (vs := vs) hw hpt ha (.of (by rw [List.length_reverse, List.length_reverse, hs.length]) fun j x y h1 h2 => ?_))⟩
        have hj : j < vs.length := by
          have := (List.getElem?_eq_some_iff.mp h1).1
          rwa [List.length_reverse] at this
        have hl := hs.length
        rw [List.getElem?_reverse hj] at h1
        rw [List.getElem?_reverse (by omega), ← hl] at h2
        have z := hs'.gets h1 h2
        cases z with
        | st z => exact .st z
      · cases h
end
end P

namespace P
open PySem L2
def wipeE (ρ : Env) : List Nat → Env
  | [] => ρ
  | v :: vs => (wipeE ρ vs).set v .no
theorem wipeE_get (ρ : Env) : ∀ (vs : List Nat) (j : Nat), j ∉ vs → (wipeE ρ vs)[j]? = ρ[j]?
  | [], _, _ => rfl
  | v :: vs, j, h => by
    show ((wipeE ρ vs).set v .no)[j]? = _
    rw [List.getElem?_set_ne (fun e => h (by rw [e]; exact List.mem_cons_self ..)), wipeE_get ρ vs j fun z => h (List.mem_cons_of_mem _ z)]
theorem wipeE_no (ρ : Env) : ∀ (vs : List Nat) (j : Nat), j ∈ vs → ∀ k d, (wipeE ρ vs)[j]? ≠ some (.ow k d)
  | v :: vs, j, h, k, d => by
    show ((wipeE ρ vs).set v .no)[j]? ≠ _
    intro e
    rcases set_get e with ⟨_, z, _⟩ | ⟨ne, e⟩
    · cases z
    · rcases List.mem_cons.mp h with rfl | h
      · exact ne rfl
      · exact wipeE_no ρ vs j h k d e
theorem wipeE_len (ρ : Env) : ∀ vs : List Nat, (wipeE ρ vs).length = ρ.length
  | [] => rfl
  | v :: vs => by
    show ((wipeE ρ vs).set v .no).length = _
    rw [List.length_set, wipeE_len ρ vs]
theorem wipe_out (σ : St) : ∀ (vs : List Nat) (j : Nat), j ∉ vs → (L2.wipe σ vs)[j]? = σ[j]?
  | [], _, _ => rfl
  | v :: vs, j, h => by
    show ((L2.wipe σ vs).set v none)[j]? = _
    rw [List.getElem?_set_ne (fun e => h (by rw [e]; exact List.mem_cons_self ..)), wipe_out σ vs j fun z => h (List.mem_cons_of_mem _ z)]
theorem wipe_inn (σ : St) : ∀ (vs : List Nat) (j : Nat), j ∈ vs → j < σ.length → (L2.wipe σ vs)[j]? = some none
  | v :: vs, j, h, hl => by
    show ((L2.wipe σ vs).set v none)[j]? = _
    by_cases e : v = j
    · subst e
      rw [List.getElem?_set_self (by rw [wipe_length]; exact hl)]
    · rw [List.getElem?_set_ne e]
      rcases List.mem_cons.mp h with rfl | h
      · exact absurd rfl e
      · exact wipe_inn σ vs j h hl
theorem wipe_eq {σ σ2 : St} {vs : List Nat} (h : Agree (L2.wipe σ vs) σ2 vs) : L2.wipe σ2 vs = L2.wipe σ vs := by
  have hl : σ2.length = σ.length := by rw [h.1, wipe_length]
  apply List.ext_getElem?
  intro j
  by_cases hj : j ∈ vs
  · by_cases hlt : j < σ.length
    · rw [wipe_inn σ vs j hj hlt, wipe_inn σ2 vs j hj (by omega)]
    · rw [List.getElem?_eq_none (by rw [wipe_length]; omega), List.getElem?_eq_none (by rw [wipe_length]; omega)]
  · rw [wipe_out σ2 vs j hj, h.2 j hj]
/-- one turn: none where it goes wrong, none within where it is left out -/
noncomputable def lcOne (vs : List Nat) (fg : FG) (ft : FT) (fe : FE) (k : Nat) (ρ : Env) (d : D) : Option (Option D) := match fg (.ow 0, d) ρ with
  | none => none
  | some ρ2 => chk (wipeE ρ2 vs = ρ) (match ft ρ2 with
    | some (.val b ρ3) => chk (ρ3 = ρ2) (if b = true then (match fe ρ2 with
      | some (.val a ρ4) => chk (ρ4 = ρ2) (if okItem k a = true then some (some a.2) else none)
      | _ => none) else some none)
    | _ => none)
noncomputable def lcGo (vs : List Nat) (fg : FG) (ft : FT) (fe : FE) (k : Nat) (ρ : Env) : List D → Option (List D)
  | [] => some []
  | d :: ds => match lcOne vs fg ft fe k ρ d with
    | none => none
    | some none => lcGo vs fg ft fe k ρ ds
    | some (some a) => match lcGo vs fg ft fe k ρ ds with
      | none => none
      | some as => some (a :: as)
/-- [e for g in i if t]: vs its own names; k + 1 levels of the list are held by nobody else -/
noncomputable def eLc (k : Nat) (vs : List Nat) (fi : FI) (fg : FG) (ft : FT) (fe : FE) : FE := fun ρ => match fi ρ with
  | none => none
  | some (.exc x w) => some (.exc x w)
  | some (.val ds ρ1) => chk (ds.length ≤ sizeLine) (match lcGo vs fg ft fe k (wipeE ρ1 vs) ds with
    | none => none
    | some es => some (.val (.ow (k + 1), .lst es) (wipeE ρ1 vs)))
def bYes : FT := fun ρ => some (.val true ρ)
section
variable {X : Fx} {K : PySem.W.Frag} {A A' B B' : Addr → Prop} {H0 H H' : Hp} {Hf : Bg} {σ σ' : St} {ρ ρ' : Env} {τ τ' : List T} {o o' : Own} {v w : V} {d e : D} {ta tb tc te to : TE} {fa fb fc fe : FE} {tt tu : TT} {ft fu : FT} {ts : TA} {fs : FA} {a b : Kx} {k : Nat} {t u : TS} {f : FS} {r r' : Root} {p p' q : List Nat}
theorem st_yes : ST X tYes bYes := fun ρ z h σ τ H o I Q q => by
  cases h
  exact q H o I
/-- things to be looked at are set aside -/
def dim (t : T) : T := match t.k with
  | .ow _ => t | _ => ⟨.non, .ow 0, .non⟩
theorem Ok.dim (I : Ok K B H0 Hf σ ρ τ H o) : Ok K B H0 Hf σ ρ (τ.map P.dim) H o := by
  refine ⟨I.len, I.bs, I.sm, I.fl, I.ow, I.sl, ?_⟩
  have key : ∀ {τ : List T}, TOk K H B o τ → TOk K H B o (τ.map P.dim) := fun {τ} => by
    induction τ with
    | nil => intro _; trivial
    | cons t τ ih =>
      intro h
      refine ⟨?_, ih h.2⟩
      obtain ⟨v, k, d⟩ := t
      show TmOk K H B o (τ.map P.dim).length _
      rw [List.length_map]
      cases k with
      | ow k => exact h.1
      | bw => exact .st .non
      | pl w q => exact .st .non
  exact key I.tp
theorem Ok.undim (I0 : TOk K H B o τ) (e : Same H H') (J : Ok K B H0 Hf σ ρ (τ.map P.dim) H' o') : Ok K B H0 Hf σ ρ τ H' o' := by
  refine ⟨J.len, J.bs, J.sm, J.fl, J.ow, J.sl, ?_⟩
  have key : ∀ {τ : List T}, TOk K H B o τ → TOk K H' B o' (τ.map P.dim) → TOk K H' B o' τ := fun {τ} => by
    induction τ with
    | nil => intro _ _; trivial
    | cons t τ ih =>
      intro h h'
      refine ⟨?_, ih h.2 h'.2⟩
      obtain ⟨v, k, d⟩ := t
      cases k with
      | ow k =>
        have z : TmOk K H' B o' (τ.map P.dim).length ⟨v, .ow k, d⟩ := h'.1
        rw [List.length_map] at z
        exact z
      | bw => exact Rep.mono e h.1
      | pl w q => exact PathTo.mono e h.1
  exact key I0 J.tp
theorem noBw_dim (τ : List T) : noBw (τ.map P.dim) := fun t ht => by
  obtain ⟨u, _, rfl⟩ := List.mem_map.mp ht
  obtain ⟨v, k, d⟩ := u
  cases k with
  | ow k => exact ⟨k, rfl⟩
  | bw => exact ⟨0, rfl⟩
  | pl w q => exact ⟨0, rfl⟩
theorem Ok.wipeE (I : Ok K B H0 Hf σ ρ τ H o) (vs : List Nat) : Ok K B H0 Hf σ (P.wipeE ρ vs) τ H o := by
  refine ⟨by rw [wipeE_len]; exact I.len, I.bs, I.sm, I.fl, I.ow, fun i k d h => ?_, I.tp⟩
  by_cases hi : i ∈ vs
  · exact absurd h (wipeE_no ρ vs i hi k d)
  · rw [wipeE_get ρ vs i hi] at h
    exact I.sl i k d h
theorem Ok.wipeS (I : Ok K B H0 Hf σ (P.wipeE ρ vs) τ H o) : Ok K B H0 Hf (L2.wipe σ vs) (P.wipeE ρ vs) τ H o := by
  refine ⟨by rw [wipe_length]; exact I.len, I.bs, I.sm, I.fl, I.ow, fun i k d h => ?_, I.tp⟩
  by_cases hi : i ∈ vs
  · exact absurd h (wipeE_no ρ vs i hi k d)
  · rw [wipe_out σ vs i hi]
    exact I.sl i k d h
theorem Ok.back {σ2 : St} {ρ2 : Env} {vs : List Nat} (I : Ok K B H0 Hf σ2 ρ2 τ H o) (hl : σ.length = ρ.length) (hσ : Agree (L2.wipe σ vs) σ2 vs) (hρ : P.wipeE ρ2 vs = P.wipeE ρ vs) : Ok K B H0 Hf σ (P.wipeE ρ vs) τ H o := by
  refine ⟨by rw [wipeE_len]; exact hl, I.bs, I.sm, I.fl, I.ow, fun i k d h => ?_, I.tp⟩
  by_cases hi : i ∈ vs
  · exact absurd h (wipeE_no ρ vs i hi k d)
  · rw [← hρ, wipeE_get ρ2 vs i hi] at h
    obtain ⟨v, e1, e2⟩ := I.sl i k d h
    rw [hσ.2 i hi, wipe_out σ vs i hi] at e1
    exact ⟨v, e1, e2⟩
/-- the list that is being made takes one more thing -/
theorem TOk.wr2 (I : Ok K B H0 Hf σ ρ τ' H o) {ad : Addr} {τ : List T} {L : T} (ha : o ad = some (.tm τ.length, [])) {u : HO} (hu : isMut u = true) {g : Root × List Nat → Option (Root × List Nat)} (hL : TmOk K (upd H ad u) B (ob o g) τ.length L) : ∀ {τa : List T} {L0 : T}, noBw τa → noBw τ → (∀ j, j < (τa ++ L0 :: τ).length → ∀ s, g (.tm j, s) = some (.tm j, s)) → TOk K H B o (τa ++ L0 :: τ) → TOk K (upd H ad u) B (ob o g) (τa ++ L :: τ)
  | [], L0, nba, nb, hr, h => ⟨hL, TOk.wr I ha hu (hr τ.length (Nat.lt_succ_self _) []) nb (fun j hj => ⟨(fun z => by injection z with z; omega), hr j (Nat.lt_succ_of_lt hj)⟩) h.2⟩
  | t :: τa, L0, nba, nb, hr, h => by
    have hlen : (τa ++ L0 :: τ).length = (τa ++ L :: τ).length := by simp
    refine ⟨?_, TOk.wr2 I ha hu hL (fun t ht => nba t (List.mem_cons_of_mem _ ht)) nb (fun j hj => hr j (Nat.lt_succ_of_lt hj)) h.2⟩
    obtain ⟨k, ek⟩ := nba t (List.mem_cons_self ..)
    obtain ⟨v, kd, d⟩ := t
    cases ek
    show TmOk K (upd H ad u) B (ob o g) (τa ++ L :: τ).length _
    rw [← hlen]
    have hr' := hr (τa ++ L0 :: τ).length (Nat.lt_succ_self _)
    have hlt : τ.length < (τa ++ L0 :: τ).length := by rw [List.length_append, List.length_cons]; omega
    have T := I.wrTr (r := .tm (τa ++ L0 :: τ).length) (p := []) (r' := .tm (τa ++ L0 :: τ).length) (p' := []) ha hu (hr τ.length (Nat.lt_succ_of_lt hlt) []) (fun s e => by injection e with e _; injection e with e; omega) (fun s => hr' s)
    have z : RO K (upd H ad u) (Av B (ob o g)) (ob o g) (.tm (τa ++ L0 :: τ).length) [] k v d := by
      have z := RO.tr (q := []) T (by simp) (show RO K H (Av B o) o (.tm (τa ++ L0 :: τ).length) [] k v d from h.1)
      simpa using z
    exact z
theorem Ok.appTm {ad : Addr} {ds : List D} {τa : List T} (I : Ok K B H0 Hf σ ρ (tmp w a :: (τa ++ ⟨.ref ad, .ow (k + 1), .lst ds⟩ :: τ)) H o) (hf : Hf.hp ad = none) (nba : noBw τa) (nb : noBw τ) (ok : okItem k a = true) :
    ∃ vs, H ad = some (.lst vs) ∧ vs.length = ds.length ∧ ∃ o', Ok K B H0 Hf σ ρ (τa ++ ⟨.ref ad, .ow (k + 1), .lst (ds ++ [a.2])⟩ :: τ) (upd H ad (.lst (vs ++ [w]))) o' := by
  have tL : RO K H (Av B o) o (.tm τ.length) [] (k + 1) (.ref ad) (.lst ds) := (I.tp.2.drop (τ' := τa)).1
  obtain ⟨ad', vs, e, ha, hh, hs⟩ := own_lst tL
  cases e
  refine ⟨vs, hh, hs.length, ?_⟩
  obtain ⟨m, hm⟩ : ∃ m, m = (τa ++ (⟨.ref ad, .ow (k + 1), .lst ds⟩ : T) :: τ).length := ⟨_, rfl⟩
  have hlt : τ.length < m := by rw [hm, List.length_append, List.length_cons]; omega
  have top : TmOk K H B o m (tmp w a) := by rw [hm]; exact I.tp.1
  obtain ⟨b1, b2⟩ := I.wrBase ha (u := .lst (vs ++ [w])) rfl
  have fin : ∀ g : Root × List Nat → Option (Root × List Nat), (∀ i s, g (.sl i, s) = some (.sl i, s)) → (∀ j, j < m → ∀ s, g (.tm j, s) = some (.tm j, s)) → (k = 0 → ∀ s, g (.tm m, s) = none) → (k ≠ 0 → ∀ s, g (.tm m, s) = some (.tm τ.length, [ds.length] ++ s)) →
      Ok K B H0 Hf σ ρ (τa ++ ⟨.ref ad, .ow (k + 1), .lst (ds ++ [a.2])⟩ :: τ) (upd H ad (.lst (vs ++ [w]))) (ob o g) := fun g hg hgt h0 h1 => by
    have TT := I.wrTr (r := .tm τ.length) (p := [] ++ [0]) (r' := .tm τ.length) (p' := [] ++ [0]) ha (u := .lst (vs ++ [w])) rfl (hgt τ.length hlt []) (fun s e => app_ne e) (fun s => hgt _ hlt _)
    refine ⟨I.len, I.bs, b1, I.fl.tr (fun b u hb => ?_) TT.ki TT.st, b2 g, fun j kj dj h => ?_, TOk.wr2 I (τ := τ) (L := ⟨.ref ad, .ow (k + 1), .lst (ds ++ [a.2])⟩) ha rfl ?_ nba nb (by rw [← hm]; exact hgt) I.pop.tp⟩
    · rw [upd_ne (ne_of_none hb hf)]
      exact I.fl.1 b u hb
    · obtain ⟨w', e1, e2⟩ := I.sl j kj dj h
      refine ⟨w', e1, ?_⟩
      have T := I.wrTr (r := .sl j) (p := []) (r' := .sl j) (p' := []) ha (u := .lst (vs ++ [w])) rfl (hgt τ.length hlt []) (fun s e => by injection e with e _; cases e) (fun s => hg _ _)
      have z := RO.tr (q := []) T (by simp) e2
      simpa using z
    · refine RO.lst (by unfold ob; rw [ha]; exact hgt _ hlt _) upd_same (ROs.append (ROs.wr I ha rfl (hgt _ hlt) hs) (.cons ?_ .nil))
      rw [Nat.zero_add, List.nil_append]
      exact item_wr (q' := [ds.length]) I ha rfl (hgt _ hlt) (fun y => by injection y with y; omega) h0 h1 top ok
  cases k with
  | zero =>
    exact ⟨_, fin (gTop m) (fun i s => rfl) (fun j hj s => by
        show (if m ≤ j then none else some (Root.tm j, s)) = _
        rw [if_neg (by omega)]) (fun _ s => by
        show (if m ≤ m then none else some (Root.tm m, s)) = _
        rw [if_pos (Nat.le_refl _)]) (fun h => absurd rfl h)⟩
  | succ k =>
    let g : Root × List Nat → Option (Root × List Nat) := fun y => match y.1 with
      | .tm j => if j = m then some (.tm τ.length, [ds.length] ++ y.2) else some y
      | _ => some y
    exact ⟨_, fin g (fun i s => rfl) (fun j hj s => by
        show (if j = m then _ else some (Root.tm j, s)) = _
        rw [if_neg (by omega)]) (fun h => absurd h (Nat.succ_ne_zero k)) (fun _ s => if_pos rfl)⟩
def inner (X : Fx) (Hf : Bg) : Fx := { X with Hf := Hf, E := fun _ _ _ => False }
theorem se_lc {wi : TI} {fi : FI} {g : TG} {fg : FG} {vs : List Nat} (hi : SI X wi fi) (hg : ∀ Hf, SG (inner X Hf) vs g fg) (ht : ∀ Hf, ST (inner X Hf) tt ft) (he : ∀ Hf, SE (inner X Hf) te fe) : SE X (tLc wi g tt te vs) (eLc k vs fi fg ft fe) := fun ρ z h σ τ H o I Q q => by
  unfold eLc at h
  split at h
  · cases h
  · rename_i x w e
    cases h
    exact hi ρ _ e σ τ H o I _ q
  · rename_i ds ρ1 e
    obtain ⟨hz, h⟩ := chk_some h
    cases ego : lcGo vs fg ft fe k (wipeE ρ1 vs) ds with
    | none => rw [ego] at h; cases h
    | some es =>
      rw [ego] at h
      cases h
      refine hi ρ _ e σ τ H o I _ fun J W H1 o1 hW I1 hF => ?_
      intro Dd hD
      have I2 : Ok X.K X.B X.H0 ⟨H1, X.Hf.pn⟩ σ (wipeE ρ1 vs) (τ.map dim) H1 o1 := by
        have y := (I1.wipeE vs).dim
        exact ⟨y.len, y.bs, y.sm, ⟨Same.refl _, y.fl.2⟩, y.ow, y.sl, y.tp⟩
      have I3 := I2.lsNewK (k := k) (vs := []) (ds := []) hD .nil
      have F3 : ∀ p, p ∈ W → Rep X.K (del (upd H1 Dd (.lst [])) (Av X.B (oNew o1 Dd (.tm (τ.map dim).length, [])))) p.1 p.2 := fun p hp => (hF p hp).mono (del_new hD)
      have I4 := I3.aside F3
      refine ⟨fun i m H => m = ds.length - i ∧ i ≤ ds.length ∧ ∃ o done rest, es = done ++ rest ∧ done.length ≤ i ∧ lcGo vs fg ft fe k (wipeE ρ1 vs) (ds.drop i) = some rest ∧ Ok X.K X.B X.H0 ⟨H1, X.Hf.pn⟩ σ (wipeE ρ1 vs) (aside W ++ ⟨.ref Dd, .ow (k + 1), .lst done⟩ :: τ.map dim) H o, ⟨_, rfl, Nat.zero_le _, _, [], es, rfl, Nat.le_refl _, ego, I4⟩, ?_⟩
      rintro i m H ⟨rfl, hi, o, done, rest, ees, hdl, hgo, I⟩
      have Ix : OkX X σ (wipeE ρ1 vs) (aside W ++ ⟨.ref Dd, .ow (k + 1), .lst done⟩ :: τ.map dim) H o := ⟨I.len, I.bs, I.sm, ⟨I1.fl.1.trans I.fl.1, I.fl.2⟩, I.ow, I.sl, I.tp⟩
      obtain ⟨w1, w2⟩ := hW σ _ _ H o i Ix (aside_get Ix.tp)
      by_cases hlt : i < ds.length
      · obtain ⟨go, y⟩ := w2 ds[i] (List.getElem?_eq_getElem hlt)
        rw [List.drop_eq_getElem_cons hlt] at hgo
        refine .inr ⟨go, fun H' => ∃ o done rest, es = done ++ rest ∧ done.length ≤ i + 1 ∧ lcGo vs fg ft fe k (wipeE ρ1 vs) (ds.drop (i + 1)) = some rest ∧ Ok X.K X.B X.H0 ⟨H1, X.Hf.pn⟩ σ (wipeE ρ1 vs) (aside W ++ ⟨.ref Dd, .ow (k + 1), .lst done⟩ :: τ.map dim) H' o, fun H' h => ⟨_, by omega, rfl, hlt, h⟩, fun x H' hy => ?_⟩
        obtain ⟨sm, I5⟩ := y x H' hy
        have I5' : OkX (inner X ⟨H1, X.Hf.pn⟩) σ (wipeE ρ1 vs) (⟨x, .ow 0, ds[i]⟩ :: (aside W ++ ⟨.ref Dd, .ow (k + 1), .lst done⟩ :: τ.map dim)) H' o := ⟨I5.len, I5.bs, I5.sm, ⟨I.fl.1.trans sm, I5.fl.2⟩, I5.ow, I5.sl, I5.tp⟩
        unfold lcGo at hgo
        cases e1 : lcOne vs fg ft fe k (wipeE ρ1 vs) ds[i] with
        | none => rw [e1] at hgo; cases hgo
        | some r1 =>
          rw [e1] at hgo
          unfold lcOne at e1
          cases eg : fg (.ow 0, ds[i]) (wipeE ρ1 vs) with
          | none => rw [eg] at e1; cases e1
          | some ρ2 =>
            rw [eg] at e1
            obtain ⟨hw2, e1⟩ := chk_some e1
            refine hg ⟨H1, X.Hf.pn⟩ (.ow 0, ds[i]) _ ρ2 eg (L2.wipe σ vs) _ H' o x I5'.wipeS _ fun σ2 H2 o2 I6 ag => ⟨wipe_eq ag, ?_⟩
            cases et : ft ρ2 with
            | none => rw [et] at e1; cases e1
            | some rt =>
              rw [et] at e1
              cases rt with
              | exc x w => cases e1
              | val b ρ3 =>
                obtain ⟨e3, e1⟩ := chk_some e1
                subst e3
                refine ht ⟨H1, X.Hf.pn⟩ ρ3 _ et σ2 _ H2 o2 I6 _ fun H3 o3 I7 => ?_
                cases b with
                | false =>
                  rw [if_neg Bool.false_ne_true]
                  rw [if_neg Bool.false_ne_true] at e1
                  cases e1
                  exact ⟨o3, done, rest, ees, by omega, hgo, I7.back I1.len ag hw2⟩
                | true =>
                  rw [if_pos rfl]
                  rw [if_pos rfl] at e1
                  cases ee : fe ρ3 with
                  | none => rw [ee] at e1; cases e1
                  | some re =>
                    rw [ee] at e1
                    cases re with
                    | exc x w => cases e1
                    | val a ρ4 =>
                      replace e1 : chk (ρ4 = ρ3) (if okItem k a = true then some (some a.2) else none) = some r1 := e1
                      obtain ⟨e4, e5⟩ := chk_some e1
                      clear e1
                      subst e4
                      by_cases ok : okItem k a = true
                      · rw [if_pos ok] at e5
                        cases e5
                        refine he ⟨H1, X.Hf.pn⟩ ρ4 _ ee σ2 _ H3 o3 I7 _ fun v H4 o4 I8 => ?_
                        have I9 : Ok X.K X.B X.H0 ⟨H1, X.Hf.pn⟩ σ (wipeE ρ1 vs) (tmp v a :: (aside W ++ ⟨.ref Dd, .ow (k + 1), .lst done⟩ :: τ.map dim)) H4 o4 := I8.back I1.len ag hw2
                        obtain ⟨acc, ha, hl, o5, I10⟩ := I9.appTm hD (noBw_aside W) (noBw_dim τ) ok
                        dsimp only at hgo
                        cases hr : lcGo vs fg ft fe k (wipeE ρ1 vs) (ds.drop (i + 1)) with
                        | none => rw [hr] at hgo; cases hgo
                        | some rest' =>
                          rw [hr] at hgo
                          cases hgo
                          refine ⟨acc, ha, by omega, o5, done ++ [a.2], rest', by rw [ees, List.append_assoc]; rfl, by rw [List.length_append]; exact Nat.succ_le_succ hdl, rfl, I10⟩
                      · rw [if_neg ok] at e5; cases e5
      · have e : i = ds.length := by omega
        subst e
        rw [List.drop_length] at hgo
        cases hgo
        rw [List.append_nil] at ees
        subst ees
        refine .inl ⟨w1 (Nat.le_refl _), q _ H o ?_⟩
        have J : Ok X.K X.B X.H0 ⟨H1, X.Hf.pn⟩ σ (wipeE ρ1 vs) (tmp (.ref Dd) (.ow (k + 1), .lst es) :: τ.map dim) H o := I.pops
        have J2 := Ok.undim (τ := τ) I1.tp J.fl.1 J.pop
        refine ⟨J2.len, J2.bs, J2.sm, ⟨I1.fl.1.trans J.fl.1, J2.fl.2⟩, J2.ow, J2.sl, ?_, J2.tp⟩
        have z := J.tp.1
        rw [List.length_map] at z
        exact z
end
end P

namespace P
open PySem L2
/-! ### a def -/
def entryE (ds : List D) (n : Nat) : Env := ds.map (.ow 0) ++ List.replicate n .no
/-- m parameters, n further names -/
def runD (m n : Nat) (f : FS) : Run := fun ds => if ds.length = m then (match f (entryE ds n) with
  | some (.nxt _) => some (.ret 0 .non)
  | some (.ret k d) => some (.ret k d)
  | some (.exc x w) => some (.exc x w)
  | _ => none) else none
theorem entry_get {ds : List D} {n i k : Nat} {d : D} (h : (entryE ds n)[i]? = some (.ow k d)) : k = 0 ∧ ds[i]? = some d := by
  unfold entryE at h
  by_cases hi : i < ds.length
  · rw [List.getElem?_append_left (by rw [List.length_map]; exact hi), List.getElem?_map] at h
    cases e : ds[i]? with
    | none => rw [e] at h; cases h
    | some d' =>
      rw [e] at h
      cases h
      exact ⟨rfl, rfl⟩
  · rw [List.getElem?_append_right (by rw [List.length_map]; omega), List.getElem?_replicate] at h
    split at h <;> cases h
theorem start_get {vs : List V} {N : List Str} {i : Nat} {v : V} (h : vs[i]? = some v) : (L2.start N vs)[i]? = some (some v) := by
  have hi : i < vs.length := (List.getElem?_eq_some_iff.mp h).1
  unfold L2.start
  rw [List.getElem?_append_left (by rw [List.length_map]; exact hi), List.getElem?_map, h]
  all_goals rfl
theorem ok_start {K : PySem.W.Frag} {B : Addr → Prop} {H : Hp} {vs : List V} {ds : List D} {N : List Str} {n : Nat} (hB : ∀ a, B a → Mu H a) (r : Reps K (del H B) vs ds) (hn : N.length = ds.length + n) :
    Ok K B H ⟨H, []⟩ (L2.start N vs) (entryE ds n) [] H (fun _ => none) := by
  have hl := r.length
  have e : Av B (fun _ => none) = B := by
    funext a
    exact propext ⟨fun z => z.elim id (fun ⟨p, z⟩ => nomatch z), .inl⟩
  refine ⟨?_, hB, Same.refl _, ⟨Same.refl _, fun p hp => nomatch hp⟩, (fun a p h => nomatch h), fun i k d h => ?_, trivial⟩
  · unfold L2.start entryE
    rw [List.length_append, List.length_map, List.length_replicate, List.length_append, List.length_map, List.length_replicate]
    omega
  · obtain ⟨rfl, hd⟩ := entry_get h
    obtain ⟨v, e1, e2⟩ := r.get' hd
    exact ⟨v, start_get e1, by rw [e]; exact .st e2⟩
section
variable {P : Program} {w : World} {K : PySem.W.Frag} {mg : Str → Option Value} {base : Heap}
theorem def_ok {x qual : Str} {st : Stmt} {f : Addr} {fd : FuncData} {N ps : List Str} {k m n : Nat} {fs : FS} (Fn : Fun K x qual st f fd) (S : FnScope N ps (defScope st)) (hm : ps.length = m) (hn : N.length = m + n)
    (hbody : ∀ (cdv : Value) (A : Around) (outer : List PySem.Env) (s : Shared) (H : Hp) (E : XK), Room k (A.deeper (PyProof.Rows.envOfC qual (defScope st) s.heap.objs.size f cdv)) →
      ∃ t, PSs (cxOf (L2.CX P w) P w K mg base N qual (defScope st) f cdv A outer s H E) (defBody st) t ∧ ∀ X : Fx, X.K = K → X.E = E → SS X t fs) : FnOk P w K mg base (L2.CX P w) (k + 1) f fd ps (spR K (runD m n fs)) := by
  refine Fn.okX S (fun vs H Q E h => ?_) (fun cdv A outer s H vs Q E hr h => ?_)
  · obtain ⟨B, ds, r, _, rr, hrun, _⟩ := h
    unfold runD at hrun
    split at hrun
    · rename_i hl
      rw [rr.length, hl, hm]
    · cases hrun
  · obtain ⟨B, ds, r, hB, rr, hrun, q⟩ := h
    obtain ⟨t, ht, hw⟩ := hbody cdv A outer s H E hr
    refine ⟨t, ht, ?_⟩
    unfold runD at hrun
    split at hrun
    · rename_i hl
      cases ef : fs (entryE ds n) with
      | none => rw [ef] at hrun; cases hrun
      | some fl =>
        rw [ef] at hrun
        refine hw ⟨K, B, H, ⟨H, []⟩, E⟩ rfl rfl _ fl ef _ [] H _ rfl (fun t ht => nomatch ht) (ok_start hB rr (by rw [hn, hl])) _ ?_
        cases fl with
        | nxt ρ =>
          cases hrun
          intro σ H' o I
          have I1 := I.scal (d := .non) rfl
          obtain ⟨o2, I2⟩ := I1.top.res (X := ⟨K, B, H, ⟨H, []⟩, E⟩) I1.pop
          exact q _ H' o2 I2
        | ret k d => cases hrun; exact q
        | exc x w => cases hrun; exact q
        | brk ρ => cases hrun
        | cnt ρ => cases hrun
    · cases hrun
end
/-- what callers know of a def -/
structure Gd (P : Program) (w : World) (K : PySem.W.Frag) (mg : Str → Option Value) (base : Heap) (x : Str) (k : Nat) (ps : List Str) (run : Run) : Prop where
  ex : ∃ f fd, FnOk P w K mg base (L2.CX P w) k f fd ps (spR K run) ∧ mg x = some (.ref f) ∧ PySem.W.keepIn K (.ref f) = true ∧ Binds K fd ps []
section
variable {X : Cx} {e : Expr} {es : List Expr} {t : TA} {x : Str} {p p2 pos pos2 : Pos} {k j kk : Nat} {ps : List Str} {run : Run} {E : XK} {K : PySem.W.Frag}
/-- what the call raises goes on -/
theorem pe_gd (tk : Takes X (fun cls d _ H => E cls d H)) (G : Gd X.prog X.w X.K X.mg X.base x k ps run) (hr : Room kk X.A) (hj : k ≤ kk) (hg : Gl X x) (ha : PA X (e :: es) t) (hdb : (x == ("__debug__" : Str)) = false := by decide) (he : starEach (e :: es) X.env = (false, eval e X.env) :: starEach es X.env := by rfl) (hpl : (backTo pos (starEach es X.env)).any (·.1) = false := by rfl) :
    PE X (.Call (.Name x p) (e :: es) [] pos) (tCall (spR X.K run) [] E t) := by
  obtain ⟨f, fd, h1, h2, h3, h4⟩ := G.ex
  exact pe_call h1 (hr.mono hj) hg h2 h3 h4 .nil (passes_call tk fun _ _ _ _ h => h) ha hdb he hpl
/-- within a comprehension: it does not raise -/
theorem pe_gdB (h : X.K = K) (G : Gd X.prog X.w X.K X.mg X.base x k ps run) (hr : Room kk X.A) (hj : k ≤ kk) (hg : Gl X x) (ha : PA X (e :: es) t) (hdb : (x == ("__debug__" : Str)) = false := by decide) (he : starEach (e :: es) X.env = (false, eval e X.env) :: starEach es X.env := by rfl) (hpl : (backTo pos (starEach es X.env)).any (·.1) = false := by rfl) :
    PE X (.Call (.Name x p) (e :: es) [] pos) (tCall (spR K run) [] E0 t) := by
  subst h
  obtain ⟨f, fd, h1, h2, h3, h4⟩ := G.ex
  exact pe_call h1 (hr.mono hj) hg h2 h3 h4 .nil passL ha hdb he hpl
end
theorem law_sp {K : PySem.W.Frag} {run : Run} {H : Hp} {a : Addr} {ns : List Int} {k : Nat} {E : XK} (hS : SqL K H a (ns.map V.int)) (hF : run [.rd ns] = some (.ret k (.bl true))) : spR K run [.ref a] H (fun v _ => v = .bl true) E :=
  ⟨fun _ => False, [.rd ns], .ret k (.bl true), (fun _ h => h.elim), .cons (.rd (by rw [del_nil]; exact hS)) .nil, hF, fun v H' o I => by
    have r := tmp_rep (a := (.ow k, .bl true)) I.top
    cases r
    rfl⟩
end P

namespace P
open PySem L2
/-! ### operators, with all the kinds that they take -/
def orR (r r' : R2) : R2 := fun x y H Q => r x y H Q ∨ r' x y H Q
theorem OpR.or {X : Cx} {f : Value → Value → Sem Value} {r r' : R2} (h : OpR X f r) (h' : OpR X f r') : OpR X f (orR r r') := by
  intro pins s σ H x y v u Q I rx ry q
  rcases q with q | q
  · exact h pins s σ H x y v u Q I rx ry q
  · exact h' pins s σ H x y v u Q I rx ry q
def rAddS : R2 := fun x y H Q => ∃ i j, x = .str i ∧ y = .str j ∧ i.length + j.length ≤ sizeLine ∧ Q (.str (i ++ j)) H
def rAddA : R2 := orR (rI0 fun i j => .int (i + j)) (orR rCat rAddS)
def rSubA : R2 := rI0 fun i j => .int (i - j)
def DivOk (i j : Int) : Prop := j ≠ 0 ∧ Builtin.divisionGoesByPylong i j = false
def rDivA : R2 := rI DivOk fun i j => .int (i.fdiv j)
def rModA : R2 := rI (fun _ j => j ≠ 0) fun i j => .int (i.fmod j)
def MulOk (i j : Int) : Prop := IntMulOk i j
def rMulS : R2 := fun x y H Q => ∃ s n, x = .str s ∧ y = .int n ∧ PySem.MulOk s n ∧ Q (.str (Txt.mul s n)) H
def rMulA : R2 := orR (rI IntMulOk fun i j => .int (i * j)) (orR rRep rMulS)
def PowOk (i j : Int) : Prop := CPow i j
def rPowA : R2 := rI CPow fun i j => .int (i ^ j.toNat)
def rEqA (K : PySem.W.Frag) : R2 := orR rEq (rEqD K)
def rNeA (K : PySem.W.Frag) : R2 := orR rNe (rNeD K)
def rLtA : R2 := rI0 fun i j => .bl (decide (i < j))
def rLeA : R2 := rI0 fun i j => .bl (decide (i ≤ j))
def rGtA : R2 := rI0 fun i j => .bl (decide (j < i))
def rGeA : R2 := rI0 fun i j => .bl (decide (j ≤ i))
def rIsN : R2 := fun x y H Q => y = .non ∧ Q (.bl (decide (x = .non))) H
def rNotN : R2 := fun x y H Q => y = .non ∧ Q (.bl (!decide (x = .non))) H
def rIsBl : R2 := fun x y H Q => ∃ b c, x = .bl b ∧ y = .bl c ∧ Q (.bl (decide (b = c))) H
def rNotBl : R2 := fun x y H Q => ∃ b c, x = .bl b ∧ y = .bl c ∧ Q (.bl (!decide (b = c))) H
def rIsA : R2 := orR rIsN rIsBl
def rNotA : R2 := orR rNotN rNotBl
def rInS (neg : Bool) : R2 := fun x y H Q => ∃ (c : Nat) (z : Str), x = .str ⟨#[c]⟩ ∧ y = .str z ∧ Q (.bl (if neg then !decide (c ∈ z.cps.toList) else decide (c ∈ z.cps.toList))) H
def rInA (K : PySem.W.Frag) : R2 := orR (rIn K false) (rInS false)
def rNinA (K : PySem.W.Frag) : R2 := orR (rIn K true) (rInS true)
def rAbs : List V → Hp → VK → Prop := fun xs H Q => ∃ i, xs = [.int i] ∧ Q (.int (if i < 0 then -i else i)) H
def rIntA : List V → Hp → VK → Prop := fun xs H Q => (∃ i, xs = [.int i] ∧ Q (.int i) H) ∨ (∃ k, xs = [.bl k] ∧ Q (.int (if k then 1 else 0)) H) ∨ ∃ a n, xs = [.str a] ∧ PySem.intText? a = some n ∧ a.length ≤ 640 ∧ Q (.int n) H
def rDivmod : List V → Hp → VK → Prop := fun xs H Q => ∃ i j, xs = [.int i, .int j] ∧ CDivP i j ∧ ∀ p, H p = none → Q (.ref p) (upd H p (.tup [.int (i / j), .int (i % j)]))
def decI (i : Int) : Str := toString i
def rStrI : List V → Hp → VK → Prop := fun xs H Q => ∃ i, xs = [.int i] ∧ i.natAbs.log2 < 1920 ∧ Q (.str (decI i)) H
def rLen (K : PySem.W.Frag) : List V → Hp → VK → Prop := fun xs H Q => ∃ x n, xs = [x] ∧ LenV K x H n ∧ Q (.int n) H
def rListA (K : PySem.W.Frag) : List V → Hp → VK → Prop := fun xs H Q => ∃ p ys, xs = [.ref p] ∧ (SqL K H p ys ∨ SqT K H p ys) ∧ ∀ l, H l = none → Q (.ref l) (upd H l (.lst ys))
def rTupA (K : PySem.W.Frag) : List V → Hp → VK → Prop := fun xs H Q => ∃ p ys, xs = [.ref p] ∧ ((SqL K H p ys ∧ ∀ l, H l = none → Q (.ref l) (upd H l (.tup ys))) ∨ (SqT K H p ys ∧ Q (.ref p) H))
def rMaxA (K : PySem.W.Frag) : List V → Hp → VK → Prop := fun xs H Q => rMax K xs H Q ∨ ∃ i j, xs = [.int i, .int j] ∧ Q (.int (if j > i then j else i)) H
def rMinA (K : PySem.W.Frag) : List V → Hp → VK → Prop := fun xs H Q => rMin K xs H Q ∨ ∃ i j, xs = [.int i, .int j] ∧ Q (.int (if j < i then j else i)) H
def rPart : V → List V → Hp → VK → Prop := fun x xs H Q => ∃ a b, x = .str a ∧ xs = [.str b] ∧ (b.length == 0) = false ∧ a.length ≤ sizeLine ∧
  ∀ p, H p = none → Q (.ref p) (upd H p (.tup [.str (Txt.partition a b).1, .str (Txt.partition a b).2.1, .str (Txt.partition a b).2.2]))
section
variable {X : Cx}
theorem CallR.or {f : Value} {r r' : List V → Hp → VK → Prop} (h : CallR X f r) (h' : CallR X f r') : CallR X f (fun xs H Q => r xs H Q ∨ r' xs H Q) := by
  intro pins s σ H xs us Q I rs q
  rcases q with q | q
  · exact h pins s σ H xs us Q I rs q
  · exact h' pins s σ H xs us Q I rs q
theorem op_addA : OpR X (binaryOp .Add) rAddA := OpR.or op_add (OpR.or op_cat op_add_str)
theorem op_subA : OpR X (binaryOp .Sub) rSubA := op_sub
theorem op_divA : OpR X (binaryOp .FloorDiv) rDivA := opI fun _ _ _ _ _ _ _ hc q => PyProof.Rows.floordiv_int hc.1 q (.inl hc.2)
theorem op_modA : OpR X (binaryOp .Mod) rModA := op_modN
theorem op_mulS : OpR X (binaryOp .Mult) rMulS := by
  intro pins s σ H x y v u Q I rx ry h
  obtain ⟨i, j, rfl, rfl, hz, q⟩ := h
  obtain ⟨t, rfl⟩ := rx
  obtain ⟨t', rfl⟩ := ry
  exact SB.mul hz fun t' k => ⟨.str (Txt.mul i j), H, I.tok _, ⟨_, rfl⟩, q⟩
theorem op_mulA : OpR X (binaryOp .Mult) rMulA := OpR.or (opI fun _ _ _ _ _ _ _ hc q => PyProof.Rows.mul_int q hc) (OpR.or op_rep op_mulS)
theorem op_powA : OpR X (binaryOp .Pow) rPowA := op_pow
theorem op_eqA {K : PySem.W.Frag} (h : X.K = K) (hu : X.A.units + 64 < cLine) : OpR X (compareOp .Eq) (rEqA K) := h ▸ OpR.or op_eq (op_eqD hu)
theorem op_neA {K : PySem.W.Frag} (h : X.K = K) (hu : X.A.units + 64 < cLine) : OpR X (compareOp .NotEq) (rNeA K) := h ▸ OpR.or op_ne (op_neD hu)
theorem op_ltA : OpR X (compareOp .Lt) rLtA := op_lt
theorem op_leA : OpR X (compareOp .LtE) rLeA := op_le
theorem op_gtA : OpR X (compareOp .Gt) rGtA := op_gt
theorem op_geA : OpR X (compareOp .GtE) rGeA := op_ge
theorem op_isBA : OpR X (compareOp .Is) rIsBl := by
  rintro pins s σ H _ _ v u Q I rx ry ⟨b, c, rfl, rfl, q⟩
  cases rx
  cases ry
  exact PyProof.Rows.is_bool ⟨.bl (b == c), H, I, rfl, by cases b <;> cases c <;> exact q⟩
theorem op_notBA : OpR X (compareOp .IsNot) rNotBl := by
  rintro pins s σ H _ _ v u Q I rx ry ⟨b, c, rfl, rfl, q⟩
  cases rx
  cases ry
  exact PyProof.Rows.isnot_bool ⟨.bl (b != c), H, I, rfl, by cases b <;> cases c <;> exact q⟩
theorem op_isA : OpR X (compareOp .Is) rIsA := OpR.or op_isN op_isBA
theorem op_notA : OpR X (compareOp .IsNot) rNotA := OpR.or op_notN op_notBA
theorem op_inA {K : PySem.W.Frag} (h : X.K = K) : OpR X (compareOp .In) (rInA K) := h ▸ OpR.or op_in_seq op_in_sign
theorem op_ninA {K : PySem.W.Frag} (h : X.K = K) : OpR X (compareOp .NotIn) (rNinA K) := h ▸ OpR.or op_notIn_seq op_notIn_sign
theorem call_absA : CallR X (.builtin "abs") rAbs := call_abs
theorem call_lenA {K : PySem.W.Frag} (h : X.K = K) : CallR X (.builtin "len") (rLen K) := h ▸ call_len
theorem call_divmodA : CallR X (.builtin "divmod") rDivmod := call_divmodW
theorem call_intA : CallR X (.type "int") rIntA := by
  have h := CallR.or (X := X) call_int1 call_int_str
  intro pins s σ H xs us Q I rs q
  rcases q with q | q | q
  · exact h pins s σ H xs us Q I rs (.inl (.inl q))
  · exact h pins s σ H xs us Q I rs (.inl (.inr q))
  · exact h pins s σ H xs us Q I rs (.inr q)
theorem call_strA : CallR X (.type "str") rStrI := call_str_int
theorem call_listA {K : PySem.W.Frag} (h : X.K = K) : CallR X (.type "list") (rListA K) := h ▸ call_list_of
theorem call_tupleA {K : PySem.W.Frag} (h : X.K = K) : CallR X (.type "tuple") (rTupA K) := h ▸ call_tuple_of
theorem call_sumA {K : PySem.W.Frag} (h : X.K = K) (hc : X.calm = true) : CallR X (.builtin "sum") (rSum K) := h ▸ cr_sum hc
theorem call_anyA {K : PySem.W.Frag} (h : X.K = K) (hc : X.calm = true) : CallR X (.builtin "any") (rAny K) := h ▸ cr_any hc
theorem call_allA {K : PySem.W.Frag} (h : X.K = K) (hc : X.calm = true) : CallR X (.builtin "all") (rAll K) := h ▸ cr_all hc
theorem call_maxA {K : PySem.W.Frag} (h : X.K = K) (hc : X.calm = true) : CallR X (.builtin "max") (rMaxA K) := h ▸ CallR.or (cr_max hc) (call_max2 hc)
theorem call_minA {K : PySem.W.Frag} (h : X.K = K) (hc : X.calm = true) : CallR X (.builtin "min") (rMinA K) := h ▸ CallR.or (cr_min hc) (call_min2 hc)
theorem call_sortedA {K : PySem.W.Frag} (h : X.K = K) : CallR X (.builtin "sorted") (rSorted K) := h ▸ cr_sorted
theorem ix_seqA {K : PySem.W.Frag} (h : X.K = K) : IxR X (rIx K) := h ▸ ix_seq
def rSlA (K : PySem.W.Frag) : V → Option Int → Option Int → Hp → VK → Prop := fun x lo hi H Q => rSlL K x lo hi H Q ∨ rSlS x lo hi H Q
theorem sl_A {K : PySem.W.Frag} (h : X.K = K) : SlR X (rSlA K) := h ▸ SlR.or sl_list sl_str
end
/-! ### what they make of data -/
def gAdd0 : D → D → Option D
  | .int a, .int b => some (.int (a + b))
  | _, _ => none
noncomputable def gAddS0 : D → D → Option D
  | .str a, .str b => chk (a.length + b.length ≤ sizeLine) (some (.str (a ++ b)))
  | _, _ => none
def gSub0 : D → D → Option D
  | .int a, .int b => some (.int (a - b)) | _, _ => none
noncomputable def gDiv0 : D → D → Option D
  | .int a, .int b => chk (DivOk a b) (some (.int (a.fdiv b))) | _, _ => none
noncomputable def gMod0 : D → D → Option D
  | .int a, .int b => chk (b ≠ 0) (some (.int (a.fmod b))) | _, _ => none
noncomputable def gMul0 : D → D → Option D
  | .int a, .int b => chk (MulOk a b) (some (.int (a * b))) | _, _ => none
noncomputable def gPow0 : D → D → Option D
  | .int a, .int b => chk (PowOk a b) (some (.int (a ^ b.toNat))) | _, _ => none
def gLt0 : D → D → Option D
  | .int a, .int b => some (.bl (decide (a < b))) | _, _ => none
def gLe0 : D → D → Option D
  | .int a, .int b => some (.bl (decide (a ≤ b))) | _, _ => none
def gGt0 : D → D → Option D
  | .int a, .int b => some (.bl (decide (b < a))) | _, _ => none
def gGe0 : D → D → Option D
  | .int a, .int b => some (.bl (decide (b ≤ a))) | _, _ => none
/-- == of data -/
def eqD : D → D → Bool
  | .non, .non => true
  | .bl a, .bl b => a == b
  | .bl a, .int j => (if a then 1 else 0) == j
  | .int i, .bl b => i == (if b then 1 else 0)
  | .int i, .int j => i == j
  | .str x, .str y => x == y
  | .lst xs, .lst ys => eqs xs ys
  | .lst xs, .rd ns => eqs xs (ns.map .int)
  | .rd ns, .lst ys => eqN ns ys
  | .rd ns, .rd ms => ns == ms
  | .tup xs, .tup ys => eqs xs ys
  | _, _ => false
where
  eqs : List D → List D → Bool
    | [], [] => true
    | x :: xs, y :: ys => eqD x y && eqs xs ys
    | _, _ => false
  eqN : List Int → List D → Bool
    | [], [] => true
    | n :: ns, .int m :: ys => n == m && eqN ns ys
    | n :: ns, .bl b :: ys => n == (if b then 1 else 0) && eqN ns ys
    | _, _ => false
abbrev eqs := eqD.eqs
/-- data that == may be asked of: n levels at most -/
def okP : Nat → D → Bool
  | _, .non => true | _, .bl _ => true | _, .int _ => true
  | _, .str x => PyData.strOk x
  | 0, _ => false
  | n + 1, .lst ds => okPs n ds
  | n + 1, .tup ds => okPs n ds
  | _ + 1, .rd _ => true
  | _ + 1, _ => false
where
  okPs : Nat → List D → Bool
    | _, [] => true
    | n, d :: ds => okP n d && okPs n ds
theorem okPs_all (n : Nat) : ∀ ds : List D, okP.okPs n ds = ds.all (okP n)
  | [] => rfl
  | d :: ds => congrArg (okP n d && ·) (okPs_all n ds)
mutual
def toP : D → PyData
  | .non => .none | .bl b => .bool b | .int i => .int i | .str s => .str s
  | .lst ds => .list (toPs ds) | .tup ds => .tuple (toPs ds) | .rd ns => .list (ns.map .int) | _ => .none
def toPs : List D → List PyData
  | [] => []
  | d :: ds => toP d :: toPs ds
end
theorem toPs_ints : ∀ ns : List Int, toPs (ns.map .int) = ns.map .int
  | [] => rfl
  | n :: ns => congrArg (PyData.int n :: ·) (toPs_ints ns)
mutual
theorem Rep.dp {K : PySem.W.Frag} {H : Hp} : ∀ {n : Nat} {v : V} {d : D}, Rep K H v d → okP n d = true → Dp K H v (toP d)
  | _, _, _, .non, _ => .non
  | _, _, _, .bl b, _ => .bl b
  | _, _, _, .int b, _ => .int b
  | _, _, _, .str b, _ => .str b
  | 0, _, _, .lst a r, h => nomatch h
  | n + 1, _, _, .lst a r, h => .lst (SqL.of a) (Reps.dp r h)
  | 0, _, _, .tup a r, h => nomatch h
  | n + 1, _, _, .tup a r, h => .tup (SqT.of a) (Reps.dp r h)
  | 0, _, _, .rd a, h => nomatch h
  | n + 1, _, _, .rd a, h => .lst a (dp_ints _)
  | 0, _, _, .ty _, h => nomatch h
  | n + 1, _, _, .ty _, h => nomatch h
  | 0, _, _, .cls _, h => nomatch h
  | n + 1, _, _, .cls _, h => nomatch h
  | 0, _, _, .ins _ _ _, h => nomatch h
  | n + 1, _, _, .ins _ _ _, h => nomatch h
  | 0, _, _, .dic _ _, h => nomatch h
  | n + 1, _, _, .dic _ _, h => nomatch h
  | 0, _, _, .xo0 _ _, h => nomatch h
  | n + 1, _, _, .xo0 _ _, h => nomatch h
  | 0, _, _, .xo1 _ _ _ _, h => nomatch h
  | n + 1, _, _, .xo1 _ _ _ _, h => nomatch h
theorem Reps.dp {K : PySem.W.Frag} {H : Hp} : ∀ {n : Nat} {v : List V} {d : List D}, Reps K H v d → okP.okPs n d = true → DpAll K H v (toPs d)
  | _, _, _, .nil, _ => .nil
  | n, _, _, .cons a r, h => by
    have h' : (okP n _ && okP.okPs n _) = true := h
    rw [Bool.and_eq_true] at h'
    exact .cons (Rep.dp a h'.1) (Reps.dp r h'.2)
theorem dp_ints {K : PySem.W.Frag} {H : Hp} : ∀ ns : List Int, DpAll K H (ns.map V.int) (ns.map PyData.int)
  | [] => .nil
  | n :: ns => .cons (.int n) (dp_ints ns)
end

mutual
theorem toP_ok : ∀ {n : Nat} {d : D}, n ≤ 64 → okP n d = true → (toP d).canLay0 = true ∧ (toP d).depth ≤ n
  | n, .non, _, _ => ⟨rfl, Nat.zero_le _⟩
  | n, .bl _, _, _ => ⟨rfl, Nat.zero_le _⟩
  | n, .int _, _, _ => ⟨rfl, Nat.zero_le _⟩
  | n, .str x, _, h => ⟨by cases n <;> exact h, Nat.zero_le _⟩
  | 0, .lst ds, _, h => nomatch h
  | n + 1, .lst ds, hn, h => by
    have z := toPs_ok (n := n) (by omega) h
    exact ⟨z.1, Nat.succ_le_succ z.2⟩
  | 0, .tup ds, _, h => nomatch h
  | n + 1, .tup ds, hn, h => by
    have z := toPs_ok (n := n) (by omega) h
    exact ⟨z.1, Nat.succ_le_succ z.2⟩
  | 0, .rd ns, _, h => nomatch h
  | n + 1, .rd ns, hn, h => by
    have z : PyData.canLayAll0 (ns.map PyData.int) = true ∧ PyData.depthAll (ns.map PyData.int) = 0 := by
      clear h hn
      induction ns with
      | nil => exact ⟨rfl, rfl⟩
      | cons a l ih => exact ⟨by show (true && _) = true; rw [ih.1]; rfl, by show max 0 _ = 0; rw [ih.2]; rfl⟩
    exact ⟨z.1, by show PyData.depthAll (ns.map PyData.int) + 1 ≤ n + 1; rw [z.2]; omega⟩
  | 0, .ty _, _, h => nomatch h
  | n + 1, .ty _, _, h => nomatch h
  | 0, .cls _, _, h => nomatch h
  | n + 1, .cls _, _, h => nomatch h
  | 0, .ins _ _, _, h => nomatch h
  | n + 1, .ins _ _, _, h => nomatch h
  | 0, .dic _, _, h => nomatch h
  | n + 1, .dic _, _, h => nomatch h
  | 0, .xo _ _, _, h => nomatch h
  | n + 1, .xo _ _, _, h => nomatch h
theorem toPs_ok : ∀ {n : Nat} {ds : List D}, n ≤ 64 → okP.okPs n ds = true → PyData.canLayAll0 (toPs ds) = true ∧ PyData.depthAll (toPs ds) ≤ n
  | n, [], _, _ => ⟨rfl, Nat.zero_le _⟩
  | n, d :: ds, hn, h => by
    have h' : (okP n d && okP.okPs n ds) = true := h
    rw [Bool.and_eq_true] at h'
    have a := toP_ok hn h'.1
    have b := toPs_ok hn h'.2
    exact ⟨by show (_ && _) = true; rw [a.1, b.1]; rfl, Nat.max_le.mpr ⟨a.2, b.2⟩⟩
end
theorem okP_shaped {n : Nat} {d : D} (hn : n ≤ 64) (h : okP n d = true) : SeqAt.shaped (toP d) = true := by
  have z := toP_ok hn h
  unfold SeqAt.shaped
  rw [z.1, decide_eq_true (show (toP d).depth ≤ 64 by omega)]
  rfl
theorem eqv_ints : ∀ ns ms : List Int, PyData.eqvAll (ns.map .int) (ms.map .int) = (ns == ms)
  | [], [] => rfl
  | [], _ :: _ => rfl
  | _ :: _, [] => rfl
  | n :: ns, m :: ms => by
    show (n == m && PyData.eqvAll (ns.map .int) (ms.map .int)) = _
    rw [eqv_ints ns ms]
    rfl
mutual
theorem eqv_eqD : ∀ {n : Nat} {d e : D}, okP n d = true → okP n e = true → PyData.eqv (toP d) (toP e) = eqD d e := fun {n d e} h h' => by
  cases n with
  | zero => cases d <;> first | (cases h; done) | (cases e <;> first | (cases h'; done) | rfl)
  | succ n =>
    cases d <;> first | (cases h; done) | skip
    case lst xs =>
      cases e <;> first | (cases h'; done) | rfl | skip
      case lst ys => exact eqv_eqs h h'
      case rd ns =>
        show PyData.eqvAll (toPs xs) (ns.map .int) = eqs xs (ns.map .int)
        rw [← toPs_ints]
        exact eqv_eqs (n := n) h (by
          clear h h'
          induction ns with
          | nil => rfl
          | cons a l ih => show (okP n (.int a) && _) = true; rw [ih]; cases n <;> rfl)
    case tup xs =>
      cases e <;> first | (cases h'; done) | rfl | skip
      case tup ys => exact eqv_eqs h h'
    case rd ns =>
      cases e <;> first | (cases h'; done) | rfl | skip
      case lst ys =>
        show PyData.eqvAll (ns.map .int) (toPs ys) = eqD.eqN ns ys
        clear h h'
        induction ns generalizing ys with
        | nil => cases ys <;> rfl
        | cons a l ih =>
          cases ys with
          | nil => rfl
          | cons y ys =>
            show (PyData.eqv (.int a) (toP y) && PyData.eqvAll (l.map .int) (toPs ys)) = _
            rw [ih]
            cases y <;> rfl
      case rd ms => exact eqv_ints ns ms
    all_goals (cases e <;> first | (cases h'; done) | rfl)
theorem eqv_eqs : ∀ {n : Nat} {ds es : List D}, okP.okPs n ds = true → okP.okPs n es = true → PyData.eqvAll (toPs ds) (toPs es) = eqs ds es
  | n, [], [], _, _ => rfl
  | n, [], _ :: _, _, _ => rfl
  | n, _ :: _, [], _, _ => rfl
  | n, d :: ds, e :: es, h, h' => by
    have h1 : (okP n d && okP.okPs n ds) = true := h
    have h2 : (okP n e && okP.okPs n es) = true := h'
    rw [Bool.and_eq_true] at h1 h2
    show (PyData.eqv (toP d) (toP e) && PyData.eqvAll (toPs ds) (toPs es)) = (eqD d e && eqs ds es)
    rw [eqv_eqD h1.1 h2.1, eqv_eqs h1.2 h2.2]
end
end P

namespace P
open PySem L2
section
variable {X : Fx} {K : PySem.W.Frag} {B B' : Addr → Prop} {H0 H H' : Hp} {Hf : Bg} {σ σ' : St} {ρ ρ' : Env} {τ τ' : List T} {o o' : Own} {v w : V} {d e : D} {ta tb tc te to : TE} {fa fb fc fe : FE} {ts : TA} {fs : FA} {a b : Kx} {k : Nat} {rl rl' : R2}
/-- two things looked at: a scalar -/
def Op2R (X : Fx) (r : R2) (g : D → D → Option D) : Prop := ∀ d e f, g d e = some f → isS f = true ∧ ∀ (H : Hp) (x y : V) (Q : VK), Rep X.K H x d → Rep X.K H y e → Q (toV f) H → r x y H Q
theorem Op2R.op {g : D → D → Option D} (h : Op2R X rl g) : Op2 X rl (g2 g) := fun a b c e σ ρ τ H o x y I Q q => by
  unfold g2 at e
  cases e1 : g a.2 b.2 with
  | none => rw [e1] at e; cases e
  | some f =>
    rw [e1] at e
    cases e
    obtain ⟨h1, h2⟩ := h _ _ _ e1
    exact h2 H x y Q (tmp_rep I.pop.top) (tmp_rep I.top) (q _ H o (I.pop.pop.scal h1))
theorem Op2.l {g : Kx → Kx → Option Kx} (h : Op2 X rl g) : Op2 X (orR rl rl') g := h.or_inl
theorem Op2.r {g : Kx → Kx → Option Kx} (h : Op2 X rl' g) : Op2 X (orR rl rl') g := h.or_inr
theorem o2_int {g : Int → Int → V} {C : Int → Int → Prop} {g0 : D → D → Option D} (h : ∀ d e f, g0 d e = some f → ∃ a b, d = .int a ∧ e = .int b ∧ C a b ∧ isS f = true ∧ g a b = toV f) : Op2R X (rI C g) g0 := fun d e f h0 => by
  obtain ⟨a, b, rfl, rfl, hc, hs, hv⟩ := h d e f h0
  refine ⟨hs, fun H x y Q r1 r2 q => ?_⟩
  cases r1
  cases r2
  exact ⟨a, b, rfl, rfl, hc, by rw [hv]; exact q⟩
theorem o2_int0 {g : Int → Int → V} {g0 : D → D → Option D} (h : ∀ d e f, g0 d e = some f → ∃ a b, d = .int a ∧ e = .int b ∧ isS f = true ∧ g a b = toV f) : Op2R X (rI0 g) g0 := fun d e f h0 => by
  obtain ⟨a, b, rfl, rfl, hs, hv⟩ := h d e f h0
  refine ⟨hs, fun H x y Q r1 r2 q => ?_⟩
  cases r1
  cases r2
  exact ⟨a, b, rfl, rfl, by rw [hv]; exact q⟩
/-- two lists joined: a new one -/
def itemsOk (a : Kx) (ds : List D) : Bool := match a.1 with
  | .ow _ => true | .bw => flats ds
noncomputable def gCat : Kx → Kx → Option Kx := fun a b => match a.2, b.2 with
  | .lst ds, .lst es => if (itemsOk a ds && itemsOk b es) = true then chk (ds.length + es.length ≤ sizeLine) (some (.ow 1, .lst (ds ++ es))) else chk (ds.length + es.length ≤ sizeLine) (some (.bw, .lst (ds ++ es)))
  | _, _ => none
theorem Known.items {ds : List D} (I : Ok K B H0 Hf σ ρ τ H o) (h : Known K H (Av B o) v a) (e : a.2 = .lst ds) (ok : itemsOk a ds = true) : ∃ p vs, v = .ref p ∧ H p = some (.lst vs) ∧ Reps K (del H (Av B o)) vs ds := by
  obtain ⟨k, d⟩ := a
  cases e
  cases k with
  | ow k =>
    have r : Rep K (del H (Av B o)) v (.lst ds) := h
    cases r with
    | lst hh rr => exact ⟨_, _, rfl, (del_some.mp hh).2, rr⟩
  | bw =>
    have r : Rep K H v (.lst ds) := h
    cases r with
    | lst hh rr => exact ⟨_, _, rfl, hh, Reps.flat (keep_av I) rr ok⟩
theorem op_catA : Op2 X rCat gCat := fun a b c e σ ρ τ H o x y I Q q => by
  obtain ⟨o', I', ka, kb⟩ := I.settle2
  unfold gCat at e
  split at e
  · rename_i ds es ea eb
    have ra := ka.rep
    have rb := kb.rep
    rw [ea] at ra
    rw [eb] at rb
    cases ra with
    | lst h1 r1 =>
      cases rb with
      | lst h2 r2 =>
        rename_i p vs p2 ws
        split at e
        · rename_i ok
          obtain ⟨hz, e⟩ := chk_some e
          cases e
          rw [Bool.and_eq_true] at ok
          obtain ⟨_, _, e1, g1, s1⟩ := ka.items I' ea ok.1
          obtain ⟨_, _, e2, g2, s2⟩ := kb.items I' eb ok.2
          cases e1
          cases e2
          exact ⟨_, _, _, _, rfl, rfl, g1, g2, by rw [s1.length, s2.length]; exact hz, fun p hp => q _ _ _ (I'.lsNew hp (s1.append s2))⟩
        · obtain ⟨hz, e⟩ := chk_some e
          cases e
          exact ⟨_, _, _, _, rfl, rfl, h1, h2, by rw [r1.length, r2.length]; exact hz, fun p hp => q _ _ o' ((I'.grow (same_upd _ hp)).push (t := tmp (.ref p) (.bw, .lst (ds ++ es))) (.lst upd_same ((r1.append r2).mono (same_upd _ hp))))⟩
  · cases e
noncomputable def gAdd : Kx → Kx → Option Kx := gOr (g2 gAdd0) (gOr (g2 gAddS0) gCat)
theorem o_add : Op2 X rAddA gAdd := .gor (.l (Op2R.op (o2_int0 fun d e f h => by
    unfold gAdd0 at h; split at h <;> first | (cases h; exact ⟨_, _, rfl, rfl, rfl, rfl⟩) | cases h)))
  (.gor (.r (.r (Op2R.op fun d e f h => by
    unfold gAddS0 at h
    split at h
    · rename_i a b
      obtain ⟨hz, h⟩ := chk_some h
      cases h
      exact ⟨rfl, fun H x y Q r1 r2 q => by cases r1; cases r2; exact ⟨a, b, rfl, rfl, hz, q⟩⟩
    · cases h))) (.r (.l op_catA)))
theorem o_sub : Op2 X rSubA (g2 gSub0) := (o2_int0 fun d e f h => by
    unfold gSub0 at h; split at h <;> first | (cases h; exact ⟨_, _, rfl, rfl, rfl, rfl⟩) | cases h).op
theorem o_div : Op2 X rDivA (g2 gDiv0) := (o2_int fun d e f h => by
    unfold gDiv0 at h
    split at h
    · obtain ⟨hc, h⟩ := chk_some h; cases h; exact ⟨_, _, rfl, rfl, hc, rfl, rfl⟩
    · cases h).op
theorem o_mod : Op2 X rModA (g2 gMod0) := (o2_int fun d e f h => by
    unfold gMod0 at h
    split at h
    · obtain ⟨hc, h⟩ := chk_some h; cases h; exact ⟨_, _, rfl, rfl, hc, rfl, rfl⟩
    · cases h).op
theorem o_pow : Op2 X rPowA (g2 gPow0) := (o2_int fun d e f h => by
    unfold gPow0 at h
    split at h
    · obtain ⟨hc, h⟩ := chk_some h; cases h; exact ⟨_, _, rfl, rfl, hc, rfl, rfl⟩
    · cases h).op
/-- a list taken some times -/
noncomputable def gRep : Kx → Kx → Option Kx := fun a b => match a.2, b.2 with
  | .lst ds, .int n => if itemsOk a ds = true then chk (-(2 ^ 63) ≤ n ∧ n < 2 ^ 63 ∧ ds.length * n.toNat ≤ sizeLine) (some (.ow 1, .lst (List.replicate n.toNat ds).flatten)) else none
  | _, _ => none
theorem Reps.rep {vs : List V} {ds : List D} (h : Reps K H vs ds) : ∀ n : Nat, Reps K H (List.replicate n vs).flatten (List.replicate n ds).flatten
  | 0 => .nil
  | n + 1 => by
    rw [List.replicate_succ, List.replicate_succ, List.flatten_cons, List.flatten_cons]
    exact h.append (h.rep n)
noncomputable def gMulS0 : D → D → Option D
  | .str s, .int n => chk (PySem.MulOk s n) (some (.str (Txt.mul s n)))
  | _, _ => none
noncomputable def gMul : Kx → Kx → Option Kx := gOr (g2 gMul0) (gOr gRep (g2 gMulS0))
theorem o_lt : Op2 X rLtA (g2 gLt0) := (o2_int0 fun d e f h => by
    unfold gLt0 at h; split at h <;> first | (cases h; exact ⟨_, _, rfl, rfl, rfl, rfl⟩) | cases h).op
theorem o_le : Op2 X rLeA (g2 gLe0) := (o2_int0 fun d e f h => by
    unfold gLe0 at h; split at h <;> first | (cases h; exact ⟨_, _, rfl, rfl, rfl, rfl⟩) | cases h).op
theorem o_gt : Op2 X rGtA (g2 gGt0) := (o2_int0 fun d e f h => by
    unfold gGt0 at h; split at h <;> first | (cases h; exact ⟨_, _, rfl, rfl, rfl, rfl⟩) | cases h).op
theorem o_ge : Op2 X rGeA (g2 gGe0) := (o2_int0 fun d e f h => by
    unfold gGe0 at h; split at h <;> first | (cases h; exact ⟨_, _, rfl, rfl, rfl, rfl⟩) | cases h).op
def gEq0 : D → D → Option D
  | .str a, .str b => some (.bl (a == b))
  | d, e => if (okP 8 d && okP 8 e) = true then some (.bl (eqD d e)) else none
def gNe0 : D → D → Option D
  | .str a, .str b => some (.bl (!(a == b)))
  | d, e => if (okP 8 d && okP 8 e) = true then some (.bl (!eqD d e)) else none
theorem dec_str {a b : Str} : decide (V.str a = V.str b) = (a == b) := by
  rw [Bool.eq_iff_iff]
  simp
theorem o_eq : Op2 X (rEqA X.K) (g2 gEq0) := Op2R.op fun d e f h => by
  unfold gEq0 at h
  split at h
  · rename_i a b
    cases h
    refine ⟨rfl, fun H x y Q r1 r2 q => ?_⟩
    cases r1
    cases r2
    exact .inl ⟨rfl, by rw [dec_str]; exact q⟩
  · split at h
    · rename_i ok
      cases h
      rw [Bool.and_eq_true] at ok
      refine ⟨rfl, fun H x y Q r1 r2 q => .inr ⟨_, _, r1.dp ok.1, r2.dp ok.2, okP_shaped (by decide) ok.1, okP_shaped (by decide) ok.2, ?_⟩⟩
      rw [eqv_eqD ok.1 ok.2]
      exact q
    · cases h
theorem o_ne : Op2 X (rNeA X.K) (g2 gNe0) := Op2R.op fun d e f h => by
  unfold gNe0 at h
  split at h
  · rename_i a b
    cases h
    refine ⟨rfl, fun H x y Q r1 r2 q => ?_⟩
    cases r1
    cases r2
    exact .inl ⟨rfl, by rw [dec_str]; exact q⟩
  · split at h
    · rename_i ok
      cases h
      rw [Bool.and_eq_true] at ok
      refine ⟨rfl, fun H x y Q r1 r2 q => .inr ⟨_, _, r1.dp ok.1, r2.dp ok.2, okP_shaped (by decide) ok.1, okP_shaped (by decide) ok.2, ?_⟩⟩
      rw [eqv_eqD ok.1 ok.2]
      exact q
    · cases h
def isNon : D → Bool
  | .non => true | _ => false
def gIs0 : D → D → Option D
  | d, .non => some (.bl (isNon d))
  | .bl a, .bl b => some (.bl (decide (a = b)))
  | _, _ => none
def gNot0 : D → D → Option D
  | d, .non => some (.bl (!isNon d))
  | .bl a, .bl b => some (.bl (!decide (a = b)))
  | _, _ => none
theorem rep_non {x : V} (h : Rep K H x d) : decide (x = V.non) = isNon d := by cases h <;> rfl
theorem o_is : Op2 X rIsA (g2 gIs0) := Op2R.op fun d e f h => by
  unfold gIs0 at h
  split at h
  · cases h
    exact ⟨rfl, fun H x y Q r1 r2 q => by cases r2; exact .inl ⟨rfl, by rw [rep_non r1]; exact q⟩⟩
  · cases h
    exact ⟨rfl, fun H x y Q r1 r2 q => by cases r1; cases r2; exact .inr ⟨_, _, rfl, rfl, q⟩⟩
  · cases h
theorem o_not : Op2 X rNotA (g2 gNot0) := Op2R.op fun d e f h => by
  unfold gNot0 at h
  split at h
  · cases h
    exact ⟨rfl, fun H x y Q r1 r2 q => by cases r2; exact .inl ⟨rfl, by rw [rep_non r1]; exact q⟩⟩
  · cases h
    exact ⟨rfl, fun H x y Q r1 r2 q => by cases r1; cases r2; exact .inr ⟨_, _, rfl, rfl, q⟩⟩
  · cases h
/-- None, a truth, a whole number, a text -/
def scl : D → Bool
  | .non => true | .bl _ => true | .int _ => true | .str _ => true | _ => false
theorem scl_flat (h : Rep K H v d) (hs : scl d = true) : flatV v = true := by cases h <;> first | rfl | cases hs
theorem scl_eq {x y : V} (h1 : Rep K H x d) (h2 : Rep K H y e) (s1 : scl d = true) (s2 : scl e = true) : eqV y x = eqD e d := by
  cases h1 <;> first | (cases s1; done) | (cases h2 <;> first | (cases s2; done) | rfl)
theorem scls_flat : ∀ {vs : List V} {ds : List D}, Reps K H vs ds → ds.all scl = true → vs.all flatV = true
  | _, _, .nil, _ => rfl
  | _, _, .cons a b, h => by
    rw [List.all_cons, Bool.and_eq_true] at h
    rw [List.all_cons, scl_flat a h.1, scls_flat b h.2]
    rfl
theorem scls_in {x : V} (hx : Rep K H x d) (s : scl d = true) : ∀ {vs : List V} {ds : List D}, Reps K H vs ds → ds.all scl = true → inV x vs = ds.any (eqD · d)
  | _, _, .nil, _ => rfl
  | _, _, .cons a b, h => by
    rw [List.all_cons, Bool.and_eq_true] at h
    show (eqV _ x || inV x _) = _
    rw [scl_eq hx a s h.1, scls_in hx s b h.2]
    rfl
def listOf : D → Option (List D)
  | .lst ds => some ds | .tup ds => some ds | .rd ns => some (ns.map .int) | _ => none
theorem listOf_sq {ds : List D} (h : Rep K H v d) (e : listOf d = some ds) : ∃ p vs, v = .ref p ∧ (SqL K H p vs ∨ SqT K H p vs) ∧ Reps K H vs ds := by
  cases h with
  | lst hh rr => cases e; exact ⟨_, _, rfl, .inl (SqL.of hh), rr⟩
  | tup hh rr => cases e; exact ⟨_, _, rfl, .inr (SqT.of hh), rr⟩
  | rd hh => cases e; exact ⟨_, _, rfl, .inl hh, .of_ints _⟩
  | _ => cases e
def gIn0 (neg : Bool) (d e : D) : Option D := match d, e with
  | .str s, .str z => match s.cps.toList with
    | [c] => some (.bl (if neg then !decide (c ∈ z.cps.toList) else decide (c ∈ z.cps.toList)))
    | _ => none
  | d, e => match listOf e with
    | some ds => if (scl d && ds.all scl) = true then some (.bl (if neg then !ds.any (eqD · d) else ds.any (eqD · d))) else none
    | none => none
theorem o_in_gen (neg : Bool) : Op2 X (orR (rIn X.K neg) (rInS neg)) (g2 (gIn0 neg)) := Op2R.op fun d e f h => by
  unfold gIn0 at h
  split at h
  · rename_i s z
    split at h
    · rename_i c ec
      cases h
      refine ⟨rfl, fun H x y Q r1 r2 q => ?_⟩
      cases r1
      cases r2
      have e : s = ⟨#[c]⟩ := by
        cases s with
        | mk cps =>
          congr 1
          exact Array.toList_inj.mp ec
      exact .inr ⟨c, z, by rw [e], rfl, q⟩
    · cases h
  · split at h
    · rename_i ds el
      split at h
      · rename_i ok
        cases h
        rw [Bool.and_eq_true] at ok
        refine ⟨rfl, fun H x y Q r1 r2 q => ?_⟩
        obtain ⟨p, vs, rfl, hq, rr⟩ := listOf_sq r2 el
        refine .inl ⟨p, vs, rfl, hq, scl_flat r1 ok.1, scls_flat rr ok.2, ?_⟩
        rw [scls_in r1 ok.1 rr ok.2]
        exact q
      · cases h
    · cases h
theorem o_in : Op2 X (rInA X.K) (g2 (gIn0 false)) := o_in_gen false
theorem o_nin : Op2 X (rNinA X.K) (g2 (gIn0 true)) := o_in_gen true
/-! ### built-ins -/
def CB (X : Fx) (r : List V → Hp → VK → Prop) (g : List Kx → Option Kx) : Prop := ∀ as c, g as = some c → ∀ σ ρ τ H o vs, vs.length = as.length → OkX X σ ρ ((vs.zipWith tmp as).reverse ++ τ) H o → ∀ Q : VK, (∀ v H' o', OkX X σ ρ (tmp v c :: τ) H' o' → Q v H') → r vs H Q
def eCB (g : List Kx → Option Kx) (fs : FA) : FE := fun ρ => (fs ρ).bind fun as ρ1 => match g as with
  | some c => some (.val c ρ1) | none => none
theorem se_cb {r : List V → Hp → VK → Prop} {g : List Kx → Option Kx} (hr : CB X r g) (hs : SA X ts fs) : SE X (tCB r ts) (eCB g fs) := fun ρ z h σ τ H o I Q q => by
  have hx : ∀ x w, z = .exc x w → XW X x w := fun x w e => by subst e; exact q
  refine hs.bindG h I hx fun as ρ1 vs H1 o1 h1 l I1 => ?_
  cases e : g as with
  | none => rw [e] at h1; cases h1
  | some c =>
    rw [e] at h1
    cases h1
    exact hr as c e σ ρ1 τ H1 o1 vs l I1 Q q
/-- things looked at: a scalar -/
def CR (X : Fx) (r : List V → Hp → VK → Prop) (g : List D → Option D) : Prop := ∀ ds f, g ds = some f → isS f = true ∧ ∀ (H : Hp) (vs : List V) (Q : VK), Reps X.K H vs ds → Q (toV f) H → r vs H Q
def gC (g : List D → Option D) : List Kx → Option Kx := fun as => match g (as.map (·.2)) with
  | some f => some (.ow 0, f) | none => none
theorem CR.cb {r : List V → Hp → VK → Prop} {g : List D → Option D} (h : CR X r g) : CB X r (gC g) := fun as c e σ ρ τ H o vs l I Q q => by
  unfold gC at e
  cases e1 : g (as.map (·.2)) with
  | none => rw [e1] at e; cases e
  | some f =>
    rw [e1] at e
    cases e
    obtain ⟨o', I', ks⟩ := Ok.settles l I
    obtain ⟨h1, h2⟩ := h _ _ e1
    exact h2 H vs Q ks.rep (q _ H o' (I'.scal h1))
theorem CR.l {r r' : List V → Hp → VK → Prop} {g : List D → Option D} (h : CR X r g) : CR X (fun xs H Q => r xs H Q ∨ r' xs H Q) g := fun ds f e => ⟨(h ds f e).1, fun H vs Q rr q => .inl ((h ds f e).2 H vs Q rr q)⟩
theorem CR.r {r r' : List V → Hp → VK → Prop} {g : List D → Option D} (h : CR X r' g) : CR X (fun xs H Q => r xs H Q ∨ r' xs H Q) g := fun ds f e => ⟨(h ds f e).1, fun H vs Q rr q => .inr ((h ds f e).2 H vs Q rr q)⟩
noncomputable def lenD : D → Option Int
  | .lst ds => some ds.length
  | .tup ds => some ds.length
  | .rd ns => some ns.length
  | .str s => chk (s.length ≤ sizeLine) (some s.length)
  | _ => none
noncomputable def gLen : List D → Option D
  | [d] => (lenD d).map .int | _ => none
theorem c_len : CB X (rLen X.K) (gC gLen) := CR.cb fun ds f h => by
  unfold gLen at h
  split at h
  · rename_i d
    cases el : lenD d with
    | none => rw [el] at h; cases h
    | some n =>
      rw [el] at h
      cases h
      refine ⟨rfl, fun H vs Q rr q => ?_⟩
      cases rr with
      | cons a b =>
        cases b
        cases a with
        | lst hh rr => cases el; exact ⟨_, _, rfl, .inl ⟨_, SqL.of hh, rr.length.symm⟩, q⟩
        | tup hh rr => cases el; exact ⟨_, _, rfl, .inr ⟨_, SqT.of hh, rr.length.symm⟩, q⟩
        | rd hh => cases el; exact ⟨_, _, rfl, .inl ⟨_, hh, by rw [List.length_map]⟩, q⟩
        | str s =>
          obtain ⟨hs, el⟩ := chk_some (show chk (s.length ≤ sizeLine) (some (s.length : Int)) = some n from el)
          cases el
          exact ⟨_, _, rfl, ⟨hs, rfl⟩, q⟩
        | _ => cases el
  · cases h
def gAbs : List D → Option D
  | [.int i] => some (.int i.natAbs) | _ => none
theorem c_abs : CB X rAbs (gC gAbs) := CR.cb fun ds f h => by
  unfold gAbs at h
  split at h
  · rename_i i
    cases h
    refine ⟨rfl, fun H vs Q rr q => ?_⟩
    cases rr with
    | cons a b =>
      cases b
      cases a
      have e : (if i < 0 then -i else i) = (i.natAbs : Int) := by split <;> omega
      exact ⟨i, rfl, by rw [e]; exact q⟩
  · cases h
noncomputable def gInt : List D → Option D
  | [.int i] => some (.int i)
  | [.bl b] => some (.int (if b then 1 else 0))
  | [.str s] => chk (s.length ≤ 640) ((PySem.intText? s).map .int)
  | _ => none
theorem c_int : CB X rIntA (gC gInt) := CR.cb fun ds f h => by
  unfold gInt at h
  split at h
  · cases h
    exact ⟨rfl, fun H vs Q rr q => by cases rr with | cons a b => cases b; cases a; exact .inl ⟨_, rfl, q⟩⟩
  · cases h
    exact ⟨rfl, fun H vs Q rr q => by cases rr with | cons a b => cases b; cases a; exact .inr (.inl ⟨_, rfl, q⟩)⟩
  · rename_i s
    obtain ⟨hs, h⟩ := chk_some h
    cases et : PySem.intText? s with
    | none => rw [et] at h; cases h
    | some n =>
      rw [et] at h
      cases h
      exact ⟨rfl, fun H vs Q rr q => by cases rr with | cons a b => cases b; cases a; exact .inr (.inr ⟨_, _, rfl, et, hs, q⟩)⟩
  · cases h
noncomputable def gStr : List D → Option D
  | [.int i] => chk (i.natAbs.log2 < 1920) (some (.str (decI i)))
  | _ => none
theorem c_str : CB X rStrI (gC gStr) := CR.cb fun ds f h => by
  unfold gStr at h
  split at h
  · obtain ⟨hs, h⟩ := chk_some h
    cases h
    exact ⟨rfl, fun H vs Q rr q => by cases rr with | cons a b => cases b; cases a; exact ⟨_, rfl, hs, q⟩⟩
  · cases h
/-- the whole numbers of a list -/
def intsD : List D → Option (List Int)
  | [] => some []
  | .int n :: ds => match intsD ds with
    | some ns => some (n :: ns) | none => none
  | _ => none
theorem intsD_eq : ∀ {ds : List D} {ns : List Int}, intsD ds = some ns → ds = ns.map .int
  | [], _, h => by cases h; rfl
  | d :: ds, ns, h => by
    cases d with
    | int n =>
      replace h : (match intsD ds with | some ns => some (n :: ns) | none => none) = some ns := h
      cases e : intsD ds with
      | none => rw [e] at h; cases h
      | some ms =>
        rw [e] at h
        cases h
        rw [intsD_eq e]
        rfl
    | _ => cases h
theorem intsD_map : ∀ ns : List Int, intsD (ns.map .int) = some ns
  | [] => rfl
  | n :: ns => by
    show (match intsD (ns.map .int) with | some ns => some (n :: ns) | none => none) = _
    rw [intsD_map ns]
def blsD : List D → Option (List Bool)
  | [] => some []
  | .bl n :: ds => match blsD ds with
    | some ns => some (n :: ns) | none => none
  | _ => none
theorem blsD_eq : ∀ {ds : List D} {ns : List Bool}, blsD ds = some ns → ds = ns.map .bl
  | [], _, h => by cases h; rfl
  | d :: ds, ns, h => by
    cases d with
    | bl n =>
      replace h : (match blsD ds with | some ns => some (n :: ns) | none => none) = some ns := h
      cases e : blsD ds with
      | none => rw [e] at h; cases h
      | some ms =>
        rw [e] at h
        cases h
        rw [blsD_eq e]
        rfl
    | _ => cases h
theorem blsD_map : ∀ ns : List Bool, blsD (ns.map .bl) = some ns
  | [] => rfl
  | n :: ns => by
    show (match blsD (ns.map .bl) with | some ns => some (n :: ns) | none => none) = _
    rw [blsD_map ns]
def intsOf : D → Option (List Int)
  | .lst ds => intsD ds | .rd ns => some ns | _ => none
theorem intsOf_sq {ns : List Int} (h : Rep K H v d) (e : intsOf d = some ns) : ∃ p, v = .ref p ∧ SqL K H p (ns.map V.int) := by
  cases h with
  | lst hh rr => rw [intsD_eq e] at rr; exact ⟨_, rfl, by rw [← rr.ints]; exact SqL.of hh⟩
  | rd hh => cases e; exact ⟨_, rfl, hh⟩
  | _ => cases e
def gSum : List D → Option D
  | [d] => match intsOf d with
    | some ns => some (.int ns.sum) | none => none
  | _ => none
theorem c_sum : CB X (rSum X.K) (gC gSum) := CR.cb fun ds f h => by
  unfold gSum at h
  split at h
  · split at h
    · rename_i ns e
      cases h
      refine ⟨rfl, fun H vs Q rr q => ?_⟩
      cases rr with
      | cons a b =>
        cases b
        obtain ⟨p, rfl, hs⟩ := intsOf_sq a e
        exact ⟨p, ns, rfl, hs, q⟩
    · cases h
  · cases h
def blsOf : D → Option (List Bool)
  | .lst ds => blsD ds | _ => none
theorem blsOf_sq {ns : List Bool} (h : Rep K H v d) (e : blsOf d = some ns) : ∃ p, v = .ref p ∧ SqL K H p (ns.map V.bl) := by
  cases h with
  | lst hh rr => rw [blsD_eq e] at rr; exact ⟨_, rfl, by rw [← rr.bls]; exact SqL.of hh⟩
  | _ => cases e
def gAny : List D → Option D
  | [d] => match blsOf d with
    | some ns => some (.bl (ns.any id)) | none => none
  | _ => none
def gAll : List D → Option D
  | [d] => match blsOf d with
    | some ns => some (.bl (ns.all id)) | none => none
  | _ => none
theorem c_any : CB X (rAny X.K) (gC gAny) := CR.cb fun ds f h => by
  unfold gAny at h
  split at h
  · split at h
    · rename_i ns e
      cases h
      refine ⟨rfl, fun H vs Q rr q => ?_⟩
      cases rr with
      | cons a b =>
        cases b
        obtain ⟨p, rfl, hs⟩ := blsOf_sq a e
        exact ⟨p, ns, rfl, hs, q⟩
    · cases h
  · cases h
theorem c_all : CB X (rAll X.K) (gC gAll) := CR.cb fun ds f h => by
  unfold gAll at h
  split at h
  · split at h
    · rename_i ns e
      cases h
      refine ⟨rfl, fun H vs Q rr q => ?_⟩
      cases rr with
      | cons a b =>
        cases b
        obtain ⟨p, rfl, hs⟩ := blsOf_sq a e
        exact ⟨p, ns, rfl, hs, q⟩
    · cases h
  · cases h
/-- the greatest, the least of some numbers -/
def maxL : List Int → Int
  | [] => 0
  | n :: ns => ns.foldl max n
def minL : List Int → Int
  | [] => 0
  | n :: ns => ns.foldl min n
theorem foldl_max : ∀ (ns : List Int) (n : Int), (ns.foldl max n = n ∨ ns.foldl max n ∈ ns) ∧ n ≤ ns.foldl max n ∧ ∀ y, y ∈ ns → y ≤ ns.foldl max n
  | [], n => ⟨.inl rfl, Int.le_refl _, fun y h => nomatch h⟩
  | m :: ns, n => by
    obtain ⟨h1, h2, h3⟩ := foldl_max ns (max n m)
    refine ⟨?_, ?_, fun y hy => ?_⟩
    · show ns.foldl max (max n m) = n ∨ _
      rcases h1 with h1 | h1
      · rw [List.foldl_cons, h1]
        rcases Int.le_total n m with h | h
        · exact .inr (by rw [Int.max_eq_right h]; exact List.mem_cons_self ..)
        · exact .inl (Int.max_eq_left h)
      · exact .inr (List.mem_cons_of_mem _ h1)
    · rw [List.foldl_cons]; omega
    · rw [List.foldl_cons]
      rcases List.mem_cons.mp hy with rfl | hy
      · omega
      · exact h3 y hy
theorem foldl_min : ∀ (ns : List Int) (n : Int), (ns.foldl min n = n ∨ ns.foldl min n ∈ ns) ∧ ns.foldl min n ≤ n ∧ ∀ y, y ∈ ns → ns.foldl min n ≤ y
  | [], n => ⟨.inl rfl, Int.le_refl _, fun y h => nomatch h⟩
  | m :: ns, n => by
    obtain ⟨h1, h2, h3⟩ := foldl_min ns (min n m)
    refine ⟨?_, ?_, fun y hy => ?_⟩
    · show ns.foldl min (min n m) = n ∨ _
      rcases h1 with h1 | h1
      · rw [List.foldl_cons, h1]
        rcases Int.le_total n m with h | h
        · exact .inl (Int.min_eq_left h)
        · exact .inr (by rw [Int.min_eq_right h]; exact List.mem_cons_self ..)
      · exact .inr (List.mem_cons_of_mem _ h1)
    · rw [List.foldl_cons]; omega
    · rw [List.foldl_cons]
      rcases List.mem_cons.mp hy with rfl | hy
      · omega
      · exact h3 y hy
theorem maxL_mem {ns : List Int} (h : ns ≠ []) : maxL ns ∈ ns ∧ ∀ y, y ∈ ns → y ≤ maxL ns := by
  cases ns with
  | nil => exact absurd rfl h
  | cons n ns =>
    obtain ⟨h1, h2, h3⟩ := foldl_max ns n
    refine ⟨?_, fun y hy => ?_⟩
    · rcases h1 with h1 | h1
      · show ns.foldl max n ∈ _; rw [h1]; exact List.mem_cons_self ..
      · exact List.mem_cons_of_mem _ h1
    · rcases List.mem_cons.mp hy with rfl | hy
      · exact h2
      · exact h3 y hy
theorem minL_mem {ns : List Int} (h : ns ≠ []) : minL ns ∈ ns ∧ ∀ y, y ∈ ns → minL ns ≤ y := by
  cases ns with
  | nil => exact absurd rfl h
  | cons n ns =>
    obtain ⟨h1, h2, h3⟩ := foldl_min ns n
    refine ⟨?_, fun y hy => ?_⟩
    · rcases h1 with h1 | h1
      · show ns.foldl min n ∈ _; rw [h1]; exact List.mem_cons_self ..
      · exact List.mem_cons_of_mem _ h1
    · rcases List.mem_cons.mp hy with rfl | hy
      · exact h2
      · exact h3 y hy
noncomputable def gMax : List D → Option D
  | [d] => match intsOf d with
    | some ns => chk (ns ≠ []) (some (.int (maxL ns))) | none => none
  | [.int a, .int b] => some (.int (max a b))
  | _ => none
noncomputable def gMin : List D → Option D
  | [d] => match intsOf d with
    | some ns => chk (ns ≠ []) (some (.int (minL ns))) | none => none
  | [.int a, .int b] => some (.int (min a b))
  | _ => none
theorem c_max : CB X (rMaxA X.K) (gC gMax) := CR.cb fun ds f h => by
  unfold gMax at h
  split at h
  · split at h
    · rename_i ns e
      obtain ⟨hn, h⟩ := chk_some h
      cases h
      refine ⟨rfl, fun H vs Q rr q => ?_⟩
      cases rr with
      | cons a b =>
        cases b
        obtain ⟨p, rfl, hs⟩ := intsOf_sq a e
        refine .inl ⟨p, ns, rfl, hs, List.length_pos_iff.mpr hn, fun m hm hb => ?_⟩
        obtain ⟨h1, h2⟩ := maxL_mem hn
        rw [show m = maxL ns from Int.le_antisymm (h2 m hm) (hb _ h1)]
        exact q
    · cases h
  · rename_i a b
    cases h
    refine ⟨rfl, fun H vs Q rr q => ?_⟩
    cases rr with
    | cons r1 rr => cases rr with
      | cons r2 rr =>
        cases rr
        cases r1
        cases r2
        refine .inr ⟨a, b, rfl, ?_⟩
        rw [show (if b > a then b else a) = max a b from by split <;> omega]
        exact q
  · cases h
theorem c_min : CB X (rMinA X.K) (gC gMin) := CR.cb fun ds f h => by
  unfold gMin at h
  split at h
  · split at h
    · rename_i ns e
      obtain ⟨hn, h⟩ := chk_some h
      cases h
      refine ⟨rfl, fun H vs Q rr q => ?_⟩
      cases rr with
      | cons a b =>
        cases b
        obtain ⟨p, rfl, hs⟩ := intsOf_sq a e
        refine .inl ⟨p, ns, rfl, hs, List.length_pos_iff.mpr hn, fun m hm hb => ?_⟩
        obtain ⟨h1, h2⟩ := minL_mem hn
        rw [show m = minL ns from Int.le_antisymm (hb _ h1) (h2 m hm)]
        exact q
    · cases h
  · rename_i a b
    cases h
    refine ⟨rfl, fun H vs Q rr q => ?_⟩
    cases rr with
    | cons r1 rr => cases rr with
      | cons r2 rr =>
        cases rr
        cases r1
        cases r2
        refine .inr ⟨a, b, rfl, ?_⟩
        rw [show (if b < a then b else a) = min a b from by split <;> omega]
        exact q
  · cases h
/-! ### built-ins that make something -/
noncomputable def gDivmod : List Kx → Option Kx := fun as => match (as.map (·.2) : List D) with
  | [.int a, .int b] => chk (0 < b ∧ DivOk a b) (some (.ow 0, .tup [.int (a / b), .int (a % b)]))
  | _ => none
theorem c_divmod : CB X rDivmod gDivmod := fun as c e σ ρ τ H o vs l I Q q => by
  obtain ⟨o', I', ks⟩ := Ok.settles l I
  have rr := ks.rep
  unfold gDivmod at e
  split at e
  · rename_i a b ea
    obtain ⟨hc, e⟩ := chk_some e
    cases e
    rw [ea] at rr
    cases rr with
    | cons r1 rr => cases rr with
      | cons r2 rr =>
        cases rr
        cases r1
        cases r2
        exact ⟨a, b, rfl, ⟨hc.1, hc.2.2⟩, fun p hp => q _ _ o' (I'.stNew hp rfl fun H' e e2 => .tup e2 (.cons (.int _) (.cons (.int _) .nil)))⟩
  · cases e
/-- list(x), tuple(x): the things of it -/
def gList : List Kx → Option Kx := fun as => match as with
  | [a] => match listOf a.2 with
    | some ds => if itemsOk a ds = true then some (.ow 1, .lst ds) else some (.bw, .lst ds)
    | none => none
  | _ => none
def gTupOf : List Kx → Option Kx := fun as => match as with
  | [a] => match listOf a.2 with
    | some ds => if itemsOk a ds = true then some (.ow 0, .tup ds) else some (.bw, .tup ds)
    | none => none
  | _ => none
theorem Known.its {ds : List D} (I : Ok K B H0 Hf σ ρ τ H o) (h : Known K H (Av B o) v a) (e : listOf a.2 = some ds) : ∃ p vs, v = .ref p ∧ (SqL K H p vs ∨ SqT K H p vs) ∧ Reps K H vs ds ∧ (itemsOk a ds = true → Reps K (del H (Av B o)) vs ds) := by
  obtain ⟨k, d⟩ := a
  cases k with
  | bw =>
    have r : Rep K H v d := h
    obtain ⟨p, vs, rfl, hq, rr⟩ := listOf_sq r e
    exact ⟨p, vs, rfl, hq, rr, fun ok => Reps.flat (keep_av I) rr ok⟩
  | ow k =>
    have r : Rep K (del H (Av B o)) v d := h
    cases r with
    | lst hh rr => cases e; exact ⟨_, _, rfl, .inl (SqL.of (del_some.mp hh).2), rr.mono (del_same _ _), fun _ => rr⟩
    | tup hh rr => cases e; exact ⟨_, _, rfl, .inr (SqT.of (del_some.mp hh).2), rr.mono (del_same _ _), fun _ => rr⟩
    | rd hh => cases e; exact ⟨_, _, rfl, .inl ((del_same _ _).seq hh), .of_ints _, fun _ => .of_ints _⟩
    | _ => cases e
theorem c_list : CB X (rListA X.K) gList := fun as c e σ ρ τ H o vs l I Q q => by
  obtain ⟨o', I', ks⟩ := Ok.settles l I
  unfold gList at e
  split at e
  · rename_i a
    cases ks with
    | cons ka ks =>
      cases ks
      split at e
      · rename_i ds el
        obtain ⟨p, ws, rfl, hq, rr, st⟩ := ka.its I' el
        split at e
        · rename_i ok
          cases e
          exact ⟨p, ws, rfl, hq, fun p hp => q _ _ _ (I'.lsNew hp (st ok))⟩
        · cases e
          exact ⟨p, ws, rfl, hq, fun p hp => q _ _ o' ((I'.grow (same_upd _ hp)).push (t := tmp (.ref p) (.bw, .lst ds)) (.lst upd_same (rr.mono (same_upd _ hp))))⟩
      · cases e
  · cases e
/-- tuple(x) of a list -/
def lstOf : D → Option (List D)
  | .lst ds => some ds | _ => none
def gTupL : List Kx → Option Kx := fun as => match as with
  | [a] => match lstOf a.2 with
    | some ds => if itemsOk a ds = true then some (.ow 0, .tup ds) else some (.bw, .tup ds)
    | none => none
  | _ => none
theorem lstOf_eq {ds : List D} (h : lstOf d = some ds) : d = .lst ds := by
  unfold lstOf at h
  split at h
  · cases h; rfl
  · cases h
theorem c_tuple : CB X (rTupA X.K) gTupL := fun as c e σ ρ τ H o vs l I Q q => by
  obtain ⟨o', I', ks⟩ := Ok.settles l I
  unfold gTupL at e
  split at e
  · rename_i a
    cases ks with
    | cons ka ks =>
      cases ks
      split at e
      · rename_i ds el
        have ea := lstOf_eq el
        have ra := ka.rep
        rw [ea] at ra
        cases ra with
        | lst hh rr =>
          split at e
          · rename_i ok
            cases e
            obtain ⟨_, _, e1, g1, s1⟩ := ka.items I' ea ok
            cases e1
            exact ⟨_, _, rfl, .inl ⟨SqL.of g1, fun p hp => q _ _ o' (I'.stNew hp rfl fun H' e e2 => .tup e2 (s1.mono e))⟩⟩
          · cases e
            exact ⟨_, _, rfl, .inl ⟨SqL.of hh, fun p hp => q _ _ o' ((I'.grow (same_upd _ hp)).push (t := tmp (.ref p) (.bw, .tup ds)) (.tup upd_same (rr.mono (same_upd _ hp))))⟩⟩
      · cases e
  · cases e
theorem op_repA : Op2 X rRep gRep := fun a b c e σ ρ τ H o x y I Q q => by
  obtain ⟨o', I', ka, kb⟩ := I.settle2
  unfold gRep at e
  split at e
  · rename_i ds n ea eb
    have rb := kb.rep
    rw [eb] at rb
    cases rb
    split at e
    · rename_i ok
      obtain ⟨hz, e⟩ := chk_some e
      cases e
      obtain ⟨_, _, e1, g1, s1⟩ := ka.items I' ea ok
      cases e1
      exact ⟨_, n, _, rfl, rfl, g1, hz.1, hz.2.1, by rw [s1.length]; exact hz.2.2, fun p hp => q _ _ _ (I'.lsNew hp (s1.rep _))⟩
    · cases e
  · cases e
theorem o_mul : Op2 X rMulA gMul := .gor (.l (o2_int fun d e f h => by
    unfold gMul0 at h
    split at h
    · obtain ⟨hc, h⟩ := chk_some h; cases h; exact ⟨_, _, rfl, rfl, hc, rfl, rfl⟩
    · cases h).op) (.r (.gor (.l op_repA) (.r (Op2R.op fun d e f h => by
    unfold gMulS0 at h
    split at h
    · rename_i s n
      obtain ⟨hz, h⟩ := chk_some h
      cases h
      exact ⟨rfl, fun H x y Q r1 r2 q => by cases r1; cases r2; exact ⟨s, n, rfl, rfl, hz, q⟩⟩
    · cases h))))
/-- sorted: whole numbers, fewer than 64 -/
def insI (n : Int) : List Int → List Int
  | [] => [n]
  | m :: ms => if n ≤ m then n :: m :: ms else m :: insI n ms
def sortI : List Int → List Int
  | [] => []
  | n :: ns => insI n (sortI ns)
theorem insI_perm (n : Int) : ∀ ms : List Int, (insI n ms).Perm (n :: ms)
  | [] => .refl _
  | m :: ms => by
    unfold insI
    split
    · exact .refl _
    · exact ((insI_perm n ms).cons m).trans (List.Perm.swap ..)
theorem sortI_perm : ∀ ns : List Int, (sortI ns).Perm ns
  | [] => .refl _
  | n :: ns => (insI_perm n _).trans ((sortI_perm ns).cons n)
theorem insI_sorted (n : Int) : ∀ {ms : List Int}, ms.Pairwise (· ≤ ·) → (insI n ms).Pairwise (· ≤ ·)
  | [], _ => List.pairwise_singleton ..
  | m :: ms, h => by
    rw [List.pairwise_cons] at h
    unfold insI
    split
    · rename_i hn
      exact List.pairwise_cons.mpr ⟨fun y hy => by
        rcases List.mem_cons.mp hy with rfl | hy
        · exact hn
        · exact Int.le_trans hn (h.1 y hy), List.pairwise_cons.mpr h⟩
    · rename_i hn
      refine List.pairwise_cons.mpr ⟨fun y hy => ?_, insI_sorted n h.2⟩
      rcases List.mem_cons.mp ((insI_perm n ms).mem_iff.mp hy) with rfl | hy
      · omega
      · exact h.1 y hy
theorem sortI_sorted : ∀ ns : List Int, (sortI ns).Pairwise (· ≤ ·)
  | [] => .nil
  | n :: ns => insI_sorted n (sortI_sorted ns)
noncomputable def gSorted : List Kx → Option Kx := fun as => match as with
  | [a] => match intsOf a.2 with
    | some ns => chk (ns.length < 64) (some (.ow 1, .lst ((sortI ns).map .int))) | none => none
  | _ => none
theorem c_sorted : CB X (rSorted X.K) gSorted := fun as c e σ ρ τ H o vs l I Q q => by
  obtain ⟨o', I', ks⟩ := Ok.settles l I
  unfold gSorted at e
  split at e
  · rename_i a
    cases ks with
    | cons ka ks =>
      cases ks
      split at e
      · rename_i ns el
        obtain ⟨hl, e⟩ := chk_some e
        cases e
        obtain ⟨p, rfl, hs⟩ := intsOf_sq ka.rep el
        refine ⟨p, ns, rfl, hs, hl, fun ms p hp hs' hn => ?_⟩
        have e : ms = sortI ns := PySem.W.ksm_same (hp.trans (sortI_perm ns).symm) hs' (sortI_sorted ns)
        subst e
        exact q _ _ _ (I'.lsNew hn (.of_ints _))
      · cases e
  · cases e
/-! ### slices -/
def cutD (xs : List D) (lo hi : Option Int) : List D := (xs.drop (HT.sIx xs.length 0 lo)).take (HT.sIx xs.length xs.length hi - HT.sIx xs.length 0 lo)
theorem Reps.cut {vs : List V} {ds : List D} (r : Reps K H vs ds) (lo hi : Option Int) : Reps K H (cutV vs lo hi) (cutD ds lo hi) := by
  unfold cutV cutD
  rw [r.length]
  exact (r.drop _).take _
noncomputable def gSl (a : Kx) (lo hi : Option Int) : Option Kx := match a.2 with
  | .str s => chk (s.length ≤ sizeLine) (some (.ow 0, .str (cutS s lo hi)))
  | .lst ds => if itemsOk a ds = true then some (.ow 1, .lst (cutD ds lo hi)) else some (.bw, .lst (cutD ds lo hi))
  | .rd ns => some (.ow 1, .lst (cutD (ns.map .int) lo hi))
  | _ => none
def oNo : FO := fun ρ => some (.val none ρ)
def oSome (fe : FE) : FO := fun ρ => (fe ρ).bind fun a ρ1 => match a.2 with
  | .int n => some (.val (some n) ρ1) | _ => none
theorem so_no : SO X tNoPart oNo := fun ρ z h σ τ H o I Q q => by cases h; exact q H o I
theorem so_some (he : SE X te fe) : SO X (tPart te) (oSome fe) := fun ρ z h σ τ H o I Q q => by
  have hx : ∀ x w, z = .exc x w → XW X x w := fun x w e => by subst e; exact q
  refine he.bindG h I hx fun a ρ1 x H1 o1 h1 I1 => ?_
  have ra := tmp_rep I1.top
  split at h1
  · rename_i n en
    rw [en] at ra
    cases ra
    cases h1
    exact ⟨n, rfl, q H1 o1 I1.pop⟩
  · cases h1
theorem SO.bindG {β : Type} {fo : FO} {to : TO} (h : SO X to fo) {g : Option Int → Env → R β} {z : Rs β} (e : (fo ρ).bind g = some z) (I : OkX X σ ρ τ H o) {P : Option Int → Hp → Prop} (hx : ∀ x w, z = .exc x w → XW X x w)
    (q : ∀ a ρ' H' o', g a ρ' = some z → OkX X σ ρ' τ H' o' → P a H') : to σ H P := by
  rcases R.bind_some e with ⟨x, w, e1, rfl⟩ | ⟨a, ρ', e1, e2⟩
  · exact h ρ _ e1 σ τ H o I P (hx x w rfl)
  · exact h ρ _ e1 σ τ H o I P fun H' o' J => q a ρ' H' o' e2 J
noncomputable def eSl (fe : FE) (fl fh : FO) : FE := fun ρ => (fe ρ).bind fun a ρ1 => (fl ρ1).bind fun lo ρ2 => (fh ρ2).bind fun hi ρ3 => match gSl a lo hi with
  | some c => some (.val c ρ3) | none => none
theorem se_sl {fl fh : FO} {tl th : TO} (he : SE X te fe) (hl : SO X tl fl) (hh : SO X th fh) : SE X (tSl (rSlA X.K) te tl th) (eSl fe fl fh) := fun ρ z h σ τ H o I Q q => by
  have hx : ∀ x w, z = .exc x w → XW X x w := fun x w e => by subst e; exact q
  refine he.bindG h I hx fun a ρ1 x H1 o1 h1 I1 => hl.bindG h1 I1 hx fun lo ρ2 H2 o2 h2 I2 => hh.bindG h2 I2 hx fun hi ρ3 H3 o3 h3 I3 => ?_
  cases eg : gSl a lo hi with
  | none => rw [eg] at h3; cases h3
  | some c =>
    rw [eg] at h3
    cases h3
    obtain ⟨o4, I4, ka⟩ := I3.settle1
    unfold gSl at eg
    split at eg
    · rename_i s es
      obtain ⟨hs, eg⟩ := chk_some eg
      cases eg
      have ra := ka.rep
      rw [es] at ra
      cases ra
      exact .inr ⟨s, rfl, hs, q _ H3 o4 (I4.scal (d := .str _) rfl)⟩
    · rename_i ds es
      have ra := ka.rep
      rw [es] at ra
      cases ra with
      | lst hh rr =>
        split at eg
        · rename_i ok
          cases eg
          obtain ⟨_, _, e1, g1, s1⟩ := ka.items I4 es ok
          cases e1
          exact .inl ⟨_, _, rfl, SqL.of g1, fun p hp => q _ _ _ (I4.lsNew hp (s1.cut lo hi))⟩
        · cases eg
          exact .inl ⟨_, _, rfl, SqL.of hh, fun p hp => q _ _ o4 ((I4.grow (same_upd _ hp)).push (t := tmp (.ref p) (.bw, .lst (cutD ds lo hi))) (.lst upd_same ((rr.cut lo hi).mono (same_upd _ hp))))⟩
    · rename_i ns es
      cases eg
      have ra := ka.rep
      rw [es] at ra
      cases ra with
      | rd hh => exact .inl ⟨_, _, rfl, hh, fun p hp => q _ _ _ (I4.lsNew hp ((Reps.of_ints ns).cut lo hi))⟩
    · cases eg
/-- x[::-1] -/
def gRevL (a : Kx) : Option Kx := match listOf a.2, a.2 with
  | some _, .tup _ => none
  | some ds, _ => if itemsOk a ds = true then some (.ow 1, .lst ds.reverse) else some (.bw, .lst ds.reverse)
  | none, _ => none
theorem Reps.reverse {vs : List V} {ds : List D} (h : Reps K H vs ds) : Reps K H vs.reverse ds.reverse := by
  induction vs generalizing ds with
  | nil => cases h; exact .nil
  | cons v vs ih =>
    cases h with
    | cons a b =>
      rw [List.reverse_cons, List.reverse_cons]
      exact (ih b).append (.cons a .nil)
def eRevL (fe : FE) : FE := fun ρ => (fe ρ).bind fun a ρ1 => match gRevL a with
  | some c => some (.val c ρ1) | none => none
theorem se_revL (he : SE X te fe) : SE X (tRevL X.K te) (eRevL fe) := fun ρ z h σ τ H o I Q q => by
  have hx : ∀ x w, z = .exc x w → XW X x w := fun x w e => by subst e; exact q
  refine he.bindG h I hx fun a ρ1 x H1 o1 h1 I1 => ?_
  cases eg : gRevL a with
  | none => rw [eg] at h1; cases h1
  | some c =>
    rw [eg] at h1
    cases h1
    obtain ⟨o4, I4, ka⟩ := I1.settle1
    obtain ⟨k, d⟩ := a
    unfold gRevL at eg
    dsimp only at eg
    cases d with
    | lst ds =>
      replace eg : (if itemsOk (k, .lst ds) ds = true then some ((.ow 1 : Kv), D.lst ds.reverse) else some (.bw, .lst ds.reverse)) = some c := eg
      have ra := ka.rep
      cases ra with
      | lst hh rr =>
        split at eg
        · rename_i ok
          cases eg
          obtain ⟨_, _, e1, g1, s1⟩ := ka.items I4 rfl ok
          cases e1
          exact ⟨_, _, rfl, SqL.of g1, fun p hp => q _ _ _ (I4.lsNew hp s1.reverse)⟩
        · cases eg
          exact ⟨_, _, rfl, SqL.of hh, fun p hp => q _ _ o4 ((I4.grow (same_upd _ hp)).push (t := tmp (.ref p) (.bw, .lst ds.reverse)) (.lst upd_same (rr.reverse.mono (same_upd _ hp))))⟩
    | rd ns =>
      replace eg : (if itemsOk (k, .rd ns) (ns.map .int) = true then some ((.ow 1 : Kv), D.lst (ns.map D.int).reverse) else some (.bw, .lst (ns.map D.int).reverse)) = some c := eg
      have ra := ka.rep
      cases ra with
      | rd hh =>
        split at eg
        · cases eg
          exact ⟨_, _, rfl, hh, fun p hp => q _ _ _ (I4.lsNew hp (Reps.of_ints ns).reverse)⟩
        · cases eg
          exact ⟨_, _, rfl, hh, fun p hp => q _ _ o4 ((I4.grow (same_upd _ hp)).push (t := tmp (.ref p) (.bw, .lst (ns.map D.int).reverse)) (.lst upd_same ((Reps.of_ints ns).reverse.mono (same_upd _ hp))))⟩
    | _ => cases eg
/-! ### isinstance with a built-in type -/
def tyD : D → Option String
  | .non => some "NoneType" | .bl _ => some "bool" | .int _ => some "int" | .str _ => some "str" | .lst _ => some "list" | .tup _ => some "tuple" | .dic _ => some "dict" | _ => none
theorem rep_ty {t : String} (h : Rep K H v d) (e : tyD d = some t) : TyX K H v (.type t) := by
  cases h with
  | non => cases e; exact .base .non
  | bl b => cases e; exact .base (.bl b)
  | int b => cases e; exact .base (.int b)
  | str b => cases e; exact .base (.str b)
  | lst h _ => cases e; exact .base (.lst h)
  | tup h _ => cases e; exact .base (.tup h)
  | dic h _ => cases e; exact .base (.dK h)
  | _ => cases e
def gIsi : List D → Option D
  | [d, .ty n] => match tyD d with
    | some t => (kitB t n).map .bl | none => none
  | _ => none
theorem c_isi_CR : CR X (rIsi X.K) gIsi := fun ds f h => by
  unfold gIsi at h
  split at h
  · rename_i d n
    split at h
    · rename_i t et
      cases ek : kitB t n with
      | none => rw [ek] at h; cases h
      | some b =>
        rw [ek] at h
        cases h
        refine ⟨rfl, fun H vs Q rr q => ?_⟩
        cases rr with
        | cons r1 rr => cases rr with
          | cons r2 rr =>
            cases rr
            cases r2
            exact ⟨_, .ty n, .type t, .type n, b, rfl, .ty n, rep_ty r1 et, kit_ty ek, q⟩
    · cases h
  · cases h
theorem c_isi : CB X (rIsi X.K) (gC gIsi) := c_isi_CR.cb
end
end P

namespace P
open PySem L2
/-- a list, a tuple, the signs of a text -/
def iAny (K : PySem.W.Frag) (te : TE) : TI := fun σ H R => iList K te σ H R ∨ iTup K te σ H R ∨ iStr te σ H R
theorem PI.or {X : Cx} {tg e : Expr} {wi wi' : TI} (h : PI X tg e wi) (h' : PI X tg e wi') : PI X tg e (fun σ H R => wi σ H R ∨ wi' σ H R) :=
  ⟨fun pins s σ H R I q => q.elim (h.run pins s σ H R I) (h'.run pins s σ H R I)⟩
theorem pi_any {X : Cx} {K : PySem.W.Frag} {tg e : Expr} {te : TE} (h : X.K = K) (he : PE X e te) : PI X tg e (iAny K te) := h ▸ PI.or (pi_list he) (PI.or (pi_tup he) (pi_str he))
theorem pi_zipA {X : Cx} {K : PySem.W.Frag} {e e2 : Expr} {ta : TA} {p pos tpos : Pos} {elts : List Expr} {kk : Nat} (h : X.K = K) (hg : Gl X "zip") (hm : X.mg "zip" = none) (ha : PA X [e, e2] ta)
    (hs : starEach [e, e2] X.env = (false, eval e X.env) :: starEach [e2] X.env := by rfl) (hpl : (backTo pos (starEach [e2] X.env)).any (·.1) = false := by rfl) :
    PI X (.Tuple elts kk tpos) (.Call (.Name "zip" p) [e, e2] [] pos) (iZip K ta) := h ▸ pi_zip hg hm ha hs hpl
section
variable {X : Fx} {K : PySem.W.Frag} {B B' : Addr → Prop} {H0 H H' : Hp} {Hf : Bg} {σ σ' : St} {ρ ρ' : Env} {τ τ' : List T} {o o' : Own} {v w : V} {d e : D} {ta tb tc te to : TE} {fa fb fc fe : FE} {ts : TA} {fs : FA} {a b : Kx} {k : Nat}
abbrev sgn (c : Nat) : D := .str ⟨#[c]⟩
def seqOf (a : Kx) : Option (List D) := match a with
  | (.ow _, .lst ds) => some ds
  | (.ow _, .rd ns) => some (ns.map .int)
  | (.ow _, .tup ds) => some ds
  | (.bw, .tup ds) => if flats ds = true then some ds else none
  | (_, .str s) => some (s.cps.toList.map sgn)
  | _ => none
theorem walks_t {p : Addr} {ds : List D} : Walks X (Itt X.K p) ds [(.ref p, .tup ds)] := fun σ ρ τ H o i I hW => by
  have r := hW _ (List.mem_cons_self ..)
  cases r with
  | tup hh rr =>
    have hq : SqT X.K H p _ := SqT.of (del_some.mp hh).2
    refine ⟨fun hi => ⟨_, hq, by rw [rr.length]; exact hi⟩, fun d hd => ?_⟩
    obtain ⟨x, e1, e2⟩ := rr.get' hd
    refine ⟨⟨_, x, hq, e1⟩, fun x' H' y => ?_⟩
    obtain ⟨rfl, y⟩ := y
    have e := y _ hq
    rw [e1] at e
    cases e
    exact ⟨Same.refl _, I.stab e2⟩
theorem walks_s {x : Str} : Walks X (Its x) (x.cps.toList.map sgn) [] := fun σ ρ τ H o i I hW => by
  refine ⟨fun hi => ?_, fun d' hd' => ?_⟩
  · show x.cps.size ≤ i
    rw [List.length_map, Array.length_toList] at hi
    exact hi
  · rw [List.getElem?_map, Array.getElem?_toList] at hd'
    cases ec : x.cps[i]? with
    | none => rw [ec] at hd'; cases hd'
    | some k =>
      rw [ec] at hd'
      cases hd'
      refine ⟨?_, fun v H'' yy => ?_⟩
      · show i < x.cps.size
        exact (Array.getElem?_eq_some_iff.mp ec).1
      · obtain ⟨rfl, k', ek, rfl⟩ := yy
        rw [ec] at ek
        cases ek
        exact ⟨Same.refl _, I.stab (.str _)⟩
def iSeq (fe : FE) : FI := fun ρ => (fe ρ).bind fun a ρ1 => match seqOf a with
  | some ds => some (.val ds ρ1) | none => none
theorem si_any (he : SE X te fe) : SI X (iAny X.K te) (iSeq fe) := fun ρ z h σ τ H o I Q q => by
  have hx : ∀ x w, z = .exc x w → XW X x w := fun x w e => by subst e; exact q
  unfold iSeq at h
  rcases R.bind_some h with ⟨x, w, e1, rfl⟩ | ⟨a, ρ1, e1, h1⟩
  · exact .inl (he ρ _ e1 σ τ H o I _ q)
  cases e : seqOf a with
  | none => rw [e] at h1; cases h1
  | some ds =>
    rw [e] at h1
    cases h1
    unfold seqOf at e
    split at e
    · cases e
      refine .inl (he ρ _ e1 σ τ H o I _ fun v H1 o1 I1 => ?_)
      obtain ⟨o2, I2, ka⟩ := I1.settle1
      have r : Rep X.K (del H1 (Av X.B o2)) v (.lst ds) := ka
      cases r with
      | lst hh rr =>
        refine ⟨_, rfl, ⟨_, SqL.of (del_some.mp hh).2⟩, q _ _ H1 o2 walks_l I2 fun p hp => ?_⟩
        rw [List.mem_singleton.mp hp]
        exact .lst hh rr
    · rename_i ns
      cases e
      refine .inl (he ρ _ e1 σ τ H o I _ fun v H1 o1 I1 => ?_)
      obtain ⟨o2, I2, ka⟩ := I1.settle1
      have r : Rep X.K (del H1 (Av X.B o2)) v (.rd ns) := ka
      cases r with
      | rd hh =>
        refine ⟨_, rfl, ⟨_, (del_same _ _).seq hh⟩, q _ _ H1 o2 walks_rd I2 fun p hp => ?_⟩
        rw [List.mem_singleton.mp hp]
        exact .rd hh
    · cases e
      refine .inr (.inl (he ρ _ e1 σ τ H o I _ fun v H1 o1 I1 => ?_))
      obtain ⟨o2, I2, ka⟩ := I1.settle1
      have r : Rep X.K (del H1 (Av X.B o2)) v (.tup ds) := ka
      cases r with
      | tup hh rr =>
        refine ⟨_, rfl, ⟨_, SqT.of (del_some.mp hh).2⟩, q _ _ H1 o2 walks_t I2 fun p hp => ?_⟩
        rw [List.mem_singleton.mp hp]
        exact .tup hh rr
    · rename_i es
      split at e
      · rename_i hf
        cases e
        refine .inr (.inl (he ρ _ e1 σ τ H o I _ fun v H1 o1 I1 => ?_))
        obtain ⟨o2, I2, ka⟩ := I1.settle1
        have r : Rep X.K H1 v (.tup ds) := ka
        have r' : Rep X.K (del H1 (Av X.B o2)) v (.tup ds) := r.flat (keep_av I2) hf
        cases r' with
        | tup hh rr =>
          refine ⟨_, rfl, ⟨_, SqT.of (del_some.mp hh).2⟩, q _ _ H1 o2 walks_t I2 fun p hp => ?_⟩
          rw [List.mem_singleton.mp hp]
          exact .tup hh rr
      · cases e
    · rename_i kk s
      cases e
      refine .inr (.inr (he ρ _ e1 σ τ H o I _ fun v H1 o1 I1 => ?_))
      have r := tmp_rep I1.top
      cases r
      exact ⟨s, rfl, q _ [] H1 o1 walks_s I1.pop fun p hp => nomatch hp⟩
    · cases e
/-! ### zip -/
def zipD (ds es : List D) : List D := (ds.zip es).map fun p => .tup [p.1, p.2]
theorem walks_zip {p p' : Addr} {d e : D} {ds es : List D} (hd : lstD (.ow 0, d) = some ds) (he : lstD (.ow 0, e) = some es) : Walks X (Itz X.K p p') (zipD ds es) [(.ref p, d), (.ref p', e)] := fun σ ρ τ H o i I hW => by
  have get : ∀ (a : Addr) (d : D) (ds : List D), lstD (.ow 0, d) = some ds → Rep X.K (del H (Av X.B o)) (.ref a) d → ∃ vs, SqL X.K H a vs ∧ Reps X.K (del H (Av X.B o)) vs ds := fun a d ds hd rv => by
    cases rv with
    | lst hh rr => cases hd; exact ⟨_, SqL.of (del_some.mp hh).2, rr⟩
    | rd hh => cases hd; exact ⟨_, (del_same _ _).seq hh, .of_ints _⟩
    | _ => cases hd
  obtain ⟨vs, hq, rr⟩ := get p d ds hd (hW _ (List.mem_cons_self ..))
  obtain ⟨ws, hq', rr'⟩ := get p' e es he (hW _ (List.mem_cons_of_mem _ (List.mem_cons_self ..)))
  refine ⟨fun hi => ⟨vs, ws, hq, hq', ?_⟩, fun y hy => ?_⟩
  · unfold zipD at hi
    rw [List.length_map, List.length_zip] at hi
    rw [rr.length, rr'.length]
    omega
  · unfold zipD at hy
    rw [List.getElem?_map] at hy
    cases ez : (ds.zip es)[i]? with
    | none => rw [ez] at hy; cases hy
    | some z =>
      rw [ez] at hy
      cases hy
      obtain ⟨e1, e2⟩ := List.getElem?_zip_eq_some.mp ez
      obtain ⟨x, f1, f2⟩ := rr.get' e1
      obtain ⟨x', g1, g2⟩ := rr'.get' e2
      refine ⟨⟨vs, ws, x, x', hq, hq', f1, g1⟩, fun v H' y => ?_⟩
      obtain ⟨T, y1, y2, rfl, hT, rfl, q1, q2⟩ := y
      have k1 := q1 vs hq
      have k2 := q2 ws hq'
      rw [f1] at k1
      rw [g1] at k2
      cases k1
      cases k2
      exact ⟨same_upd _ hT, I.stNew hT rfl fun H' e e2 => .tup e2 (.cons (f2.mono e) (.cons (g2.mono e) .nil))⟩
theorem lstD_ow {d : D} {k : Nat} : lstD (.ow k, d) = lstD (.ow 0, d) := by cases d <;> rfl
def iZ (fa fb : FE) : FI := fun ρ => (fa ρ).bind fun a ρ1 => (fb ρ1).bind fun b ρ2 => match lstD a, lstD b with
  | some ds, some es => some (.val (zipD ds es) ρ2)
  | _, _ => none
theorem si_zip (ha : SE X ta fa) (hb : SE X tb fb) : SI X (iZip X.K (tCons ta (tCons tb tNil))) (iZ fa fb) := fun ρ z h σ τ H o I Q q => by
  have hx : ∀ x w, z = .exc x w → XW X x w := fun x w e => by subst e; exact q
  refine ha.bindI h I hx fun a ρ1 v H1 o1 h1 I1 => hb.bindI h1 I1 hx fun b ρ2 w H2 o2 h2 I2 => ?_
  obtain ⟨o', I', ka, kb⟩ := I2.settle2
  obtain ⟨k1, d1⟩ := a
  obtain ⟨k2, d2⟩ := b
  split at h2
  · rename_i ds es ea eb
    cases h2
    cases k1 with
    | bw => cases ea
    | ow k1 =>
    cases k2 with
    | bw => cases eb
    | ow k2 =>
    rw [lstD_ow] at ea eb
    have ra : Rep X.K (del H2 (Av X.B o')) v d1 := ka
    have rb : Rep X.K (del H2 (Av X.B o')) w d2 := kb
    have get : ∀ (x : V) (d : D) (ds : List D), lstD (.ow 0, d) = some ds → Rep X.K (del H2 (Av X.B o')) x d → ∃ a vs, x = .ref a ∧ SqL X.K H2 a vs := fun a d ds hd rv => by
      cases rv with
      | lst hh rr => exact ⟨_, _, rfl, SqL.of (del_some.mp hh).2⟩
      | rd hh => exact ⟨_, _, rfl, (del_same _ _).seq hh⟩
      | _ => cases hd
    obtain ⟨p, xs, rfl, hx⟩ := get _ d1 ds ea ra
    obtain ⟨p', ys, rfl, hy⟩ := get _ d2 es eb rb
    refine ⟨p, p', xs, ys, rfl, hx, hy, q _ _ H2 o' (walks_zip ea eb) I' fun z hz => ?_⟩
    rcases List.mem_cons.mp hz with rfl | hz
    · exact ra
    · rw [List.mem_singleton.mp hz]
      exact rb
  · cases h2
/-! ### a name that is let go at once -/
def gF (i : Nat) : FG := fun a ρ => match a.1 with
  | .ow _ => some (ρ.set i (.ow 0 a.2)) | .bw => if flat a.2 = true then some (ρ.set i (.ow 0 a.2)) else none
theorem sg_nameF {i : Nat} {js : List Nat} (hi : i ∈ js) : SG X js (gName i) (gF i) := fun a ρ ρ' h σ τ H o v I Q q => by
  obtain ⟨o', I', ka⟩ := I.settle1
  obtain ⟨k, d⟩ := a
  cases k with
  | ow k => cases h; exact q _ H _ (Ok.set (k := 0) (I'.stab ka) i) (.of_set _ _ _ hi)
  | bw =>
    unfold gF at h
    dsimp only at h
    split at h
    · rename_i hf
      cases h
      exact q _ H _ (Ok.set (I.pop.flatP (tmp_rep I.top) hf) i) (.of_set _ _ _ hi)
    · cases h
end
end P

namespace P
open PySem L2
/-- an own class of errors without __init__ -/
structure ErrC (K : PySem.W.Frag) (mg : Str → Option Value) (x : Str) : Prop where
  ex : ∃ C, mg x = some (.ref C) ∧ PySem.W.nsIn K mainGlobals x = some (some (.ref C)) ∧ PySem.W.excIn K C [.type "ValueError", .type "Exception", .type "BaseException", .type "object"] "ValueError.__new__" = true ∧ PySem.W.keepIn K (.ref C) = true ∧ PySem.W.subIn K (.ref C) (.type "BaseException") = some true ∧ PySem.W.typeIn K (.ref C) = some (.type "type")
def tRaiseN (K : PySem.W.Frag) (x : Str) (W : WX) : TS := fun _ σ H => ∀ C, PySem.W.nsIn K mainGlobals x = some (some (.ref C)) → W (.ref C) none σ H
section
variable {X : Cx} {x m : Str} {p p2 pos pos2 : Pos} {W : WX}
theorem ps_raiseN {jj : Nat} (hc : X.calm = true) (T : ErrC X.K X.mg x) (tk : Takes X W) (hg : Gl X x) (hdb : (x == ("__debug__" : Str)) = false := by decide) :
    PS X (.Raise (some (.Call (.Name x p) [.Constant (.str m) jj p2] [] pos)) none pos2) (tRaiseN X.K x W) := by
  obtain ⟨C, g1, g2, g3, g4, g5, g6⟩ := T.ex
  have R := ps_raise (pos := pos2) hc tk (pmk_own (m := m) (j := jj) (p := p) (p2 := p2) (pos := pos) PySem.F.excBase_ValueError g3 g1 g4 (raises_own g5 g6) hg hdb)
  exact ⟨fun pins s σ H D I h => R.run pins s σ H D I (h C g2)⟩
end
def sRaise (x : Str) : FS := fun _ => some (.exc x none)
section
variable {X : Fx} {x : Str}
theorem ss_raise : SS X (tRaiseN X.K x (fun cls d _ H => X.E cls d H)) (sRaise x) := fun ρ fl h σ τ H o h0f nb I D q => by
  cases h
  exact fun C n => q C H n I.sm
end
/-! ### further words -/
section
variable {X : Fx} {K : PySem.W.Frag} {σ : St} {ρ : Env} {τ : List T} {H : Hp} {o : Own} {ta tb tc te : TE} {fa fb fc fe : FE} {r r' : R2}
def eNeg (fe : FE) : FE := fun ρ => (fe ρ).bind fun a ρ1 => match a.2 with
  | .int n => some (.val (.ow 0, .int (-n)) ρ1) | _ => none
theorem se_neg (he : SE X te fe) : SE X (tUn (rU fun i => .int (-i)) te) (eNeg fe) := fun ρ z h σ τ H o I Q q => by
  have hx : ∀ x w, z = .exc x w → XW X x w := fun x w e => by subst e; exact q
  refine he.bindG h I hx fun a ρ1 x H1 o1 h1 I1 => ?_
  have ra := tmp_rep I1.top
  split at h1
  · rename_i n en
    rw [en] at ra
    cases ra
    cases h1
    exact ⟨n, rfl, q _ H1 o1 (I1.pop.scal (d := .int (-n)) rfl)⟩
  · cases h1
/-- a < b < c, of scalars -/
def eChain (g g' : Kx → Kx → Option Kx) (fa fb fc : FE) : FE := fun ρ => (fa ρ).bind fun a ρ1 => (fb ρ1).bind fun b ρ2 => if (isS a.2 && isS b.2) = true then (match g (.ow 0, a.2) (.ow 0, b.2) with
  | some (_, .bl true) => (fc ρ2).bind fun c ρ3 => match g' (.ow 0, b.2) c with
    | some z => some (.val z ρ3) | none => none
  | some (_, .bl false) => some (.val (.ow 0, .bl false) ρ2)
  | _ => none) else none
theorem se_chain {g g' : Kx → Kx → Option Kx} (hr : Op2 X r g) (hr' : Op2 X r' g') (ha : SE X ta fa) (hb : SE X tb fb) (hc : SE X tc fc) : SE X (tChain r r' ta tb tc) (eChain g g' fa fb fc) := fun ρ z h σ τ H o I Q q => by
  have hx : ∀ x w, z = .exc x w → XW X x w := fun x w e => by subst e; exact q
  refine ha.bindG h I hx fun a ρ1 x H1 o1 h1 I1 => hb.bindG h1 I1 hx fun b ρ2 y H2 o2 h2 I2 => ?_
  have ra := tmp_rep I2.pop.top
  have rb := tmp_rep I2.top
  split at h2
  · rename_i hs
    rw [Bool.and_eq_true] at hs
    have ea := ra.sc hs.1
    have eb := rb.sc hs.2
    subst ea eb
    have J : OkX X σ ρ2 (tmp (toV b.2) (.ow 0, b.2) :: tmp (toV a.2) (.ow 0, a.2) :: tmp (toV b.2) (.ow 0, b.2) :: τ) H2 o2 := ((I2.pop.pop.scal hs.2).scal hs.1).scal hs.2
    split at h2
    · rename_i kk e
      refine hr _ _ _ e σ ρ2 _ H2 o2 _ _ J _ fun v H3 o3 I3 => ?_
      have rv := tmp_rep I3.top
      cases rv
      refine ⟨true, rfl, ?_⟩
      rw [if_pos rfl]
      refine hc.bindG h2 I3.pop hx fun c ρ3 w H4 o4 h4 I4 => ?_
      split at h4
      · rename_i z' e'
        cases h4
        exact hr' _ _ _ e' σ ρ3 τ H4 o4 _ _ I4 Q q
      · cases h4
    · rename_i kk e
      cases h2
      refine hr _ _ _ e σ ρ2 _ H2 o2 _ _ J _ fun v H3 o3 I3 => ?_
      have rv := tmp_rep I3.top
      cases rv
      refine ⟨false, rfl, ?_⟩
      rw [if_neg Bool.false_ne_true]
      exact q _ H3 o3 (I3.pop.pop.scal (d := .bl false) rfl)
    · cases h2
  · cases h2
end
theorem call_isiA {X : Cx} {K : PySem.W.Frag} (h : X.K = K) : CallR X (.builtin "isinstance") (rIsi K) := h ▸ call_isi
end P

namespace P
open PySem L2
def rJoin (K : PySem.W.Frag) : V → List V → Hp → VK → Prop := fun x xs H Q => ∃ a p, ∃ ys : List Str, x = .str a ∧ xs = [.ref p] ∧ (SqL K H p (ys.map V.str) ∨ SqT K H p (ys.map V.str)) ∧ (ys.map (·.length)).sum + ys.length * a.length ≤ 16777216 ∧ Q (.str (Txt.join a ys)) H
def rSplit : V → List V → Hp → VK → Prop := fun x xs H Q => ∃ a b, x = .str a ∧ xs = [.str b] ∧ (b.length == 0) = false ∧ a.length + 2 ≤ sizeLine ∧ rNewStrs (Txt.split a b) H Q
def rFind : V → List V → Hp → VK → Prop := fun x xs H Q => ∃ a b, x = .str a ∧ xs = [.str b] ∧ Q (.int (Txt.find a b)) H
section
variable {X : Cx} {K : PySem.W.Frag} {o e : Expr} {to te : TE} {apos pos : Pos}
theorem pe_joinA (h : X.K = K) (ho : PE X o to) (he : PE X e te) (hs : starEach [e] X.env = [(false, eval e X.env)] := by rfl) (hbase : attributeBase o "join" X.env (eval o X.env) = eval o X.env := by rfl) (hline : (apos.endLine == pos.line) = true := by rfl) :
    PE X (.Call (.Attribute o "join" apos) [e] [] pos) (tM1 (rJoin K) to te) := h ▸ pe_join ho he hs hbase hline
theorem pe_splitA (h : X.K = K) (ho : PE X o to) (he : PE X e te) (hs : starEach [e] X.env = [(false, eval e X.env)] := by rfl) (hbase : attributeBase o "split" X.env (eval o X.env) = eval o X.env := by rfl) (hline : (apos.endLine == pos.line) = true := by rfl) :
    PE X (.Call (.Attribute o "split" apos) [e] [] pos) (tM1 rSplit to te) := pe_split ho he hs hbase hline
theorem pe_findA (h : X.K = K) (ho : PE X o to) (he : PE X e te) (hs : starEach [e] X.env = [(false, eval e X.env)] := by rfl) (hbase : attributeBase o "find" X.env (eval o X.env) = eval o X.env := by rfl) (hline : (apos.endLine == pos.line) = true := by rfl) :
    PE X (.Call (.Attribute o "find" apos) [e] [] pos) (tM1 rFind to te) := pe_m1 F.slot_str_find F.type_str_find mt_find ho he hs hbase hline
end
section
variable {X : Fx} {K : PySem.W.Frag} {B B' : Addr → Prop} {H0 H H' : Hp} {Hf : Bg} {σ σ' : St} {ρ ρ' : Env} {τ τ' : List T} {o o' : Own} {v w : V} {d e : D} {ta tb tc te to : TE} {fa fb fc fe fo : FE} {ts : TA} {fs : FA} {a b : Kx} {k : Nat}
/-- a text's method of one thing -/
def eM1 (g : Str → Kx → Option Kx) (fo fe : FE) : FE := fun ρ => (fo ρ).bind fun a ρ1 => match a.2 with
  | .str s => (fe ρ1).bind fun b ρ2 => match g s b with
    | some c => some (.val c ρ2) | none => none
  | _ => none
def M1 (X : Fx) (r : V → List V → Hp → VK → Prop) (g : Str → Kx → Option Kx) : Prop := ∀ s b c, g s b = some c → ∀ σ ρ τ H o y, OkX X σ ρ (tmp y b :: τ) H o → ∀ Q : VK, (∀ v H' o', OkX X σ ρ (tmp v c :: τ) H' o' → Q v H') → r (.str s) [y] H Q
theorem se_m1 {r : V → List V → Hp → VK → Prop} {g : Str → Kx → Option Kx} (hr : M1 X r g) (ho : SE X to fo) (he : SE X te fe) : SE X (tM1 r to te) (eM1 g fo fe) := fun ρ z h σ τ H o I Q q => by
  have hx : ∀ x w, z = .exc x w → XW X x w := fun x w e => by subst e; exact q
  refine ho.bindG h I hx fun a ρ1 x H1 o1 h1 I1 => ?_
  have ra := tmp_rep I1.top
  split at h1
  · rename_i s es
    rw [es] at ra
    cases ra
    refine ⟨⟨s, rfl⟩, he.bindG h1 I1.pop hx fun b ρ2 y H2 o2 h2 I2 => ?_⟩
    cases eg : g s b with
    | none => rw [eg] at h2; cases h2
    | some c =>
      rw [eg] at h2
      cases h2
      exact hr s b c eg σ ρ2 τ H2 o2 y I2 Q q
  · cases h1
/-- the texts of a list -/
def strsD : List D → Option (List Str)
  | [] => some []
  | .str n :: ds => match strsD ds with
    | some ns => some (n :: ns) | none => none
  | _ => none
theorem strsD_eq : ∀ {ds : List D} {ns : List Str}, strsD ds = some ns → ds = ns.map .str
  | [], _, h => by cases h; rfl
  | d :: ds, ns, h => by
    cases d with
    | str n =>
      replace h : (match strsD ds with | some ns => some (n :: ns) | none => none) = some ns := h
      cases e : strsD ds with
      | none => rw [e] at h; cases h
      | some ms =>
        rw [e] at h
        cases h
        rw [strsD_eq e]
        rfl
    | _ => cases h
theorem strsD_map : ∀ ns : List Str, strsD (ns.map .str) = some ns
  | [] => rfl
  | n :: ns => by
    show (match strsD (ns.map .str) with | some ns => some (n :: ns) | none => none) = _
    rw [strsD_map ns]
noncomputable def gJoin : Str → Kx → Option Kx := fun s b => match b.2 with
  | .lst ds => match strsD ds with
    | some ys => chk ((ys.map (·.length)).sum + ys.length * s.length ≤ 16777216) (some (.ow 0, .str (Txt.join s ys)))
    | none => none
  | _ => none
theorem m_join : M1 X (rJoin X.K) gJoin := fun s b c e σ ρ τ H o y I Q q => by
  unfold gJoin at e
  have rb := tmp_rep I.top
  split at e
  · rename_i ds eb
    rw [eb] at rb
    split at e
    · rename_i ys ey
      obtain ⟨hz, e⟩ := chk_some e
      cases e
      cases rb with
      | lst hh rr =>
        rw [strsD_eq ey] at rr
        exact ⟨s, _, ys, rfl, rfl, .inl (by rw [← rr.strs]; exact SqL.of hh), hz, q _ H o (I.pop.scal (d := .str _) rfl)⟩
    · cases e
  · cases e
noncomputable def gSplitS : Str → Kx → Option Kx := fun s b => match b.2 with
  | .str z => chk ((z.length == 0) = false ∧ s.length + 2 ≤ sizeLine) (some (.ow 1, .lst ((Txt.split s z).map .str)))
  | _ => none
theorem Reps.of_strs : ∀ (ns : List Str), Reps K H (ns.map V.str) (ns.map D.str)
  | [] => .nil
  | n :: r => .cons (.str n) (Reps.of_strs r)
theorem m_split : M1 X rSplit gSplitS := fun s b c e σ ρ τ H o y I Q q => by
  unfold gSplitS at e
  have rb := tmp_rep I.top
  split at e
  · rename_i z eb
    rw [eb] at rb
    obtain ⟨hz, e⟩ := chk_some e
    cases e
    cases rb
    exact ⟨s, z, rfl, rfl, hz.1, hz.2, fun p hp => q _ _ _ (I.pop.lsNew hp (.of_strs _))⟩
  · cases e
def gFind : Str → Kx → Option Kx := fun s b => match b.2 with
  | .str z => some (.ow 0, .int (Txt.find s z)) | _ => none
theorem m_find : M1 X rFind gFind := fun s b c e σ ρ τ H o y I Q q => by
  unfold gFind at e
  have rb := tmp_rep I.top
  split at e
  · rename_i z eb
    rw [eb] at rb
    cases e
    cases rb
    exact ⟨s, z, rfl, rfl, q _ H o (I.pop.scal (d := .int _) rfl)⟩
  · cases e
noncomputable def gPart : Str → Kx → Option Kx := fun s b => match b.2 with
  | .str z => chk ((z.length == 0) = false ∧ s.length ≤ sizeLine) (some (.ow 0, .tup [.str (Txt.partition s z).1, .str (Txt.partition s z).2.1, .str (Txt.partition s z).2.2]))
  | _ => none
theorem m_part : M1 X rPart gPart := fun s b c e σ ρ τ H o y I Q q => by
  unfold gPart at e
  have rb := tmp_rep I.top
  split at e
  · rename_i z eb
    rw [eb] at rb
    obtain ⟨hz, e⟩ := chk_some e
    cases e
    cases rb
    exact ⟨s, z, rfl, rfl, hz.1, hz.2, fun p hp => q _ _ _ (I.pop.stNew hp rfl fun H' e e2 => .tup e2 (.cons (.str _) (.cons (.str _) (.cons (.str _) .nil))))⟩
  · cases e
noncomputable def eJoin (fo fe : FE) : FE := eM1 gJoin fo fe
noncomputable def eSplit (fo fe : FE) : FE := eM1 gSplitS fo fe
def eFind (fo fe : FE) : FE := eM1 gFind fo fe
noncomputable def ePart (fo fe : FE) : FE := eM1 gPart fo fe
theorem se_join (ho : SE X to fo) (he : SE X te fe) : SE X (tM1 (rJoin X.K) to te) (eJoin fo fe) := se_m1 m_join ho he
theorem se_split (ho : SE X to fo) (he : SE X te fe) : SE X (tM1 rSplit to te) (eSplit fo fe) := se_m1 m_split ho he
theorem se_find (ho : SE X to fo) (he : SE X te fe) : SE X (tM1 rFind to te) (eFind fo fe) := se_m1 m_find ho he
theorem se_part (ho : SE X to fo) (he : SE X te fe) : SE X (tM1 rPart to te) (ePart fo fe) := se_m1 m_part ho he
/-! ### f-strings -/
abbrev FJ := Str → Env → R Str
def SJ (X : Fx) (ts : List TE) (fj : FJ) : Prop := ∀ acc ρ r, fj acc ρ = some r → ∀ σ τ H o, OkX X σ ρ τ H o → ∀ Q : Str → Hp → Prop,
  (match r with
  | .val s ρ' => ∀ H' o', OkX X σ ρ' τ H' o' → Q s H'
  | .exc x w => XW X x w) → tJs ts acc σ H Q
def jNil : FJ := fun acc ρ => some (.val acc ρ)
noncomputable def jStr (s : Str) (fj : FJ) : FJ := fun acc ρ => chk ((acc ++ s).length ≤ sizeLine) (fj (acc ++ s) ρ)
noncomputable def jFmt (fe : FE) (fj : FJ) : FJ := fun acc ρ => (fe ρ).bind fun a ρ1 => match a.2 with
  | .str s => chk (s.length ≤ sizeLine ∧ (acc ++ s).length ≤ sizeLine) (fj (acc ++ s) ρ1)
  | .int i => chk (i.natAbs.log2 < 1920 ∧ (acc ++ decI i).length ≤ sizeLine) (fj (acc ++ decI i) ρ1)
  | _ => none
theorem sj_nil : SJ X [] jNil := fun acc ρ r h σ τ H o I Q q => by
  cases h
  exact q H o I
theorem sj_str {s : Str} {ts : List TE} {fj : FJ} (h : SJ X ts fj) : SJ X (tC (.str s) :: ts) (jStr s fj) := fun acc ρ r e σ τ H o I Q q => by
  obtain ⟨hz, e⟩ := chk_some e
  exact ⟨s, rfl, hz, h _ ρ r e σ τ H o I Q q⟩
theorem sj_fmt {ts : List TE} {fj : FJ} (he : SE X te fe) (h : SJ X ts fj) : SJ X (tFmt te :: ts) (jFmt fe fj) := fun acc ρ r e σ τ H o I Q q => by
  have hx : ∀ x w, r = .exc x w → XW X x w := fun x w e => by subst e; exact q
  refine he.bindG e I hx fun a ρ1 x H1 o1 h1 I1 => ?_
  have ra := tmp_rep I1.top
  split at h1
  · rename_i s es
    rw [es] at ra
    cases ra
    obtain ⟨hz, h1⟩ := chk_some h1
    exact .inl ⟨s, rfl, hz.1, s, rfl, hz.2, h _ ρ1 r h1 σ τ H1 o1 I1.pop Q q⟩
  · rename_i i es
    rw [es] at ra
    cases ra
    obtain ⟨hz, h1⟩ := chk_some h1
    exact .inr ⟨i, rfl, hz.1, decI i, rfl, hz.2, h _ ρ1 r h1 σ τ H1 o1 I1.pop Q q⟩
  · cases h1
def eJoined (fj : FJ) : FE := fun ρ => (fj Str.empty ρ).bind fun s ρ1 => some (.val (.ow 0, .str s) ρ1)
theorem se_joined {ts : List TE} {fj : FJ} (h : SJ X ts fj) : SE X (fun σ H Q => tJs ts Str.empty σ H fun out H1 => Q (.str out) H1) (eJoined fj) := fun ρ z e σ τ H o I Q q => by
  rcases R.bind_some e with ⟨x, w, e1, rfl⟩ | ⟨s, ρ', e1, e2⟩
  · exact h _ ρ _ e1 σ τ H o I _ q
  · cases e2
    exact h _ ρ _ e1 σ τ H o I _ fun H' o' J => q _ H' o' (J.scal (d := .str s) rfl)
/-! ### max, min with default= -/
end
end P

namespace P
open PySem L2
section
variable {X : Cx} {pins : List (Addr × Obj)} {σ : L2.St} {H : Hp} {s : Shared}
/-- out of an except suite, its exception still pinned -/
theorem inv_leave {a : Addr} {q : Addr × Obj} {more : List (Addr × Obj)} (I : Inv (X.suite a (q :: (X.pn ++ pins))) more σ H s) (ok : X.Ok) : Inv X (q :: pins) σ H s := by
  have pp : ∀ p, p ∈ X.pn ++ q :: pins → p ∈ (q :: (X.pn ++ pins)) ++ more := fun p hp => by
    simp only [List.mem_append, List.mem_cons] at hp ⊢
    rcases hp with h | h | h
    · exact .inl (.inr (.inl h))
    · exact .inl (.inl h)
    · exact .inl (.inr (.inr h))
  constructor
  · exact ok
  · exact I.os
  · exact I.bare
  · exact I.base
  · exact I.loc
  · exact I.cell
  · exact I.free
  · exact I.freeC
  · exact fun p hp => I.pin p (pp p hp)
  · exact I.hok
  · exact I.len
/-- a pinned exception of our own time is tracked from now on -/
theorem inv_track {a : Addr} {oe : Obj} {cls : Value} {d : Option Addr} (J : Inv X ((a, oe) :: pins) σ H s) (n0 : X.s_0.heap.get? a = none) (apart : ∀ p, p ∈ X.pn ++ pins → p.1 ≠ a) (hz : Zc cls d oe) (hd : ∃ vs, oe.data = .fields vs) : Inv X pins σ (upd H a (XO cls d a)) s := by
  have pa := J.pin (a, oe) (List.mem_append_right _ (List.mem_cons_self ..))
  have he : s.heap.get? a = some oe := pa.1
  have na : H a = none := pa.2.1
  have off : ∀ {b : Addr} {o : HO}, H b = some o → upd H a (XO cls d a) b = some o := fun {b o} q => (upd_ne (ne_of_none q na)).trans q
  constructor
  · exact J.ok
  · exact J.os
  · exact J.bare
  · constructor
    · exact J.base.keep
    · exact J.base.slot
    · intro b o e n hx
      have hb : b ≠ a := fun z => by
        subst z
        rw [n0] at e
        cases e
      exact (upd_ne hb).trans (J.base.free b o e n hx)
    · exact J.base.there
    · exact fun b xs e => off (J.base.tups b xs e)
    · exact fun b o u e => off (J.base.frzs b o u e)
    · intro b ps e
      obtain ⟨m, q⟩ := J.base.tbls b ps e
      exact ⟨m, off q⟩
  · exact J.loc
  · exact J.cell
  · exact (upd_ne (Ne.symm pa.2.2.1)).trans J.free
  · intro x c e
    have hc : c ≠ a := fun z => by
      subst z
      obtain ⟨v, o, ho, hdat⟩ := J.cell x c e
      rw [he] at ho
      cases ho
      exact pa.2.2.2.2 _ hdat
    exact (upd_ne hc).trans (J.freeC x c e)
  · intro p hp
    have q := J.pin p (by
      simp only [List.mem_append, List.mem_cons] at hp ⊢
      rcases hp with h | h
      · exact .inl h
      · exact .inr (.inr h))
    exact ⟨q.1, (upd_ne (apart p hp)).trans q.2.1, q.2.2⟩
  · intro b u e
    by_cases hb : b = a
    · subst hb
      rw [upd_same] at e
      cases e
      obtain ⟨vs, hd⟩ := hd
      exact ⟨⟨oe, vs, he, hz.1, hz.2, hd⟩, ⟨oe, he⟩, fun h1 h2 ⟨o1, v1, q1, r1⟩ k => ⟨o1, v1, k o1 q1, r1⟩⟩
    · rw [upd_ne hb] at e
      exact (J.hok b u e).stay (fun _ _ _ q => q) (fun _ q => off q) fun _ _ q => off q
  · exact J.len
end
/-- the ends behind a suite whose exception, at a, is kept; slot i was its name's -/
def keepEnds (D : Ends) (i : Nat) (a : Addr) (o : HO) : Ends where
  nx := fun σ H => D.nx (σ.set i none) (upd H a o)
  rt := fun v H => D.rt v (upd H a o)
  bk := fun σ H => D.bk (σ.set i none) (upd H a o)
  ct := fun σ H => D.ct (σ.set i none) (upd H a o)
/-- what the clause wishes: the exception is kept as a thing behind its suite -/
def wKeep (K : PySem.W.Frag) (c : Value) (i : Nat) (ts : Addr → Value → Option Addr → TS) (Wout : WX) (D : Ends) : WX := fun cls d σ H =>
  ∃ b, PySem.W.exmOne K cls c = some b ∧ (b = false → Wout cls d σ H) ∧
    (b = true → ∀ a, H a = none → ts a cls d (keepEnds D i a (XO cls d a)) (σ.set i (some (.ref a))) H)
section
variable {X : Cx} {pins : List (Addr × Obj)}
/-- where an exception lies that is about to be looked at: off the frames, none of what stood at the entry, none of what is pinned -/
structure Lies (X : Cx) (pins : List (Addr × Obj)) (a : Addr) : Prop where
  loc : a ≠ X.env.locals
  fs : a ∉ X.fs
  fresh : X.s_0.heap.get? a = none
  apart : ∀ p, p ∈ X.pn ++ pins → p.1 ≠ a
theorem lies_of {B : Heap} {a : Addr} {Zf : Obj → Prop} {h : Heap} {sI : Shared} {σ : L2.St} {H : Hp} (hs : X.stack = X.env :: X.outer) (hf : X.env.frame = some X.env.locals) (hex : X.ex = []) (J : Inv X pins σ H sI)
    (nb : ∀ b o, sI.heap.get? b = some o → b ∉ frs X.stack → B.get? b = some o) (fl : HandSPX.FlyingZ B (X.env :: X.outer) a Zf h) : Lies X pins a := by
  obtain ⟨oe, vs, he, _, hd⟩ := fl.there
  have nfr : a ∉ frs (X.env :: X.outer) := fun hm => by
    obtain ⟨_, o, e, hno⟩ := fl.2.2.1.mem hm
    rw [he] at e
    cases e
    exact hno _ hd
  have nI : sI.heap.get? a = none := by
    cases e : sI.heap.get? a with
    | none => rfl
    | some o =>
      have z := nb a o e (hs ▸ nfr)
      rw [fl.2.1] at z
      cases z
  constructor
  · intro z
    exact nfr (List.mem_filterMap.mpr ⟨X.env, List.mem_cons_self .., by rw [hf, z]⟩)
  · intro hm
    obtain ⟨e, h1, h2⟩ := List.mem_filterMap.mp hm
    exact nfr (List.mem_filterMap.mpr ⟨e, List.mem_cons_of_mem _ h1, h2⟩)
  · cases e : X.s_0.heap.get? a with
    | none => rfl
    | some o =>
      obtain ⟨o', z⟩ := J.base.there a o e (by rw [hex]; exact fun z => nomatch z)
      rw [nI] at z
      cases z
  · intro p hp z
    have q := (J.pin p hp).1
    rw [z, nI] at q
    cases q
variable {x n : Str} {c : Value} {i : Nat} {body suite : List Stmt} {b₀ : Stmt} {px p1 p2 : Pos} {tb : WX → TS} {ts : Addr → Value → Option Addr → TS} {Wout : WX}
theorem ps_try_keep (hs : X.stack = X.env :: X.outer) (hf : X.env.frame = some X.env.locals) (hex : X.ex = []) (hN : X.N.Nodup) (hi : X.N[i]? = some n) (hln : X.env.kindOf n = some .local) (hc : Names X x c) (tk : Takes X Wout)
    (hb : ∀ (W : WX) (pn : List (Addr × Obj)) (xe : Value → Shared → Prop), Takes (X.tr pn xe) W → PassesOwn (model X.prog X.w) X.A X.env xe → PSs (X.tr pn xe) body (tb W))
    (hsu : ∀ (a : Addr) (oe : Obj) (cls : Value) (d : Option Addr) (pn : List (Addr × Obj)), Zc cls d oe → (∃ vs, oe.data = .fields vs) → PSs (X.suite a ((a, oe) :: pn)) (b₀ :: suite) (ts a cls d)) :
    PS X (.Try body [.ExceptHandler (some (.Name x px)) (some n) (b₀ :: suite) p1] [] [] p2) (fun D σ H => tb (wKeep X.K c i ts Wout D) D σ H) := by
  constructor
  intro pins s σ H D I h
  have ok := I.ok
  have frames : X.A.frames = some (X.env :: X.outer) := ok.frames.trans (congrArg some hs)
  let hand : List ExceptHandler := [.ExceptHandler (some (.Name x px)) (some n) (b₀ :: suite) p1]
  let M := model X.prog X.w
  -- what stands behind a raise: the frame noted, the flight over, the clauses asked
  let xe : Value → Shared → Prop := fun e s₁ => wpAny M X.A (noteFrame e X.env) (fun _ s₂ => wpAny M X.A (setFlight e none) (fun _ s₃ => wpAny M X.A (handleBy e X.env hand) (L2.SP X pins D) X.xe s₃) X.xe s₂) X.xe s₁
  have catches : Takes (X.tr (X.pn ++ pins) xe) (wKeep X.K c i ts Wout D) := by
    intro u s' air
    obtain ⟨a, B, sI, pins', σ', H', cls, d, eu, Jt, nb, up, sky, na, os, ag, b, hb1, hno, hyes⟩ := air
    subst eu
    have J : Inv X pins σ' H' sI := Jt.ofTry ok
    have sky' : Sky B (X.env :: X.outer) a (Zc cls d) X.env.locals s'.heap := hs ▸ sky
    show wpAny M X.A (noteFrame (.ref a) X.env) _ _ _
    apply Sky.land Zc.steady frames hf sky'
    intro h3 fl3 up3
    have L := lies_of hs hf hex J nb fl3
    have back : ∀ {hh : Heap}, HandSPX.FlyingZ B (X.env :: X.outer) a (Zc cls d) hh → sI.heap.UpToSlots hh → Inv X pins σ' H' { s' with heap := hh } := fun fl u => J.landed nb fl.1 u os ag
    have inSuite : ∀ {hh : Heap}, HandSPX.FlyingZ B (X.env :: X.outer) a (Zc cls d) hh → sI.heap.UpToSlots hh → ∃ oe, Zc cls d oe ∧ (∃ vs, oe.data = .fields vs) ∧ hh.get? a = some oe ∧ Inv (X.suite a ((a, oe) :: (X.pn ++ pins))) [] σ' H' { s' with heap := hh } := fun fl u => by
      obtain ⟨oe, vs, he, hz, hd⟩ := fl.there
      exact ⟨oe, hz, ⟨vs, hd⟩, he, (back fl u).suite he hd na L.loc L.fs⟩
    obtain ⟨oe3, hz3, _, he3, S3⟩ := inSuite fl3 (up.trans up3)
    apply wpAny_handleBy_cons
    rotate_left
    · intro q
      cases q
    apply codeAny_handlers_test
    have isOf : PySem.W.Looks M h3 (typeOf (.ref a)) cls := fun _ _ _ _ k q => wpAny_typeOf_ref (k _ _ he3) (hz3.1.symm ▸ q)
    have asks := PySem.W.exm_one (M := M) (back fl3 (up.trans up3)).kIn isOf hb1
    have named : ∀ {Q E : Value → Shared → Prop}, Q c { s' with heap := h3 } → wpAny M (X.A.mark (some (.ref a))) (eval (.Name x px) X.env) Q E { s' with heap := h3 } := fun {Q E} q => by
      rcases hc with ⟨g1, g2, g3 | ⟨g3, g4, g5⟩⟩
      · exact ld_glob S3 g1 g3 q g2
      · exact ld_blt S3 g1 g3 g4 q g5 g2
    apply named
    apply asks.here
    cases b
    · -- none of ours: it goes on
      show wpAny _ X.A (handleBy (.ref a) X.env []) _ _ _
      apply wpAny_handleBy_nil
      obtain ⟨_, _, _, oe, vs, T, oT, _, he, _, hd, h1, _⟩ := id fl3
      unfold PySem.passOn
      apply wpAny_bind
      apply wpAny_field he hd h1
      have nT : ¬ ((Value.ref T == Value.none) = true) := by simp
      rw [if_neg nT]
      have flies : wpAny M X.A (setFlight (.ref a) X.env.frame) (fun _ s4 => wpAny M X.A (throw (.ref a) : Sem Flow) (L2.SP X pins D) X.xe s4) X.xe { s' with heap := h3 } := by
        rw [hf]
        apply HandSPX.setFlight_upZ fl3
        intro h4 fl4 up4
        apply wpAny_throw
        apply tk
        exact ⟨a, B, sI, pins, σ', H', cls, d, rfl, J, nb, (up.trans up3).trans up4, .inr (.inr (hs ▸ fl4)), na, os, ag, hno rfl⟩
      first
        | exact wpAny_bind (wpAny_pure (wpAny_bind flies))
        | exact wpAny_bind flies
    · -- ours: the suite
      apply codeAny_handlers_suite_as
      apply HandSPX.lands_againZ fl3
      intro h4 fl4 up4
      obtain ⟨oe4, hz4, hd4, he4, S4⟩ := inSuite fl4 ((up.trans up3).trans up4)
      have hloc : Loc X.env.scope n := .inl hln
      apply store_ok (X := X.suite a ((a, oe4) :: (X.pn ++ pins))) (v := .ref a) S4 hN hi hloc rfl (hf := .inr hln)
      intro s5 S5
      have run := (hsu a oe4 cls d (X.pn ++ pins) hz4 hd4).run [] s5 _ H' _ S5 (hyes rfl a na)
      have behind : ∀ {σ6 : L2.St} {H6 : Hp} {s6 : Shared} {Q : Shared → Prop}, Inv (X.suite a ((a, oe4) :: (X.pn ++ pins))) [] σ6 H6 s6 → (∀ s7, Inv X pins (σ6.set i none) (upd H6 a (XO cls d a)) s7 → Q s7) →
          wpAny M X.A (do bindName X.env n .none; unbindBehindTheSuite X.env n p1) (fun _ s7 => Q s7) X.xe s6 := fun {σ6 H6 s6 Q} S6 hq =>
        gone_ok (inv_leave S6 ok) hN hi hln fun s7 J7 => hq s7 (inv_track J7 L.fresh L.apart hz4 hd4)
      apply wpAny_mono run
      · intro f s6 hsp
        cases f
        · obtain ⟨σ6, H6, S6, q6⟩ := hsp
          exact behind S6 fun s7 J7 => ⟨_, _, J7, q6⟩
        · obtain ⟨σ6, H6, S6, q6⟩ := hsp
          exact behind S6 fun s7 J7 => ⟨_, _, J7, q6⟩
        · obtain ⟨σ6, H6, S6, q6⟩ := hsp
          exact behind S6 fun s7 J7 => ⟨_, _, J7, q6⟩
        · obtain ⟨v6, σ6, H6, S6, r6, q6⟩ := hsp
          exact behind S6 fun s7 J7 => ⟨_, _, _, J7, r6, q6⟩
      · exact fun _ _ z => False.elim z
  apply wpAny_Try_except
  apply wpAny_mono ((hb _ (X.pn ++ pins) xe catches PassesOwn.looking).run [] s σ H D (I.toTry _) h)
  · intro f s1 hsp
    cases f
    · obtain ⟨σ', H', J, q⟩ := hsp
      exact wpAny_execs_nil ⟨σ', H', J.ofTry ok, q⟩
    · obtain ⟨σ', H', J, q⟩ := hsp
      exact ⟨σ', H', J.ofTry ok, q⟩
    · obtain ⟨σ', H', J, q⟩ := hsp
      exact ⟨σ', H', J.ofTry ok, q⟩
    · obtain ⟨v, σ', H', J, r, q⟩ := hsp
      exact ⟨v, σ', H', J.ofTry ok, r, q⟩
  · exact fun _ _ z => z
end

/-! ### the try whose error is kept: except c as n: y = n -/
def tTryK (K : PySem.W.Frag) (run : Run) (c : Value) (i j : Nat) (E : XK) (ta : TA) : TS := fun D σ H => ta σ H fun vs H1 => spR K run vs H1 (fun _ H2 => D.nx σ H2) fun cls d H2 =>
  wKeep K c i (fun _ _ _ => tAsg (tVar i) (gName j)) (fun cls d _ H => E cls d H) D cls d σ H2
def tTryV (K : PySem.W.Frag) (run : Run) (c : Value) (i j l : Nat) (E : XK) (ta : TA) : TS := fun D σ H => ta σ H fun vs H1 => spR K run vs H1 (fun v H2 => D.nx (σ.set l (some v)) H2) fun cls d H2 =>
  wKeep K c i (fun _ _ _ => tAsg (tVar i) (gName j)) (fun cls d _ H => E cls d H) D cls d σ H2
section
variable {X : Cx} {e : Expr} {es : List Expr} {t : TA} {x : Str} {p p2 pos pos2 : Pos} {k kk : Nat} {ps : List Str} {run : Run} {E : XK}
theorem ps_tryK {f n y : Str} {i j : Nat} {c : Value} {px p1 p3 q1 q2 q3 : Pos} (hs : X.stack = X.env :: X.outer) (hf : X.env.frame = some X.env.locals) (hex : X.ex = []) (hN : X.N.Nodup) (hi : X.N[i]? = some n) (hln : X.env.kindOf n = some .local)
    (hj : X.N[j]? = some y) (hyl : X.env.scope.names.lookup y = some .local) (hc : Names X x c) (G : Gd X.prog X.w X.K X.mg X.base f k ps run) (hr : Room kk X.A) (hk : k ≤ kk) (hg : Gl X f)
    (ha : ∀ (pn : List (Addr × Obj)) (xe : Value → Shared → Prop), PA (X.tr pn xe) (e :: es) t) (hnx : Takes X fun cls d _ H => E cls d H) (hdb : (f == ("__debug__" : Str)) = false := by decide) (he : starEach (e :: es) X.env = (false, eval e X.env) :: starEach es X.env := by rfl) (hpl : (backTo pos (starEach es X.env)).any (·.1) = false := by rfl)
    (hq : interactive X.env = false := by rfl) (hsw : swapsWith (.Call (.Name f p) (e :: es) [] pos) none pos2.line X.env = pure false := by rfl)
    (hnd : (n == ("__debug__" : Str)) = false := by decide) (hnc : (n == ("__classdict__" : Str)) = false := by decide) (hsw2 : swapsWith (.Name n q1) (some (.Name y q2)) q3.line X.env = pure false := by rfl) :
    PS X (.Try [.Expr (.Call (.Name f p) (e :: es) [] pos) pos2] [.ExceptHandler (some (.Name x px)) (some n) [.Assign [.Name y q2] (.Name n q1) q3] p1] [] [] p3) (tTryK X.K run c i j E t) := by
  obtain ⟨fa, fd, h1, h2, h3, h4⟩ := G.ex
  have R := ps_try_keep (body := [.Expr (.Call (.Name f p) (e :: es) [] pos) pos2]) (suite := []) (b₀ := .Assign [.Name y q2] (.Name n q1) q3) (px := px) (p1 := p1) (p2 := p3) (tb := fun W => tDrop (tCallS (spR X.K run) (WE W) t)) (ts := fun _ _ _ => tAsg (tVar i) (gName j)) (Wout := fun cls d _ H => E cls d H) hs hf hex hN hi hln hc hnx
    (fun W pn xe tk _ => pss_one (ps_expr (pe_callS h1 (hr.mono hk) hg h2 h3 h4 (fun σ => passAt tk σ) (ha pn xe) hdb he hpl) hsw))
    (fun a oe cls d pn _ _ => pss_one (ps_set (i := j) hN hj (.inl hyl) (pe_var hi (.inl hln) hnd hnc) hsw2 (.inr hyl)))
  exact ⟨fun pins s σ H D I h => R.run pins s σ H D I h⟩
theorem ps_tryV {f n y z : Str} {i j l : Nat} {c : Value} {px p1 p3 q0 q1 q2 q3 : Pos} (hs : X.stack = X.env :: X.outer) (hf : X.env.frame = some X.env.locals) (hex : X.ex = []) (hN : X.N.Nodup) (hi : X.N[i]? = some n) (hln : X.env.kindOf n = some .local)
    (hj : X.N[j]? = some y) (hyl : X.env.scope.names.lookup y = some .local) (hl : X.N[l]? = some z) (hzl : X.env.scope.names.lookup z = some .local) (hc : Names X x c) (G : Gd X.prog X.w X.K X.mg X.base f k ps run) (hr : Room kk X.A) (hk : k ≤ kk) (hg : Gl X f)
    (ha : ∀ (pn : List (Addr × Obj)) (xe : Value → Shared → Prop), PA (X.tr pn xe) (e :: es) t) (hnx : Takes X fun cls d _ H => E cls d H) (hdb : (f == ("__debug__" : Str)) = false := by decide) (he : starEach (e :: es) X.env = (false, eval e X.env) :: starEach es X.env := by rfl) (hpl : (backTo pos (starEach es X.env)).any (·.1) = false := by rfl)
    (hq : interactive X.env = false := by rfl) (hsw : swapsWith (.Call (.Name f p) (e :: es) [] pos) (some (.Name z q0)) pos2.line X.env = pure false := by rfl)
    (hnd : (n == ("__debug__" : Str)) = false := by decide) (hnc : (n == ("__classdict__" : Str)) = false := by decide) (hsw2 : swapsWith (.Name n q1) (some (.Name y q2)) q3.line X.env = pure false := by rfl) :
    PS X (.Try [.Assign [.Name z q0] (.Call (.Name f p) (e :: es) [] pos) pos2] [.ExceptHandler (some (.Name x px)) (some n) [.Assign [.Name y q2] (.Name n q1) q3] p1] [] [] p3) (tTryV X.K run c i j l E t) := by
  obtain ⟨fa, fd, h1, h2, h3, h4⟩ := G.ex
  have R := ps_try_keep (body := [.Assign [.Name z q0] (.Call (.Name f p) (e :: es) [] pos) pos2]) (suite := []) (b₀ := .Assign [.Name y q2] (.Name n q1) q3) (px := px) (p1 := p1) (p2 := p3) (tb := fun W => tAsg (tCallS (spR X.K run) (WE W) t) (gName l)) (ts := fun _ _ _ => tAsg (tVar i) (gName j)) (Wout := fun cls d _ H => E cls d H) hs hf hex hN hi hln hc hnx
    (fun W pn xe tk _ => pss_one (ps_set (i := l) hN hl (.inl hzl) (pe_callS h1 (hr.mono hk) hg h2 h3 h4 (fun σ => passAt tk σ) (ha pn xe) hdb he hpl) hsw (.inr hzl)))
    (fun a oe cls d pn _ _ => pss_one (ps_set (i := j) hN hj (.inl hyl) (pe_var hi (.inl hln) hnd hnc) hsw2 (.inr hyl)))
  exact ⟨fun pins s σ H D I h => R.run pins s σ H D I h⟩
end
def setO (fg : Option Nat) (ρ : Env) (k : Nat) (d : D) : Env := match fg with
  | none => ρ | some l => ρ.set l (.ow k d)
/-- is: of an error's class by its name, whether the clause takes it -/
def sTryK (is : Str → Option Bool) (i j : Nat) (fg : Option Nat) (run : Run) (fs : FA) : FS := fun ρ => match fs ρ with
  | none => none
  | some (.exc x w) => some (.exc x w)
  | some (.val as ρ1) => match run (as.map (·.2)) with
    | none => none
    | some (.ret k d) => if as.all stb' = true then some (.nxt (setO fg ρ1 k d)) else if cov k d = true then some (.nxt (setO fg ρ1 k d)) else none
    | some (.exc x w) => if ((as.all stb' || flatX w) && decide (i < ρ1.length)) = true then (match is x with
      | some true => some (.nxt ((ρ1.set j (.ow 0 (.xo x w))).set i .no))
      | some false => some (.exc x w)
      | none => none) else none
section
variable {X : Fx} {K : PySem.W.Frag} {B B' : Addr → Prop} {H0 H H' : Hp} {Hf : Bg} {σ σ' : St} {ρ ρ' : Env} {τ τ' : List T} {o o' : Own} {v w : V} {d : D} {ts : TA} {fs : FA}
theorem Ok.setNo (I : Ok K B H0 Hf σ ρ τ H o) (i : Nat) (x : Option V) : Ok K B H0 Hf (σ.set i x) (ρ.set i .no) τ H o :=
  ⟨by rw [List.length_set, List.length_set, I.len], I.bs, I.sm, I.fl, I.ow, fun j k d h => by
    rcases set_get h with ⟨_, z, _⟩ | ⟨n, h⟩
    · cases z
    · rw [List.getElem?_set_ne n]
      exact I.sl j k d h, I.tp⟩
/-- what a clause says of the classes -/
def Catch (K : PySem.W.Frag) (c : Value) (is : Str → Option Bool) : Prop := ∀ x b, is x = some b → ∀ D, PySem.W.nsIn K mainGlobals x = some (some (.ref D)) → PySem.W.exmOne K (.ref D) c = some b
theorem try_core {run : Run} {is : Str → Option Bool} {c : Value} {i j : Nat} {fg : Option Nat} (hc : Catch X.K c is) (hij : i ≠ j) (hs : SA X ts fs) {fl : Fl} (h : sTryK is i j fg run fs ρ = some fl) (nb : noBw τ) (I : OkX X σ ρ τ H o) {D : Ends} (q : En X τ D fl) {g : V → St}
    (hg : ∀ v, g v = match fg with | none => σ | some l => σ.set l (some v)) :
    ts σ H fun vs H1 => spR X.K run vs H1 (fun v H2 => D.nx (g v) H2) fun cls d H2 => wKeep X.K c i (fun _ _ _ => tAsg (tVar i) (gName j)) (fun cls d _ H => X.E cls d H) D cls d σ H2 := by
  unfold sTryK at h
  split at h
  · cases h
  · rename_i x w e
    cases h
    exact hs ρ _ e σ τ H o I _ q
  · rename_i as ρ1 e
    refine hs ρ _ e σ τ H o I _ fun vs H1 o1 l I1 => ?_
    obtain ⟨o2, I2, ks⟩ := Ok.settles l I1
    cases er : run (as.map (·.2)) with
    | none => rw [er] at h; cases h
    | some out =>
      rw [er] at h
      cases out with
      | ret k d =>
        have fin : ∀ v H' o4, OkX X σ ρ1 (⟨v, .ow k, d⟩ :: τ) H' o4 → some (Fl.nxt (setO fg ρ1 k d)) = some fl → D.nx (g v) H' := fun v H' o4 I4 hfl => by
          rw [hg]
          cases fg with
          | none => cases hfl; exact q σ H' o4 I4.pop
          | some l => cases hfl; exact q _ H' _ (Ok.set I4 l)
        dsimp only at h
        split at h
        · rename_i hst
          refine ⟨Av X.B o2, as.map (·.2), .ret k d, fun a ha => I2.mu ha, Knowns.st I2 ks hst, er, fun v H' o3 J => ?_⟩
          obtain ⟨o4, I4⟩ := I2.join J
          exact fin v H' o4 I4 h
        · split at h
          · rename_i hc
            refine ⟨fun _ => False, as.map (·.2), .ret k d, fun a ha => ha.elim, by rw [del_nil]; exact ks.rep, er, fun v H' o3 J => ?_⟩
            have hmu : ∀ a, Av (Av X.B o2) o3 a → Mu H' a := fun a ha => by
              rcases ha with ha | ⟨y, ha⟩
              · exact (I2.mu ha).mono J.sm
              · exact (J.ow a y ha).2
            obtain ⟨o4, I4⟩ := I2.join (v := v) (d := d) (k := k) (o3 := o3) (H' := H') ⟨rfl, fun a ha => I2.mu ha, J.sm, ⟨J.sm, fun p hp => nomatch hp⟩, J.ow, (fun i k d h => nomatch h), RO.cov (keep_mu hmu) J.tp.1 hc, trivial⟩
            exact fin v H' o4 I4 h
          · cases h
      | exc x w =>
        dsimp only at h
        split at h
        · rename_i hst
          rw [Bool.and_eq_true, decide_eq_true_eq] at hst
          have hi : i < σ.length := by rw [I2.len]; exact hst.2
          -- what holds where the error is met
          have key : ∀ C d H2, PySem.W.nsIn X.K mainGlobals x = some (some (.ref C)) → Same H1 H2 → (∀ a, H2 a = none → Rep X.K (del (upd H2 a (XO (.ref C) d a)) (Av X.B o2)) (.ref a) (.xo x w)) → ((w = none ∧ d = none) ∨ ∃ f dp dx v, w = some (f, dp) ∧ d = some dx ∧ H2 dx = some (.xd [(f, v)]) ∧ Rep X.K (del H2 X.B) v dp) →
              wKeep X.K c i (fun _ _ _ => tAsg (tVar i) (gName j)) (fun cls d _ H => X.E cls d H) D (.ref C) d σ H2 := fun C d H2 n s hr hw => by
            cases eis : is x with
            | none => rw [eis] at h; cases h
            | some b =>
              rw [eis] at h
              refine ⟨b, hc x b eis C n, fun hb => ?_, fun hb a na => ?_⟩
              · subst hb
                cases h
                have q : XW X x w := q
                rcases hw with ⟨rfl, rfl⟩ | ⟨f, dp, dx, v, rfl, rfl, e1, e2⟩
                · exact q C H2 n (I2.sm.trans s)
                · exact q C dx v H2 n (I2.sm.trans s) e1 e2
              · subst hb
                cases h
                have J := (I2.grow (s.trans (same_upd (XO (.ref C) d a) na))).stab (hr a na)
                have J2 := Ok.setNo (Ok.set (k := 0) J j) i none
                refine ⟨.ref a, by rw [List.getElem?_set_self hi], ?_⟩
                have e : (((σ.set i (some (.ref a))).set j (some (.ref a))).set i none) = (σ.set j (some (V.ref a))).set i none := by
                  rw [List.set_comm _ _ hij, List.set_set]
                show D.nx (((σ.set i (some (.ref a))).set j (some (.ref a))).set i none) _
                rw [e]
                exact q _ _ _ J2
          have noav : ∀ H2 a, Same H1 H2 → H2 a = none → ¬ Av X.B o2 a := fun H2 a s na z => (I2.grow s).muNo na z
          have nodx : ∀ H2 dx u, Same H1 H2 → H2 dx = some u → isMut u = false → ¬ Av X.B o2 dx := fun H2 dx u s e hu z => by
            obtain ⟨u', e', m⟩ := (I2.mu z).mono s
            rw [e] at e'
            cases e'
            rw [hu] at m
            cases m
          have xd : ∀ C dx v H2 f dp a, PySem.W.nsIn X.K mainGlobals x = some (some (.ref C)) → Same H1 H2 → H2 dx = some (.xd [(f, v)]) → Rep X.K (del H2 (Av X.B o2)) v dp → H2 a = none → Rep X.K (del (upd H2 a (XO (.ref C) (some dx) a)) (Av X.B o2)) (.ref a) (.xo x (some (f, dp))) := fun C dx v H2 f dp a n s e r na =>
            .xo1 n (del_some.mpr ⟨noav H2 a s na, upd_same⟩) (del_some.mpr ⟨nodx H2 dx _ s e rfl, by rw [upd_ne (ne_of_none e na)]; exact e⟩) (r.mono (del_mono (same_upd _ na)))
          cases w with
          | none =>
            refine ⟨fun _ => False, as.map (·.2), .exc x none, fun a ha => ha.elim, by rw [del_nil]; exact ks.rep, er, fun C H2 n s => key C none H2 n s (fun a na => .xo0 n (del_some.mpr ⟨noav H2 a s na, upd_same⟩)) (.inl ⟨rfl, rfl⟩)⟩
          | some p =>
            obtain ⟨f, dp⟩ := p
            by_cases hst1 : as.all stb' = true
            · refine ⟨Av X.B o2, as.map (·.2), .exc x (some (f, dp)), fun a ha => I2.mu ha, Knowns.st I2 ks hst1, er, fun C dx v H2 n s e r => key C (some dx) H2 n s (fun a na => xd C dx v H2 f dp a n s e r na) (.inr ⟨f, dp, dx, v, rfl, rfl, e, r.mono (del_sub fun a ha => .inl ha)⟩)⟩
            · have hfl : flat dp = true := by
                have z := hst.1
                rw [Bool.or_eq_true] at z
                exact z.resolve_left hst1
              refine ⟨fun _ => False, as.map (·.2), .exc x (some (f, dp)), fun a ha => ha.elim, by rw [del_nil]; exact ks.rep, er, fun C dx v H2 n s e r => ?_⟩
              have r0 : Rep X.K H2 v dp := r.mono (del_same _ _)
              have r1 : Rep X.K (del H2 (Av X.B o2)) v dp := r0.flat (keep_av (I2.grow s)) hfl
              exact key C (some dx) H2 n s (fun a na => xd C dx v H2 f dp a n s e r1 na) (.inr ⟨f, dp, dx, v, rfl, rfl, e, r1.mono (del_sub fun a ha => .inl ha)⟩)
        · cases h
theorem ss_tryK {run : Run} {is : Str → Option Bool} {c : Value} {i j : Nat} (hc : Catch X.K c is) (hij : i ≠ j) (hs : SA X ts fs) : SS X (tTryK X.K run c i j X.E ts) (sTryK is i j none run fs) := fun ρ fl h σ τ H o h0f nb I D q =>
  try_core (g := fun _ => σ) hc hij hs h nb I q fun v => rfl
theorem ss_tryV {run : Run} {is : Str → Option Bool} {c : Value} {i j l : Nat} (hc : Catch X.K c is) (hij : i ≠ j) (hs : SA X ts fs) : SS X (tTryV X.K run c i j l X.E ts) (sTryK is i j (some l) run fs) := fun ρ fl h σ τ H o h0f nb I D q =>
  try_core (g := fun v => σ.set l (some v)) hc hij hs h nb I q fun v => rfl
end
/-! ### isinstance with a class -/
def rIsX (K : PySem.W.Frag) : List V → Hp → VK → Prop := fun xs H Q => ∃ (a D : Addr) (c : V) (cv : Value) (b : Bool), xs = [.ref a, c] ∧ H a = some (XO (.ref D) none a) ∧ ExcC K D ∧ (∀ u, RelV c u → u = cv) ∧ PySem.W.kitOne K (.ref D) cv = some b ∧ Q (.bl b) H
theorem call_isX {X : Cx} : CallR X (.builtin "isinstance") (rIsX X.K) := by
  intro pins s σ H xs us Q I r h
  obtain ⟨a, D, c, cv, b, rfl, ha, C, hcv, e, q⟩ := h
  match us, r with
  | [u1, u2], .cons r1 (.cons r2 .nil) =>
    cases (show u1 = Value.ref a from r1)
    cases hcv _ r2
    have ok := I.hok a _ ha
    obtain ⟨⟨oe, vs, hget, hc, hd, hv⟩, _⟩ := ok
    have J : PySem.W.InstAt s.heap a oe D none := by
      obtain ⟨oc, od, oda, osl⟩ := oe
      dsimp only at hc hd hv
      subst hc hd hv
      exact ⟨hget, rfl, rfl, trivial⟩
    exact PySem.W.kia_one (PySem.W.handS_kitx_exc C.hg C.hk C.hs C.hd C.ha C.hn C.ht C.hm) I.kIn J e (fun z => nomatch z) fun tk => ⟨.bl b, H, I.tok tk, rfl, q⟩
def rIsC (K : PySem.W.Frag) : List V → Hp → VK → Prop := fun xs H Q => rIsi K xs H Q ∨ rIsX K xs H Q
theorem call_isiC {X : Cx} {K : PySem.W.Frag} (h : X.K = K) : CallR X (.builtin "isinstance") (rIsC K) := h ▸ CallR.or call_isi call_isX
/-- what is known of the classes of errors: of each in rs, whether it is one of cl -/
structure ErrTab (K : PySem.W.Frag) (cl rs : List Str) (isa : Str → Str → Bool) : Prop where
  kit : ∀ x y, x ∈ rs → y ∈ cl → ∀ D C, PySem.W.nsIn K mainGlobals x = some (some (.ref D)) → PySem.W.nsIn K mainGlobals y = some (some (.ref C)) → PySem.W.kitOne K (.ref D) (.ref C) = some (isa x y)
  ve : ∀ x, x ∈ rs → ∀ D, PySem.W.nsIn K mainGlobals x = some (some (.ref D)) → PySem.W.kitOne K (.ref D) (.type "ValueError") = some true
  ok : ∀ x, x ∈ rs → ∀ D, PySem.W.nsIn K mainGlobals x = some (some (.ref D)) → ExcC K D
  exm : ∀ x y, x ∈ rs → y ∈ cl → ∀ D C, PySem.W.nsIn K mainGlobals x = some (some (.ref D)) → PySem.W.nsIn K mainGlobals y = some (some (.ref C)) → PySem.W.exmOne K (.ref D) (.ref C) = some (isa x y)
def gIsC (cl rs : List Str) (isa : Str → Str → Bool) : List D → Option D
  | [.xo x none, .cls y] => if (rs.contains x && cl.contains y) = true then some (.bl (isa x y)) else none
  | [.xo x none, .ty "ValueError"] => if rs.contains x = true then some (.bl true) else none
  | ds => gIsi ds
theorem c_isiC {X : Fx} {cl rs : List Str} {isa : Str → Str → Bool} (T : ErrTab X.K cl rs isa) : CB X (rIsC X.K) (gC (gIsC cl rs isa)) := CR.cb fun ds f h => by
  unfold gIsC at h
  split at h
  · rename_i x y
    split at h
    · rename_i hm
      rw [Bool.and_eq_true, List.contains_iff_mem, List.contains_iff_mem] at hm
      cases h
      refine ⟨rfl, fun H vs Q rr q => ?_⟩
      cases rr with
      | cons r1 rr => cases rr with
        | cons r2 rr =>
          cases rr
          cases r1 with
          | xo0 n e =>
            cases r2 with
            | cls n2 => exact .inr ⟨_, _, _, _, _, rfl, e, T.ok x hm.1 _ n, fun u r => r, T.kit x y hm.1 hm.2 _ _ n n2, q⟩
    · cases h
  · rename_i x
    split at h
    · rename_i hm
      rw [List.contains_iff_mem] at hm
      cases h
      refine ⟨rfl, fun H vs Q rr q => ?_⟩
      cases rr with
      | cons r1 rr => cases rr with
        | cons r2 rr =>
          cases rr
          cases r1 with
          | xo0 n e =>
            cases r2
            exact .inr ⟨_, _, _, _, _, rfl, e, T.ok x hm _ n, fun u r => r, T.ve x hm _ n, q⟩
    · cases h
  · obtain ⟨h1, h2⟩ := c_isi_CR (X := X) ds f h
    exact ⟨h1, fun H vs Q rr q => .inl (h2 H vs Q rr q)⟩
theorem catch_of {K : PySem.W.Frag} {cl rs : List Str} {isa : Str → Str → Bool} (T : ErrTab K cl rs isa) {y : Str} {C : Addr} (hy : y ∈ cl) (n : PySem.W.nsIn K mainGlobals y = some (some (.ref C))) : Catch K (.ref C) (fun x => if rs.contains x = true then some (isa x y) else none) := fun x b h D hD => by
  dsimp only at h
  split at h
  · rename_i hm
    rw [List.contains_iff_mem] at hm
    cases h
    exact T.exm x y hm hy D C hD n
  · cases h
end P

namespace P
open PySem L2
section
variable {X : Fx} {K : PySem.W.Frag} {B B' : Addr → Prop} {H0 H H' : Hp} {Hf : Bg} {σ σ' : St} {ρ ρ' : Env} {τ τ' : List T} {o o' : Own} {v w : V} {d e : D} {ta tb tc te to : TE} {fa fb fc fe fo : FE} {ts : TA} {fs : FA} {a b : Kx} {k : Nat}
theorem RepK.vals : ∀ {kvs : List (Key × V)} {kds : List (Key × D)}, RepK K H kvs kds → Reps K H (kvs.map (·.2)) (kds.map (·.2)) ∧ kvs.map (·.1) = kds.map (·.1)
  | _, _, .nil => ⟨.nil, rfl⟩
  | _, _, .cons a b => ⟨.cons a b.vals.1, congrArg (_ :: ·) b.vals.2⟩
theorem Ok.dcNew (I : Ok K B H0 Hf σ ρ τ H o) {p : Addr} {kvs : List (Key × V)} {kds : List (Key × D)} (hp : H p = none) (h : RepK K (del H (Av B o)) kvs kds) : Ok K B H0 Hf σ ρ (⟨.ref p, .ow 1, .dic kds⟩ :: τ) (upd H p (.dK kvs)) (oNew o p (.tm τ.length, [])) := by
  refine (I.new (.tm τ.length, []) hp rfl).push (RO.dic (if_pos rfl) upd_same ?_ h.vals.2)
  have z := h.vals.1.mono (del_new (u := .dK kvs) (z := (.tm τ.length, [])) hp)
  clear h
  have key : ∀ (vs' : List V) (ds : List D) (i : Nat), Reps K (del (upd H p (.dK kvs)) (Av B (oNew o p (.tm τ.length, [])))) vs' ds → ROs K (upd H p (.dK kvs)) (Av B (oNew o p (.tm τ.length, []))) (oNew o p (.tm τ.length, [])) (.tm τ.length) [] i 0 vs' ds := fun vs' => by
    induction vs' with
    | nil => intro ds i h; cases h; exact .nil
    | cons v vs ih => intro ds i h; cases h with | cons a b => exact .cons (.st a) (ih _ _ b)
  exact key _ _ _ z
/-- {} -/
def eDnew : FE := fun ρ => some (.val (.ow 1, .dic []) ρ)
theorem se_dnew : SE X tDNewK eDnew := fun ρ r e σ τ H o I Q q => by
  cases e
  exact fun p hp => q _ _ _ (I.dcNew hp .nil)
/-- {x: y}, texts -/
def eDic1 (x y : Str) : FE := fun ρ => some (.val (.ow 1, .dic [(.inr x, .str y)]) ρ)
theorem se_dic1 {x y : Str} : SE X (tDisp [(tC (.str x), tC (.str y))]) (eDic1 x y) := fun ρ r e σ τ H o I Q q => by
  cases e
  intro p hp
  have e : upd (upd H p (.dK [])) p (.dK (mergeK [] [(.inr x, .str y)])) = upd H p (.dK [(.inr x, .str y)]) := by
    funext a
    unfold upd
    by_cases h : a = p
    · rw [if_pos h, if_pos h]
      rfl
    · rw [if_neg h, if_neg h, if_neg h]
  refine ⟨if_pos rfl, [(.inr x, .str y)], rfl, Nat.le_of_ble_eq_true rfl, ?_⟩
  rw [e]
  exact q _ _ _ (I.dcNew hp (.cons (.str _) .nil))
end
end P

namespace P
open PySem L2
/-! ### for the plain law: how a mirror is reckoned -/
def endR : Option Fl → Option Out
  | some (.nxt _) => some (.ret 0 .non)
  | some (.ret k d) => some (.ret k d)
  | some (.exc x w) => some (.exc x w)
  | _ => none
theorem runD_end {m n : Nat} {f : FS} {ds : List D} (h : ds.length = m) : runD m n f ds = endR (f (entryE ds n)) := by
  unfold runD
  rw [if_pos h]
  rfl
section
variable {α β : Type} {a : α} {ρ : Env} {x : Str} {w : Option (Str × D)}
theorem bind_val {f : α → Env → R β} : R.bind (some (.val a ρ)) f = f a ρ := rfl
theorem bind_exc {f : α → Env → R β} : R.bind (some (.exc x w)) f = some (.exc x w) := rfl
theorem toF_val {f : α → Env → Option Fl} : R.toF (some (.val a ρ)) f = f a ρ := rfl
theorem toF_exc {f : α → Env → Option Fl} : R.toF (some (.exc x w) : R α) f = some (.exc x w) := rfl
end
/-! ### sizes -/
class Bd (x : Int) (n : outParam Nat) : Prop where
  h : x.natAbs < 2 ^ n
theorem pow_le2 {a b : Nat} (h : a ≤ b) : (2 : Nat) ^ a ≤ 2 ^ b := Nat.pow_le_pow_right (by omega) h
theorem lt_pow {k a : Nat} (h : k < 2 ^ a) (b : Nat) (hb : a ≤ b) : k < 2 ^ b := Nat.lt_of_lt_of_le h (pow_le2 hb)
theorem Bd.le {x : Int} {n m : Nat} (b : Bd x n) (h : n ≤ m) : Bd x m := ⟨lt_pow b.h _ h⟩
section
variable {x y : Int} {n m : Nat}
instance (k : Nat) : Bd (no_index (OfNat.ofNat k) : Int) (k.log2 + 1) := ⟨by
  show k < 2 ^ (k.log2 + 1)
  exact Nat.lt_log2_self⟩
instance [h1 : Bd x n] [h2 : Bd y m] : Bd (x + y) (max n m + 1) := ⟨by
  have a := lt_pow h1.h (max n m) (Nat.le_max_left ..)
  have b := lt_pow h2.h (max n m) (Nat.le_max_right ..)
  rw [Nat.pow_succ]
  omega⟩
instance [h1 : Bd x n] [h2 : Bd y m] : Bd (x - y) (max n m + 1) := ⟨by
  have a := lt_pow h1.h (max n m) (Nat.le_max_left ..)
  have b := lt_pow h2.h (max n m) (Nat.le_max_right ..)
  rw [Nat.pow_succ]
  omega⟩
instance [h1 : Bd x n] : Bd (-x) n := ⟨by rw [Int.natAbs_neg]; exact h1.h⟩
instance [h1 : Bd x n] : Bd (x.natAbs : Int) n := ⟨by rw [Int.natAbs_natCast]; exact h1.h⟩
theorem wide_lt {i j : Int} {a b : Nat} (ha : i.natAbs < 2 ^ a) (hb : j.natAbs < 2 ^ b) : (i * j).natAbs < 2 ^ (a + b) := by
  rw [Int.natAbs_mul, Nat.pow_add]
  exact Nat.mul_lt_mul'' ha hb
instance [h1 : Bd x n] [h2 : Bd y m] : Bd (x * y) (n + m) := ⟨wide_lt h1.h h2.h⟩
instance [h1 : Bd x n] : Bd (x.fdiv y) n := ⟨by
  refine Nat.lt_of_le_of_lt ?_ h1.h
  by_cases hy : y = 0
  · subst hy; rw [Int.fdiv_zero]; exact Nat.zero_le _
  · rcases Int.lt_or_gt_of_ne hy with h | h
    · have e : x.fdiv y = (-x).fdiv (-y) := by rw [Int.neg_fdiv_neg]
      rw [e, Int.fdiv_eq_ediv_of_nonneg _ (by omega), ← Int.natAbs_neg x]
      generalize -x = z
      generalize hw : -y = w
      have hw : 0 < w := by omega
      rcases Int.lt_or_le z 0 with hz | hz
      · have l : z ≤ z / w := by
          have := Int.mul_ediv_self_le (x := z) (k := w) (by omega)
          have h2 := Int.lt_mul_ediv_self_add (x := z) (k := w) (by omega)
          have h3 : z / w < 0 := Int.ediv_neg_of_neg_of_pos hz hw
          have h4 : w * (z / w) ≤ 1 * (z / w) := Int.mul_le_mul_of_nonpos_right (by omega) (by omega)
          have h5 : z / w * 1 ≤ 0 := by omega
          rw [Int.one_mul] at h4
          have h6 : z < w * (z / w) + w := h2
          have h7 : (w - 1) * (z / w + 1) ≤ 0 := Int.mul_nonpos_of_nonneg_of_nonpos (by omega) (by omega)
          have h8 : (w - 1) * (z / w + 1) = w * (z / w) + w - (z / w) - 1 := by
            rw [Int.sub_mul, Int.mul_add, Int.mul_one, Int.one_mul]; omega
          omega
        have : z / w < 0 := Int.ediv_neg_of_neg_of_pos hz hw
        omega
      · have l := Int.ediv_le_self w hz
        have := Int.ediv_nonneg hz (Int.le_of_lt hw)
        omega
    · rw [Int.fdiv_eq_ediv_of_nonneg _ (by omega)]
      generalize x = z
      rcases Int.lt_or_le z 0 with hz | hz
      · have l : z ≤ z / y := by
          have h2 := Int.lt_mul_ediv_self_add (x := z) (k := y) (by omega)
          have h3 : z / y < 0 := Int.ediv_neg_of_neg_of_pos hz h
          have h7 : (y - 1) * (z / y + 1) ≤ 0 := Int.mul_nonpos_of_nonneg_of_nonpos (by omega) (by omega)
          have h8 : (y - 1) * (z / y + 1) = y * (z / y) + y - (z / y) - 1 := by
            rw [Int.sub_mul, Int.mul_add, Int.mul_one, Int.one_mul]; omega
          omega
        have : z / y < 0 := Int.ediv_neg_of_neg_of_pos hz h
        omega
      · have l := Int.ediv_le_self y hz
        have := Int.ediv_nonneg hz (Int.le_of_lt h)
        omega⟩
theorem fmod_lt (a : Int) {b : Int} (h : b ≠ 0) : (a.fmod b).natAbs < b.natAbs := by
  rcases Int.lt_or_gt_of_ne h with h | h
  · have e : a.fmod b = -((-a).fmod (-b)) := by rw [Int.neg_fmod_neg, Int.neg_neg]
    have h1 := Int.fmod_nonneg_of_pos (-a) (b := -b) (by omega)
    have h2 := Int.fmod_lt_of_pos (-a) (b := -b) (by omega)
    omega
  · have h1 := Int.fmod_nonneg_of_pos a h
    have h2 := Int.fmod_lt_of_pos a h
    omega
instance [h1 : Bd x n] [h2 : Bd y m] : Bd (x.fmod y) (max n m) := ⟨by
  by_cases hy : y = 0
  · subst hy; rw [Int.fmod_zero]; exact lt_pow h1.h _ (Nat.le_max_left ..)
  · exact Nat.lt_trans (fmod_lt x hy) (lt_pow h2.h _ (Nat.le_max_right ..))⟩
instance {p : Prop} [Decidable p] [h1 : Bd x n] [h2 : Bd y m] : Bd (if p then x else y) (max n m) := ⟨by
  split
  · exact lt_pow h1.h _ (Nat.le_max_left ..)
  · exact lt_pow h2.h _ (Nat.le_max_right ..)⟩
theorem Bd.mod_lit (x : Int) {k : Int} (h : 0 < k) {n : Nat} (hk : k.natAbs < 2 ^ n) : Bd (x.fmod k) n := ⟨Nat.lt_trans (fmod_lt x (by omega)) hk⟩
/-- * of bounded numbers -/
theorem mulOk_bd [h1 : Bd x n] [h2 : Bd y m] (h : n + m ≤ 999998) : MulOk x y :=
  CMulW.ok (wide_mul (lt_pow h1.h (n + 1) (by omega)) (lt_pow h2.h (m + 1) (by omega)) (by omega) (by omega) (by omega))
theorem bits_le {y : Int} {m : Nat} (h : y.natAbs < 2 ^ m) (hm : m ≤ 63) : Builtin.Int.intBits y ≤ 64 := by
  have := lt_pow h 63 hm
  have e : (2 : Nat) ^ 63 = 9223372036854775808 := by decide
  rw [e] at this
  exact PySem.intBits_le_64 (by omega) (by omega)
theorem mulOk_r (x : Int) [h2 : Bd y m] (h : m ≤ 63) : MulOk x y := IntMulOk.of_right (bits_le h2.h h)
theorem mulOk_l (y : Int) [h1 : Bd x n] (h : n ≤ 63) : MulOk x y := IntMulOk.of_left (bits_le h1.h h)
theorem divOk_bd (x : Int) [h2 : Bd y m] (h0 : y ≠ 0) (h : m ≤ 8999) : DivOk x y :=
  ⟨h0, PyProof.noPylong_of_log2 (Nat.lt_of_lt_of_le (PySem.Flt.log2_lt_of (by omega) (lt_pow h2.h 8999 h)) (by omega))⟩
theorem log_bd [h1 : Bd x n] (h : n ≤ 1919) (hn : 0 < n) : x.natAbs.log2 < 1920 := Nat.lt_of_lt_of_le (PySem.Flt.log2_lt_of (by omega) h1.h) (by omega)
end
theorem kit_NoneType_int : kitB "NoneType" "int" = some false := by decide +kernel
theorem kit_NoneType_bool : kitB "NoneType" "bool" = some false := by decide +kernel
theorem kit_NoneType_str : kitB "NoneType" "str" = some false := by decide +kernel
theorem kit_NoneType_tuple : kitB "NoneType" "tuple" = some false := by decide +kernel
theorem kit_NoneType_list : kitB "NoneType" "list" = some false := by decide +kernel
theorem kit_NoneType_dict : kitB "NoneType" "dict" = some false := by decide +kernel
theorem kit_bool_int : kitB "bool" "int" = some true := by decide +kernel
theorem kit_bool_bool : kitB "bool" "bool" = some true := by decide +kernel
theorem kit_bool_str : kitB "bool" "str" = some false := by decide +kernel
theorem kit_bool_tuple : kitB "bool" "tuple" = some false := by decide +kernel
theorem kit_bool_list : kitB "bool" "list" = some false := by decide +kernel
theorem kit_bool_dict : kitB "bool" "dict" = some false := by decide +kernel
theorem kit_int_int : kitB "int" "int" = some true := by decide +kernel
theorem kit_int_bool : kitB "int" "bool" = some false := by decide +kernel
theorem kit_int_str : kitB "int" "str" = some false := by decide +kernel
theorem kit_int_tuple : kitB "int" "tuple" = some false := by decide +kernel
theorem kit_int_list : kitB "int" "list" = some false := by decide +kernel
theorem kit_int_dict : kitB "int" "dict" = some false := by decide +kernel
theorem kit_str_int : kitB "str" "int" = some false := by decide +kernel
theorem kit_str_bool : kitB "str" "bool" = some false := by decide +kernel
theorem kit_str_str : kitB "str" "str" = some true := by decide +kernel
theorem kit_str_tuple : kitB "str" "tuple" = some false := by decide +kernel
theorem kit_str_list : kitB "str" "list" = some false := by decide +kernel
theorem kit_str_dict : kitB "str" "dict" = some false := by decide +kernel
theorem kit_list_int : kitB "list" "int" = some false := by decide +kernel
theorem kit_list_bool : kitB "list" "bool" = some false := by decide +kernel
theorem kit_list_str : kitB "list" "str" = some false := by decide +kernel
theorem kit_list_tuple : kitB "list" "tuple" = some false := by decide +kernel
theorem kit_list_list : kitB "list" "list" = some true := by decide +kernel
theorem kit_list_dict : kitB "list" "dict" = some false := by decide +kernel
theorem kit_tuple_int : kitB "tuple" "int" = some false := by decide +kernel
theorem kit_tuple_bool : kitB "tuple" "bool" = some false := by decide +kernel
theorem kit_tuple_str : kitB "tuple" "str" = some false := by decide +kernel
theorem kit_tuple_tuple : kitB "tuple" "tuple" = some true := by decide +kernel
theorem kit_tuple_list : kitB "tuple" "list" = some false := by decide +kernel
theorem kit_tuple_dict : kitB "tuple" "dict" = some false := by decide +kernel
theorem kit_dict_int : kitB "dict" "int" = some false := by decide +kernel
theorem kit_dict_bool : kitB "dict" "bool" = some false := by decide +kernel
theorem kit_dict_str : kitB "dict" "str" = some false := by decide +kernel
theorem kit_dict_tuple : kitB "dict" "tuple" = some false := by decide +kernel
theorem kit_dict_list : kitB "dict" "list" = some false := by decide +kernel
theorem kit_dict_dict : kitB "dict" "dict" = some true := by decide +kernel
/-! ### further rules of reckoning -/
theorem atI_nat {α : Type} (xs : List α) (j : Nat) : atI xs (j : Int) = xs[j]? := by
  unfold atI ixN
  rw [if_pos (by omega)]
  by_cases h : j < xs.length
  · rw [if_pos (by omega)]
    rfl
  · rw [if_neg (by omega), List.getElem?_eq_none (by omega)]
    rfl
theorem atI_lit {α : Type} (xs : List α) (n : Nat) : atI xs (no_index (OfNat.ofNat n) : Int) = xs[n]? := atI_nat xs n
theorem atI_last {α : Type} (xs : List α) : atI xs (-1) = xs[xs.length - 1]? := by
  unfold atI ixN
  rw [if_neg (by omega)]
  by_cases h : xs = []
  · subst h; rfl
  · have := List.length_pos_iff.mpr h
    rw [if_pos (by omega)]
    show xs[(-1 + (xs.length : Int)).toNat]? = _
    congr 1
    omega
theorem ixN_nat (n j : Nat) : ixN n (j : Int) = if j < n then some j else none := by
  unfold ixN
  rw [if_pos (by omega)]
  by_cases h : j < n
  · rw [if_pos (by omega), if_pos h]; rfl
  · rw [if_neg (by omega), if_neg h]
theorem ixN_lit (n j : Nat) : ixN n (no_index (OfNat.ofNat j) : Int) = if j < n then some j else none := ixN_nat n j
theorem cut_nn (xs : List D) (lo hi : Nat) : cutD xs (some (lo : Int)) (some (hi : Int)) = (xs.drop lo).take (hi - lo) := by
  unfold cutD
  rw [HT.sIx_nat, HT.sIx_nat]
  by_cases h : lo ≤ xs.length
  · rw [show min lo xs.length = lo from Nat.min_eq_left h]
    by_cases h2 : hi ≤ xs.length
    · rw [Nat.min_eq_left h2]
    · rw [show min hi xs.length = xs.length from Nat.min_eq_right (by omega), List.take_of_length_le (by rw [List.length_drop]; omega), List.take_of_length_le (by rw [List.length_drop]; omega)]
  · rw [show min lo xs.length = xs.length from Nat.min_eq_right (by omega), List.drop_of_length_le (Nat.le_refl _), List.drop_of_length_le (show xs.length ≤ lo by omega), List.take_nil, List.take_nil]
/-! ### == -/
theorem eqD_nn : eqD .non .non = true := rfl
theorem eqD_ii (a b : Int) : eqD (.int a) (.int b) = decide (a = b) := by
  rw [Bool.eq_iff_iff, decide_eq_true_eq]
  exact beq_iff_eq
theorem eqD_bb (a b : Bool) : eqD (.bl a) (.bl b) = decide (a = b) := by cases a <;> cases b <;> rfl
theorem eqD_ss (a b : Str) : eqD (.str a) (.str b) = decide (a = b) := by
  rw [Bool.eq_iff_iff, decide_eq_true_eq]
  exact beq_iff_eq
theorem eqD_tt (xs ys : List D) : eqD (.tup xs) (.tup ys) = eqD.eqs xs ys := rfl
theorem eqD_ll (xs ys : List D) : eqD (.lst xs) (.lst ys) = eqD.eqs xs ys := rfl
theorem eqs_nn : eqD.eqs [] [] = true := rfl
theorem eqs_cc (x y : D) (xs ys : List D) : eqD.eqs (x :: xs) (y :: ys) = (eqD x y && eqD.eqs xs ys) := rfl
theorem eqs_nc (y : D) (ys : List D) : eqD.eqs [] (y :: ys) = false := rfl
theorem eqs_cn (y : D) (ys : List D) : eqD.eqs (y :: ys) [] = false := rfl
theorem beq_str (a b : Str) : (a == b) = decide (a = b) := by
  rw [Bool.eq_iff_iff, decide_eq_true_eq]
  exact beq_iff_eq
theorem beq_int (a b : Int) : (a == b) = decide (a = b) := by
  rw [Bool.eq_iff_iff, decide_eq_true_eq]
  exact beq_iff_eq
theorem int_inj (a b : Int) : (D.int a = D.int b) = (a = b) := by
  apply propext
  constructor
  · intro h; injection h
  · intro h; rw [h]
end P

namespace P
open PySem L2
/-! ### loops, plainly -/
section
variable {ft : FT} {fb : FS} {fg : FG} {fe : FE} {vs : List Nat} {k : Nat} {ρ : Env}
theorem sWhile_ind (J : Nat → Env → Prop) (Rr : Env → Prop) (h : ∀ m ρ, J m ρ → (ft ρ = some (.val false ρ) ∧ Rr ρ) ∨ ∃ ρ' m', ft ρ = some (.val true ρ) ∧ fb ρ = some (.nxt ρ') ∧ m' < m ∧ J m' ρ') : ∀ {m : Nat} {ρ : Env}, J m ρ → ∃ ρ', sWhile ft fb ρ = some (.nxt ρ') ∧ Rr ρ' := by
  have key : ∀ m ρ, J m ρ → ∃ n ρ', whileF ft fb n ρ = some (.nxt ρ') ∧ Rr ρ' := fun m => by
    induction m using Nat.strongRecOn with
    | _ m ih =>
      intro ρ hJ
      rcases h m ρ hJ with ⟨h1, h2⟩ | ⟨ρ', m', h1, h2, h3, h4⟩
      · exact ⟨1, ρ, by unfold whileF; rw [h1]; rfl, h2⟩
      · obtain ⟨n, ρ2, e, r⟩ := ih m' h3 ρ' h4
        refine ⟨n + 1, ρ2, ?_, r⟩
        unfold whileF
        rw [h1]
        rw [toF_val, if_pos rfl, h2]
        exact e
  intro m ρ hJ
  obtain ⟨n, ρ', e, r⟩ := key m ρ hJ
  exact ⟨ρ', sWhile_of e, r⟩
/-- a loop that goes through: J i is known ahead of the turn i -/
theorem loop_inv (J : Nat → Env → Prop) : ∀ {ds : List D} {i : Nat} {ρ : Env}, J i ρ → (∀ j d ρ, ds[j]? = some d → J (i + j) ρ → ∃ ρ1 ρ2, fg (.ow 0, d) ρ = some ρ1 ∧ (fb ρ1 = some (.nxt ρ2) ∨ fb ρ1 = some (.cnt ρ2)) ∧ J (i + j + 1) ρ2) → ∃ ρ', loop fg fb ds ρ = some (.nxt ρ') ∧ J (i + ds.length) ρ'
  | [], i, ρ, hJ, _ => ⟨ρ, rfl, hJ⟩
  | d :: ds, i, ρ, hJ, h => by
    obtain ⟨ρ1, ρ2, e1, e2, hJ2⟩ := h 0 d ρ rfl hJ
    obtain ⟨ρ', e3, hJ3⟩ := loop_inv J (ds := ds) (i := i + 1) hJ2 fun j d' ρ3 hd hj => by
      have e : i + (j + 1) = i + 1 + j := by omega
      have y := h (j + 1) d' ρ3 hd (by rw [e]; exact hj)
      rw [e] at y
      exact y
    refine ⟨ρ', ?_, by rw [List.length_cons, show i + (ds.length + 1) = i + 1 + ds.length by omega]; exact hJ3⟩
    unfold loop
    rw [e1]
    rcases e2 with e2 | e2
    · dsimp only
      rw [e2]
      exact e3
    · dsimp only
      rw [e2]
      exact e3
/-- a loop by its state -/
theorem loop_fold {α β : Type} (S : α → Env → Prop) (u : β → D) (step : α → β → α) : ∀ {xs : List β} {a : α} {ρ : Env}, S a ρ → (∀ a x ρ, x ∈ xs → S a ρ → ∃ ρ1 ρ2, fg (.ow 0, u x) ρ = some ρ1 ∧ (fb ρ1 = some (.nxt ρ2) ∨ fb ρ1 = some (.cnt ρ2)) ∧ S (step a x) ρ2) → ∃ ρ', loop fg fb (xs.map u) ρ = some (.nxt ρ') ∧ S (xs.foldl step a) ρ'
  | [], a, ρ, hJ, _ => ⟨ρ, rfl, hJ⟩
  | x :: xs, a, ρ, hJ, h => by
    obtain ⟨ρ1, ρ2, e1, e2, hJ2⟩ := h a x ρ (List.mem_cons_self ..) hJ
    obtain ⟨ρ', e3, hJ3⟩ := loop_fold S u step (xs := xs) hJ2 fun a y ρ hy => h a y ρ (List.mem_cons_of_mem _ hy)
    refine ⟨ρ', ?_, hJ3⟩
    rw [List.map_cons]
    unfold loop
    rw [e1]
    rcases e2 with e2 | e2
    · dsimp only
      rw [e2]
      exact e3
    · dsimp only
      rw [e2]
      exact e3
theorem lcGo_map {β : Type} {u f : β → D} : ∀ {xs : List β}, (∀ x, x ∈ xs → lcOne vs fg ft fe k ρ (u x) = some (some (f x))) → lcGo vs fg ft fe k ρ (xs.map u) = some (xs.map f)
  | [], _ => rfl
  | x :: xs, h => by
    rw [List.map_cons]
    unfold lcGo
    rw [h x (List.mem_cons_self ..)]
    dsimp only
    rw [lcGo_map (xs := xs) fun y hy => h y (List.mem_cons_of_mem _ hy)]
    rfl
theorem lcGo_fm {β : Type} {u : β → D} {f : β → Option D} : ∀ {xs : List β}, (∀ x, x ∈ xs → lcOne vs fg ft fe k ρ (u x) = some (f x)) → lcGo vs fg ft fe k ρ (xs.map u) = some (xs.filterMap f)
  | [], _ => rfl
  | x :: xs, h => by
    rw [List.map_cons]
    unfold lcGo
    rw [h x (List.mem_cons_self ..), List.filterMap_cons]
    have ih := lcGo_fm (xs := xs) fun y hy => h y (List.mem_cons_of_mem _ hy)
    cases f x with
    | none => exact ih
    | some a =>
      dsimp only
      rw [ih]
theorem lcGo_id {f : D → D} {ds : List D} (h : ∀ d, d ∈ ds → lcOne vs fg ft fe k ρ d = some (some (f d))) : lcGo vs fg ft fe k ρ ds = some (ds.map f) := by
  have y := lcGo_map (u := id) h
  rwa [List.map_id] at y
end
theorem rangeD_map (n : Nat) : rangeD 0 n = (List.range n).map fun (i : Nat) => D.int (i : Int) := by
  unfold rangeD
  congr 1
  funext i
  rw [Int.zero_add]
theorem fmod_eq (a b : Int) : a.fmod b = a - b * a.fdiv b := Int.fmod_def a b
theorem gcd_fmod (a b : Int) : Int.gcd b (a.fmod b) = Int.gcd a b := by
  rw [fmod_eq, Int.gcd_sub_mul_left_right, Int.gcd_comm]
theorem fmod_pos (a : Int) {b : Int} (h : 0 < b) : 0 ≤ a.fmod b ∧ a.fmod b < b := ⟨Int.fmod_nonneg_of_pos a h, Int.fmod_lt_of_pos a h⟩
theorem fmod_neg (a : Int) {b : Int} (h : b < 0) : b < a.fmod b ∧ a.fmod b ≤ 0 := by
  have h1 := fmod_pos (-a) (b := -b) (by omega)
  rw [Int.neg_fmod_neg] at h1
  omega
theorem fdiv_le (a : Int) {b : Int} (h : b ≠ 0) : (a.fdiv b).natAbs ≤ a.natAbs := by
  have e := Int.mul_fdiv_add_fmod a b
  have hl := fmod_lt a h
  generalize hq : a.fdiv b = q at *
  generalize hr : a.fmod b = r at *
  have e1 : (b * q).natAbs = b.natAbs * q.natAbs := Int.natAbs_mul b q
  by_cases hq0 : q.natAbs ≤ 1
  · by_cases ha : a = 0
    · subst ha
      rw [Int.zero_fdiv] at hq
      omega
    · omega
  · have h2 : 2 * q.natAbs ≤ b.natAbs * q.natAbs ∨ b.natAbs = 1 := by
      by_cases hb : b.natAbs = 1
      · exact .inr hb
      · exact .inl (Nat.mul_le_mul_right _ (by omega))
    rcases h2 with h2 | h2
    · have h3 : b.natAbs * 2 ≤ b.natAbs * q.natAbs := Nat.mul_le_mul_left _ (by omega)
      have h4 : b.natAbs * q.natAbs = b.natAbs * (q.natAbs - 1) + b.natAbs := by
        rw [← Nat.mul_succ]
        congr 1
        omega
      have h5 : 1 * (q.natAbs - 1) ≤ b.natAbs * (q.natAbs - 1) := Nat.mul_le_mul_right _ (by omega)
      omega
    · rw [h2, Nat.one_mul] at e1
      omega
theorem log_lt {k : Nat} (h : k < 2 ^ 500) : k.log2 < 9000 := Nat.lt_of_lt_of_le (PySem.Flt.log2_lt_of (by omega) h) (by omega)
/-- the k-th number of a script -/
def cellOf (ns : List Int) (k : Nat) : Int := (ns[k]?).getD 0
theorem cell_cut (ns : List Int) (k : Nat) (hl : ns.length ≤ 63) : cutD (ns.map D.int) (some (k : Int)) (some ((k : Int) + 1)) = ((ns.drop k).take 1).map D.int := by
  unfold cutD
  have e : ((k : Int) + 1) = ((k + 1 : Nat) : Int) := by omega
  rw [e, HT.sIx_nat, HT.sIx_nat, List.length_map, ← List.map_drop, ← List.map_take]
  congr 1
  by_cases h : k < ns.length
  · rw [show min k ns.length = k by omega, show min (k + 1) ns.length - k = 1 by omega]
  · rw [List.drop_eq_nil_of_le (show ns.length ≤ min k ns.length by omega), List.drop_eq_nil_of_le (show ns.length ≤ k by omega), List.take_nil, List.take_nil]
theorem cell_at (ns : List Int) (k : Nat) : atI (((ns.drop k).take 1).map D.int ++ [D.int 0]) 0 = some (D.int (cellOf ns k)) := by
  have e : (0 : Int) = ((0 : Nat) : Int) := rfl
  conv => lhs; rw [e]
  rw [atI_nat]
  unfold cellOf
  by_cases h : k < ns.length
  · rw [List.drop_eq_getElem_cons h, List.getElem?_eq_getElem h]
    rfl
  · rw [List.drop_eq_nil_of_le (show ns.length ≤ k by omega), List.getElem?_eq_none (show ns.length ≤ k by omega)]
    rfl
theorem log_lt9 {k : Nat} (h : k < 2 ^ 8999) : k.log2 < 9000 := Nat.lt_of_lt_of_le (PySem.Flt.log2_lt_of (by omega) h) (by omega)
/-- no pylong by a divisor below 2 ^ 8999 -/
theorem noPy {x y : Int} (h : y.natAbs < 2 ^ 8999) : Builtin.divisionGoesByPylong x y = false := PyProof.noPylong_of_log2 (log_lt9 h)
theorem mulW {i j : Int} {a b : Nat} (ha : i.natAbs < 2 ^ a) (hb : j.natAbs < 2 ^ b) (h : a + b ≤ 999998) : CMulW i j :=
  wide_mul (a := a + 1) (b := b + 1) (Nat.lt_trans ha (Nat.pow_lt_pow_right (by omega) (by omega))) (Nat.lt_trans hb (Nat.pow_lt_pow_right (by omega) (by omega))) (by omega) (by omega) (by omega)
/-- a fraction as data -/
abbrev fr (p : Int × Int) : D := .tup [.int p.1, .int p.2]
def IsFr (p : Int × Int) : Prop := 0 < p.2 ∧ Int.gcd p.1 p.2 = 1
def lowest (t b : Int) : Int × Int := (t / (Int.gcd t b : Nat), b / (Int.gcd t b : Nat))
theorem lowest_fr {t b : Int} (h : 0 < b) : IsFr (lowest t b) := by
  have g := Int.gcd_pos_of_ne_zero_right t (show b ≠ 0 by omega)
  refine ⟨?_, Int.gcd_ediv_gcd_ediv_gcd g⟩
  have h1 := Int.gcd_dvd_right t b
  have h2 := Int.ediv_mul_cancel h1
  show 0 < b / ((Int.gcd t b : Nat) : Int)
  by_cases z : 0 < b / ((Int.gcd t b : Nat) : Int)
  · exact z
  · have := Int.mul_nonpos_of_nonpos_of_nonneg (a := b / ((Int.gcd t b : Nat) : Int)) (b := ((Int.gcd t b : Nat) : Int)) (by omega) (by omega)
    omega
theorem lowest_mul (t b : Int) : (lowest t b).1 * (Int.gcd t b : Nat) = t ∧ (lowest t b).2 * (Int.gcd t b : Nat) = b := ⟨Int.ediv_mul_cancel (Int.gcd_dvd_left t b), Int.ediv_mul_cancel (Int.gcd_dvd_right t b)⟩
theorem lowest_le (t b : Int) : (lowest t b).1.natAbs ≤ t.natAbs ∧ (lowest t b).2.natAbs ≤ b.natAbs := by
  have h := lowest_mul t b
  by_cases g : Int.gcd t b = 0
  · have z := Int.gcd_eq_zero_iff.mp g
    unfold lowest
    rw [z.1, z.2]
    decide
  · have k1 := Int.natAbs_mul (lowest t b).1 (Int.gcd t b : Nat)
    have k2 := Int.natAbs_mul (lowest t b).2 (Int.gcd t b : Nat)
    rw [h.1] at k1
    rw [h.2] at k2
    rw [Int.natAbs_natCast] at k1 k2
    have j1 : (lowest t b).1.natAbs * 1 ≤ (lowest t b).1.natAbs * Int.gcd t b := Nat.mul_le_mul_left _ (by omega)
    have j2 : (lowest t b).2.natAbs * 1 ≤ (lowest t b).2.natAbs * Int.gcd t b := Nat.mul_le_mul_left _ (by omega)
    omega
theorem gcd_le_r {t b : Int} (h : b ≠ 0) : Int.gcd t b ≤ b.natAbs := Int.gcd_le_natAbs_right t h
theorem min_max_perm (a b : Nat) : ([((min a b : Nat) : Int), ((max a b : Nat) : Int)] : List Int).Perm [(a : Int), (b : Int)] ∧ ([((min a b : Nat) : Int), ((max a b : Nat) : Int)] : List Int).Pairwise (· ≤ ·) := by
  refine ⟨?_, by simp; omega⟩
  rcases Nat.le_total a b with h | h
  · rw [Nat.min_eq_left h, Nat.max_eq_right h]
  · rw [Nat.min_eq_right h, Nat.max_eq_left h]
    exact List.Perm.swap ..
/-- the fraction that the program makes of two numbers -/
def ratioF (t b : Int) : Int × Int := (t.fdiv (if b < 0 then 0 - (Int.gcd t b : Nat) else (Int.gcd t b : Nat)), b.fdiv (if b < 0 then 0 - (Int.gcd t b : Nat) else (Int.gcd t b : Nat)))
theorem fdiv_exact {x g : Int} (hg : g ≠ 0) (h : g ∣ x) : x.fdiv g * g = x := Int.fdiv_mul_cancel_of_fmod_eq_zero (Int.fmod_eq_zero_of_dvd h)
theorem ratioF_spec {t b : Int} (h : b ≠ 0) : IsFr (ratioF t b) ∧ (ratioF t b).1 * b = t * (ratioF t b).2 := by
  have g0 := Int.gcd_pos_of_ne_zero_right t h
  have d1 := Int.gcd_dvd_left t b
  have d2 := Int.gcd_dvd_right t b
  have key : ∀ s : Int, (s = (Int.gcd t b : Nat) ∧ 0 < b) ∨ (s = 0 - (Int.gcd t b : Nat) ∧ b < 0) → 0 < b.fdiv s ∧ Int.gcd (t.fdiv s) (b.fdiv s) = 1 ∧ t.fdiv s * b = t * b.fdiv s := fun s hs => by
    have s0 : s ≠ 0 := by omega
    have sa : s.natAbs = Int.gcd t b := by omega
    have e1 : s ∣ t := by
      rcases hs with ⟨rfl, _⟩ | ⟨rfl, _⟩
      · exact d1
      · rw [Int.zero_sub]; exact Int.neg_dvd.mpr d1
    have e2 : s ∣ b := by
      rcases hs with ⟨rfl, _⟩ | ⟨rfl, _⟩
      · exact d2
      · rw [Int.zero_sub]; exact Int.neg_dvd.mpr d2
    have f1 := fdiv_exact s0 e1
    have f2 := fdiv_exact s0 e2
    generalize t.fdiv s = p at *
    generalize b.fdiv s = q at *
    refine ⟨?_, ?_, ?_⟩
    · rcases hs with ⟨hs, hb⟩ | ⟨hs, hb⟩
      · by_cases z : 0 < q
        · exact z
        · have := Int.mul_nonpos_of_nonpos_of_nonneg (a := q) (b := s) (by omega) (by omega)
          omega
      · by_cases z : 0 < q
        · exact z
        · have := Int.mul_nonneg_of_nonpos_of_nonpos (a := q) (b := s) (by omega) (by omega)
          omega
    · have k : Int.gcd (p * s) (q * s) = Int.gcd p q * s.natAbs := Int.gcd_mul_right p s q
      rw [f1, f2, sa] at k
      have : Int.gcd t b * 1 = Int.gcd t b * Int.gcd p q := by
        rw [Nat.mul_one, Nat.mul_comm]
        exact k
      exact (Nat.eq_of_mul_eq_mul_left g0 this).symm
    · rw [← f1, ← f2, Int.mul_comm q s, Int.mul_assoc]
  unfold ratioF IsFr
  by_cases hb : b < 0
  · simp only [if_pos hb]
    have k := key _ (.inr ⟨rfl, hb⟩)
    exact ⟨⟨k.1, k.2.1⟩, k.2.2⟩
  · simp only [if_neg hb]
    have k := key _ (.inl ⟨rfl, by omega⟩)
    exact ⟨⟨k.1, k.2.1⟩, k.2.2⟩
theorem ratioF_le {t b : Int} (h : b ≠ 0) : (ratioF t b).1.natAbs ≤ t.natAbs ∧ (ratioF t b).2.natAbs ≤ b.natAbs := by
  have g0 := Int.gcd_pos_of_ne_zero_right t h
  unfold ratioF
  split
  · exact ⟨fdiv_le _ (by omega), fdiv_le _ (by omega)⟩
  · exact ⟨fdiv_le _ (by omega), fdiv_le _ (by omega)⟩
theorem add_lt {a b : Int} {k : Nat} (ha : a.natAbs < 2 ^ k) (hb : b.natAbs < 2 ^ k) : (a + b).natAbs < 2 ^ (k + 1) ∧ (a - b).natAbs < 2 ^ (k + 1) := by
  have : (2 : Nat) ^ (k + 1) = 2 * 2 ^ k := by rw [Nat.pow_succ, Nat.mul_comm]
  omega
/-! ### the texts of numbers -/
theorem tl_decn (n : Nat) : (decI (n : Int)).cps.toList = TL.numL n := TL.tl_num n
theorem tl_decneg (m : Nat) : (decI (Int.negSucc m)).cps.toList = 45 :: TL.numL (m + 1) := by
  show (Str.ofString ("-" ++ Nat.repr (m + 1))).cps.toList = _
  rw [Str.ofString_eq_toList]
  show (("-" ++ Nat.repr (m + 1)).toList.map Char.toNat) = _
  rw [String.toList_append, List.map_append, Nat.toList_repr]
  rfl
theorem numL_head : ∀ (n : Nat), 0 < n → ∃ c r, TL.numL n = c :: r ∧ 49 ≤ c := by
  intro n
  induction n using Nat.strongRecOn with
  | _ n ih =>
    intro h
    by_cases h10 : n < 10
    · exact ⟨48 + n, [], TL.numL_lt h10, by omega⟩
    · obtain ⟨c, r, e, hc⟩ := ih (n / 10) (by omega) (by omega)
      exact ⟨c, r ++ [48 + n % 10], by rw [TL.numL_step (by omega), e]; rfl, hc⟩
theorem dec_len {i : Int} {k : Nat} (hk : 0 < k) (h : i.natAbs < 10 ^ k) : (decI i).length ≤ k + 1 := by
  have e : (decI i).cps.toList.length = (decI i).length := Array.length_toList
  rw [← e]
  cases i with
  | ofNat n =>
    have q := TL.numL_len hk (show n < 10 ^ k from h)
    rw [show (decI (Int.ofNat n)).cps.toList = TL.numL n from tl_decn n]
    omega
  | negSucc m =>
    have q := TL.numL_len hk (show m + 1 < 10 ^ k from h)
    rw [tl_decneg, List.length_cons]
    omega
theorem cut_first {x : Str} {c : Nat} {r : List Nat} (e : x.cps.toList = c :: r) : cutS x none (some 1) = ⟨#[c]⟩ ∧ (cutS x (some 1) none).cps.toList = r := by
  have l : x.length = r.length + 1 := by
    have q : x.cps.toList.length = x.length := Array.length_toList
    rw [e, List.length_cons] at q
    exact q.symm
  have s1 : HT.sIx x.length 0 (some 1) = 1 := by
    rw [show (1 : Int) = ((1 : Nat) : Int) from rfl, HT.sIx_nat]
    omega
  have s2 : HT.sIx x.length x.length (some 1) = 1 := by
    rw [show (1 : Int) = ((1 : Nat) : Int) from rfl, HT.sIx_nat]
    omega
  constructor
  · unfold cutS
    rw [s2, e]
    rfl
  · show ((x.cps.toList.drop (HT.sIx x.length 0 (some 1))).take (x.length - HT.sIx x.length 0 (some 1))) = r
    rw [s1, e, l]
    show r.take _ = r
    exact List.take_of_length_le (by omega)
end P

namespace P
open PySem L2
/-! the combinators, applied -/
theorem eVar_ap (i : Nat) (ρ : Env) : eVar i ρ = match look ρ i with
  | some (0, d) => some (.val (.ow 0, d) ρ)
  | some (_ + 1, d) => some (.val (.bw, d) ρ)
  | none => none := rfl
theorem eFz_ap (i : Nat) (ρ : Env) : eFz i ρ = match look ρ i with
  | some (_, d) => some (.val (.ow 0, d) (ρ.set i (.ow 0 d)))
  | none => none := rfl
theorem eMv_ap (i : Nat) (ρ : Env) : eMv i ρ = match look ρ i with
  | some (k, d) => some (.val (.ow k, d) (ρ.set i .no))
  | none => none := rfl
theorem eC_ap (d : D) (ρ : Env) : eC d ρ = some (.val (.ow 0, d) ρ) := rfl
theorem eOp_ap (g : Kx → Kx → Option Kx) (fa fb : FE) (ρ : Env) : eOp g fa fb ρ = (fa ρ).bind fun a ρ1 => (fb ρ1).bind fun b ρ2 => (g a b).map fun c => .val c ρ2 := rfl
theorem g2_ap (g : D → D → Option D) (a : Kx) (b : Kx) : g2 g a b = (g a.2 b.2).map fun c => (.ow 0, c) := rfl
theorem gOr_ap (g g' : Kx → Kx → Option Kx) (a : Kx) (b : Kx) : gOr g g' a b = match g a b with
  | some c => some c | none => g' a b := rfl
theorem eAnd_ap (fa fb : FE) (ρ : Env) : eAnd fa fb ρ = (fa ρ).bind fun a ρ1 => match a.2 with
  | .bl true => fb ρ1 | .bl false => some (.val (.ow 0, .bl false) ρ1) | _ => none := rfl
theorem eOr_ap (fa fb : FE) (ρ : Env) : eOr fa fb ρ = (fa ρ).bind fun a ρ1 => match a.2 with
  | .bl true => some (.val (.ow 0, .bl true) ρ1) | .bl false => fb ρ1 | _ => none := rfl
theorem eNot_ap (fa : FE) (ρ : Env) : eNot fa ρ = (fa ρ).bind fun a ρ1 => match a.2 with
  | .bl b => some (.val (.ow 0, .bl (!b)) ρ1) | _ => none := rfl
theorem bOf_ap (fa : FE) (ρ : Env) : bOf fa ρ = (fa ρ).bind fun a ρ1 => match a.2 with
  | .bl b => some (.val b ρ1) | _ => none := rfl
theorem bAnd_ap (ft fu : FT) (ρ : Env) : bAnd ft fu ρ = (ft ρ).bind fun a ρ1 => if a = true then fu ρ1 else some (.val false ρ1) := rfl
theorem bOr_ap (ft fu : FT) (ρ : Env) : bOr ft fu ρ = (ft ρ).bind fun a ρ1 => if a = true then some (.val true ρ1) else fu ρ1 := rfl
theorem bNot_ap (ft : FT) (ρ : Env) : bNot ft ρ = (ft ρ).bind fun a ρ1 => some (.val (!a) ρ1) := rfl
theorem eIf_ap (ft : FT) (fa fb : FE) (ρ : Env) : eIf ft fa fb ρ = (ft ρ).bind fun b ρ1 => if b = true then fa ρ1 else fb ρ1 := rfl
theorem aNil_ap  (ρ : Env) : aNil ρ = some (.val [] ρ) := rfl
theorem aCons_ap (fa : FE) (fs : FA) (ρ : Env) : aCons fa fs ρ = (fa ρ).bind fun a ρ1 => (fs ρ1).bind fun as ρ2 => some (.val (a :: as) ρ2) := rfl
theorem eTup_ap (k : Nat) (fs : FA) (ρ : Env) : eTup k fs ρ = (fs ρ).bind fun as ρ1 => if as.length ≤ 1000 then (match k with
  | 0 => if as.all stb' = true then some (.val (.ow 0, .tup (as.map (·.2))) ρ1) else some (.val (.bw, .tup (as.map (·.2))) ρ1)
  | k + 1 => if as.all (hasK k) = true then some (.val (.ow (k + 1), .tup (as.map (·.2))) ρ1) else none) else none := rfl
theorem eLst_ap (k : Nat) (fs : FA) (ρ : Env) : eLst k fs ρ = (fs ρ).bind fun as ρ1 => if as.length ≤ 1000 then (match k with
  | 0 => if as.all stb' = true then some (.val (.ow 1, .lst (as.map (·.2))) ρ1) else some (.val (.bw, .lst (as.map (·.2))) ρ1)
  | k + 1 => if as.all (hasK k) = true then some (.val (.ow (k + 2), .lst (as.map (·.2))) ρ1) else none) else none := rfl
theorem gIx_ap  (a : Kx) (b : Kx) : gIx a b = match b.2 with
  | .int i => (ixD a.2 i).map fun f => (kPart a.1 f, f)
  | _ => none := rfl
theorem eCall_ap (run : Run) (fs : FA) (ρ : Env) : eCall run fs ρ = (fs ρ).bind fun as ρ1 => match run (as.map (·.2)) with
  | none => none
  | some (.ret k d) => if as.all stb' = true then some (.val (.ow k, d) ρ1) else if cov k d = true then some (.val (.ow k, d) ρ1) else none
  | some (.exc x w) => if as.all stb' = true then some (.exc x w) else if flatX w = true then some (.exc x w) else none := rfl
theorem sNext_ap  (ρ : Env) : sNext ρ = some (.nxt ρ) := rfl
theorem sBrk_ap  (ρ : Env) : sBrk ρ = some (.brk ρ) := rfl
theorem sCnt_ap  (ρ : Env) : sCnt ρ = some (.cnt ρ) := rfl
theorem sNever_ap  (x0 : Env) : sNever x0 = none := rfl
theorem sSeq_ap (f g : FS) (ρ : Env) : sSeq f g ρ = match f ρ with
  | some (.nxt ρ1) => g ρ1
  | r => r := rfl
theorem sRet_ap (fe : FE) (ρ : Env) : sRet fe ρ = (fe ρ).toF fun a ρ1 => match a.1 with
  | .ow k => some (.ret k a.2) | .bw => if flat a.2 = true then some (.ret 0 a.2) else none := rfl
theorem sDrop_ap (fe : FE) (ρ : Env) : sDrop fe ρ = (fe ρ).toF fun _ ρ1 => some (.nxt ρ1) := rfl
theorem sIf_ap (ft : FT) (f g : FS) (ρ : Env) : sIf ft f g ρ = (ft ρ).toF fun b ρ1 => if b = true then f ρ1 else g ρ1 := rfl
theorem sRetN_ap  (x0 : Env) : sRetN x0 = some (.ret 0 .non) := rfl
theorem gN_ap (i : Nat) (a : Kx) (ρ : Env) : gN i a ρ = match a.1 with
  | .ow k => some (ρ.set i (.ow k a.2)) | .bw => if flat a.2 = true then some (ρ.set i (.ow 0 a.2)) else none := rfl
theorem gsNil_ap  (as : List Kx) (ρ : Env) : gsNil as ρ = match as with
  | [] => some ρ | _ => none := rfl
theorem gsCons_ap (fg : FG) (fgs : FGs) (as : List Kx) (ρ : Env) : gsCons fg fgs as ρ = match as with
  | [] => none
  | a :: as => match fg a ρ with
    | some ρ1 => fgs as ρ1 | none => none := rfl
theorem gT_ap (n : Nat) (fgs : FGs) (a : Kx) (ρ : Env) : gT n fgs a ρ = match a with
  | (.ow 0, .tup ds) => if ds.length = n then fgs (withK (.ow 0) ds) ρ else none
  | (.ow (k + 1), .tup ds) => if ds.length = n then fgs (withK (.ow (k + 1)) ds) ρ else none
  | (.ow _, .lst ds) => if ds.length = n then fgs (withK (.ow 0) ds) ρ else none
  | (.bw, .tup ds) => if ds.length = n then (if flats ds = true then fgs (withK (.ow 0) ds) ρ else none) else none
  | (.bw, .lst ds) => if ds.length = n then (if flats ds = true then fgs (withK (.ow 0) ds) ρ else none) else none
  | _ => none := rfl
theorem sAsg_ap (fe : FE) (fg : FG) (ρ : Env) : sAsg fe fg ρ = (fe ρ).toF fun a ρ1 => match fg a ρ1 with
  | some ρ2 => some (.nxt ρ2) | none => none := rfl
theorem sPar_ap (i j : Nat) (fs : FA) (ρ : Env) : sPar i j fs ρ = match fs ρ with
  | none => none
  | some (.exc x w) => some (.exc x w)
  | some (.val as ρ1) => match as with
    | [a, b] => if as.all stb' = true then some (.nxt ((ρ1.set i (.ow 0 a.2)).set j (.ow 0 b.2))) else none
    | _ => none := rfl
theorem sAug_ap (i : Nat) (fe : FE) (op : Int → Int → Int) (ρ : Env) : sAug i fe op ρ = match look ρ i with
  | some (_, .int m) => (fe ρ).toF fun a ρ1 => match a.2 with
    | .int n => some (.nxt (ρ1.set i (.ow 0 (.int (op m n))))) | _ => none
  | _ => none := rfl
theorem iLst_ap (fe : FE) (ρ : Env) : iLst fe ρ = (fe ρ).bind fun a ρ1 => (lstD a).map fun ds => .val ds ρ1 := rfl
theorem iR1_ap (fe : FE) (ρ : Env) : iR1 fe ρ = (fe ρ).bind fun a ρ1 => match a.2 with
  | .int n => chk (-(2 ^ 62) ≤ n ∧ n < 2 ^ 62) (some (.val (rangeD 0 n.toNat) ρ1)) | _ => none := rfl
theorem iR2_ap (fa fb : FE) (ρ : Env) : iR2 fa fb ρ = (fa ρ).bind fun a ρ1 => (fb ρ1).bind fun b ρ2 => match a.2, b.2 with
  | .int m, .int n => chk (-(2 ^ 62) ≤ m ∧ m < 2 ^ 62 ∧ -(2 ^ 62) ≤ n ∧ n < 2 ^ 62) (some (.val (rangeD m (n - m).toNat) ρ2)) | _, _ => none := rfl
theorem sFor_ap (fi : FI) (fg : FG) (fb : FS) (ρ : Env) : sFor fi fg fb ρ = match fi ρ with
  | none => none
  | some (.exc x w) => some (.exc x w)
  | some (.val ds ρ1) => loop fg fb ds ρ1 := rfl
theorem pVar_ap (i : Nat) (ρ : Env) : pVar i ρ = match look ρ i with
  | some _ => some (.val (i, []) ρ) | none => none := rfl
theorem pIx_ap (fp : FP) (fe : FE) (ρ : Env) : pIx fp fe ρ = (fp ρ).bind fun z ρ1 => (fe ρ1).bind fun a ρ2 => match a.2, nodeL ρ2 z.1 z.2 with
  | .int n, some (_ + 1, e) => match seqD e with
    | some ds => (ixN ds.length n).map fun j => .val (z.1, z.2 ++ [j]) ρ2
    | none => none
  | _, _ => none := rfl
theorem sApp_ap (fp : FP) (fe : FE) (ρ : Env) : sApp fp fe ρ = match fp ρ with
  | none => none
  | some (.exc x w) => some (.exc x w)
  | some (.val z ρ1) => if isLst (nodeL ρ1 z.1 z.2) = true then (fe ρ1).toF fun a ρ2 => match look ρ2 z.1 with
    | none => none
    | some (k0, d0) => match getK k0 d0 z.2 with
      | some (k + 1, .lst ds) => if okItem k a = true then chk (ds.length < sizeLine) (some (.nxt (ρ2.set z.1 (.ow k0 (putK d0 z.2 (.lst (ds ++ [a.2]))))))) else none
      | _ => none else none := rfl
theorem sSet_ap (fp : FP) (fi fe : FE) (ρ : Env) : sSet fp fi fe ρ = (fe ρ).toF fun a ρ1 => match fp ρ1 with
  | none => none
  | some (.exc x w) => some (.exc x w)
  | some (.val z ρ2) => (fi ρ2).toF fun b ρ3 => match b.2 with
    | .int n => match look ρ3 z.1 with
      | none => none
      | some (k0, d0) => match getK k0 d0 z.2 with
        | some (k + 1, .lst ds) => match ixN ds.length n with
          | some j => if okItem k a = true then some (.nxt (ρ3.set z.1 (.ow k0 (putK d0 z.2 (.lst (ds.set j a.2)))))) else none
          | none => none
        | _ => none
    | _ => none := rfl
theorem sClr_ap (fp : FP) (ρ : Env) : sClr fp ρ = match fp ρ with
  | none => none
  | some (.exc x w) => some (.exc x w)
  | some (.val z ρ2) => match look ρ2 z.1 with
      | none => none
      | some (k0, d0) => match getK k0 d0 z.2 with
        | some (_ + 1, .lst _) => some (.nxt (ρ2.set z.1 (.ow k0 (putK d0 z.2 (.lst [])))))
        | _ => none := rfl
theorem sRev_ap (fp : FP) (ρ : Env) : sRev fp ρ = match fp ρ with
  | none => none
  | some (.exc x w) => some (.exc x w)
  | some (.val z ρ2) => match look ρ2 z.1 with
      | none => none
      | some (k0, d0) => match getK k0 d0 z.2 with
        | some (1, .lst ds) => some (.nxt (ρ2.set z.1 (.ow k0 (putK d0 z.2 (.lst ds.reverse)))))
        | _ => none := rfl
theorem eLc_ap (k : Nat) (vs : List Nat) (fi : FI) (fg : FG) (ft : FT) (fe : FE) (ρ : Env) : eLc k vs fi fg ft fe ρ = match fi ρ with
  | none => none
  | some (.exc x w) => some (.exc x w)
  | some (.val ds ρ1) => chk (ds.length ≤ sizeLine) (match lcGo vs fg ft fe k (wipeE ρ1 vs) ds with
    | none => none
    | some es => some (.val (.ow (k + 1), .lst es) (wipeE ρ1 vs))) := rfl
theorem bYes_ap  (ρ : Env) : bYes ρ = some (.val true ρ) := rfl
theorem gCat_ap  (a : Kx) (b : Kx) : gCat a b = match a.2, b.2 with
  | .lst ds, .lst es => if (itemsOk a ds && itemsOk b es) = true then chk (ds.length + es.length ≤ sizeLine) (some (.ow 1, .lst (ds ++ es))) else chk (ds.length + es.length ≤ sizeLine) (some (.bw, .lst (ds ++ es)))
  | _, _ => none := rfl
theorem gRep_ap  (a : Kx) (b : Kx) : gRep a b = match a.2, b.2 with
  | .lst ds, .int n => if itemsOk a ds = true then chk (-(2 ^ 63) ≤ n ∧ n < 2 ^ 63 ∧ ds.length * n.toNat ≤ sizeLine) (some (.ow 1, .lst (List.replicate n.toNat ds).flatten)) else none
  | _, _ => none := rfl
theorem eCB_ap (g : List Kx → Option Kx) (fs : FA) (ρ : Env) : eCB g fs ρ = (fs ρ).bind fun as ρ1 => match g as with
  | some c => some (.val c ρ1) | none => none := rfl
theorem gC_ap (g : List D → Option D) (as : List Kx) : gC g as = match g (as.map (·.2)) with
  | some f => some (.ow 0, f) | none => none := rfl
theorem gDivmod_ap  (as : List Kx) : gDivmod as = match (as.map (·.2) : List D) with
  | [.int a, .int b] => chk (0 < b ∧ DivOk a b) (some (.ow 0, .tup [.int (a / b), .int (a % b)]))
  | _ => none := rfl
theorem gList_ap  (as : List Kx) : gList as = match as with
  | [a] => match listOf a.2 with
    | some ds => if itemsOk a ds = true then some (.ow 1, .lst ds) else some (.bw, .lst ds)
    | none => none
  | _ => none := rfl
theorem gTupOf_ap  (as : List Kx) : gTupOf as = match as with
  | [a] => match listOf a.2 with
    | some ds => if itemsOk a ds = true then some (.ow 0, .tup ds) else some (.bw, .tup ds)
    | none => none
  | _ => none := rfl
theorem gTupL_ap  (as : List Kx) : gTupL as = match as with
  | [a] => match lstOf a.2 with
    | some ds => if itemsOk a ds = true then some (.ow 0, .tup ds) else some (.bw, .tup ds)
    | none => none
  | _ => none := rfl
theorem gSorted_ap  (as : List Kx) : gSorted as = match as with
  | [a] => match intsOf a.2 with
    | some ns => chk (ns.length < 64) (some (.ow 1, .lst ((sortI ns).map .int))) | none => none
  | _ => none := rfl
theorem oNo_ap  (ρ : Env) : oNo ρ = some (.val none ρ) := rfl
theorem oSome_ap (fe : FE) (ρ : Env) : oSome fe ρ = (fe ρ).bind fun a ρ1 => match a.2 with
  | .int n => some (.val (some n) ρ1) | _ => none := rfl
theorem eSl_ap (fe : FE) (fl fh : FO) (ρ : Env) : eSl fe fl fh ρ = (fe ρ).bind fun a ρ1 => (fl ρ1).bind fun lo ρ2 => (fh ρ2).bind fun hi ρ3 => match gSl a lo hi with
  | some c => some (.val c ρ3) | none => none := rfl
theorem eRevL_ap (fe : FE) (ρ : Env) : eRevL fe ρ = (fe ρ).bind fun a ρ1 => match gRevL a with
  | some c => some (.val c ρ1) | none => none := rfl
theorem iSeq_ap (fe : FE) (ρ : Env) : iSeq fe ρ = (fe ρ).bind fun a ρ1 => match seqOf a with
  | some ds => some (.val ds ρ1) | none => none := rfl
theorem iZ_ap (fa fb : FE) (ρ : Env) : iZ fa fb ρ = (fa ρ).bind fun a ρ1 => (fb ρ1).bind fun b ρ2 => match lstD a, lstD b with
  | some ds, some es => some (.val (zipD ds es) ρ2)
  | _, _ => none := rfl
theorem gF_ap (i : Nat) (a : Kx) (ρ : Env) : gF i a ρ = match a.1 with
  | .ow _ => some (ρ.set i (.ow 0 a.2)) | .bw => if flat a.2 = true then some (ρ.set i (.ow 0 a.2)) else none := rfl
theorem sRaise_ap (x : Str) (x0 : Env) : sRaise x x0 = some (.exc x none) := rfl
theorem eNeg_ap (fe : FE) (ρ : Env) : eNeg fe ρ = (fe ρ).bind fun a ρ1 => match a.2 with
  | .int n => some (.val (.ow 0, .int (-n)) ρ1) | _ => none := rfl
theorem eChain_ap (g g' : Kx → Kx → Option Kx) (fa fb fc : FE) (ρ : Env) : eChain g g' fa fb fc ρ = (fa ρ).bind fun a ρ1 => (fb ρ1).bind fun b ρ2 => if (isS a.2 && isS b.2) = true then (match g (.ow 0, a.2) (.ow 0, b.2) with
  | some (_, .bl true) => (fc ρ2).bind fun c ρ3 => match g' (.ow 0, b.2) c with
    | some z => some (.val z ρ3) | none => none
  | some (_, .bl false) => some (.val (.ow 0, .bl false) ρ2)
  | _ => none) else none := rfl
theorem eM1_ap (g : Str → Kx → Option Kx) (fo fe : FE) (ρ : Env) : eM1 g fo fe ρ = (fo ρ).bind fun a ρ1 => match a.2 with
  | .str s => (fe ρ1).bind fun b ρ2 => match g s b with
    | some c => some (.val c ρ2) | none => none
  | _ => none := rfl
theorem gJoin_ap  (s : Str) (b : Kx) : gJoin s b = match b.2 with
  | .lst ds => match strsD ds with
    | some ys => chk ((ys.map (·.length)).sum + ys.length * s.length ≤ 16777216) (some (.ow 0, .str (Txt.join s ys)))
    | none => none
  | _ => none := rfl
theorem gSplitS_ap  (s : Str) (b : Kx) : gSplitS s b = match b.2 with
  | .str z => chk ((z.length == 0) = false ∧ s.length + 2 ≤ sizeLine) (some (.ow 1, .lst ((Txt.split s z).map .str)))
  | _ => none := rfl
theorem gFind_ap  (s : Str) (b : Kx) : gFind s b = match b.2 with
  | .str z => some (.ow 0, .int (Txt.find s z)) | _ => none := rfl
theorem gPart_ap  (s : Str) (b : Kx) : gPart s b = match b.2 with
  | .str z => chk ((z.length == 0) = false ∧ s.length ≤ sizeLine) (some (.ow 0, .tup [.str (Txt.partition s z).1, .str (Txt.partition s z).2.1, .str (Txt.partition s z).2.2]))
  | _ => none := rfl
theorem jNil_ap  (acc : Str) (ρ : Env) : jNil acc ρ = some (.val acc ρ) := rfl
theorem jStr_ap (s : Str) (fj : FJ) (acc : Str) (ρ : Env) : jStr s fj acc ρ = chk ((acc ++ s).length ≤ sizeLine) (fj (acc ++ s) ρ) := rfl
theorem jFmt_ap (fe : FE) (fj : FJ) (acc : Str) (ρ : Env) : jFmt fe fj acc ρ = (fe ρ).bind fun a ρ1 => match a.2 with
  | .str s => chk (s.length ≤ sizeLine ∧ (acc ++ s).length ≤ sizeLine) (fj (acc ++ s) ρ1)
  | .int i => chk (i.natAbs.log2 < 1920 ∧ (acc ++ decI i).length ≤ sizeLine) (fj (acc ++ decI i) ρ1)
  | _ => none := rfl
theorem eJoined_ap (fj : FJ) (ρ : Env) : eJoined fj ρ = (fj Str.empty ρ).bind fun s ρ1 => some (.val (.ow 0, .str s) ρ1) := rfl
theorem sTryK_ap (is : Str → Option Bool) (i j : Nat) (fg : Option Nat) (run : Run) (fs : FA) (ρ : Env) : sTryK is i j fg run fs ρ = match fs ρ with
  | none => none
  | some (.exc x w) => some (.exc x w)
  | some (.val as ρ1) => match run (as.map (·.2)) with
    | none => none
    | some (.ret k d) => if as.all stb' = true then some (.nxt (setO fg ρ1 k d)) else if cov k d = true then some (.nxt (setO fg ρ1 k d)) else none
    | some (.exc x w) => if ((as.all stb' || flatX w) && decide (i < ρ1.length)) = true then (match is x with
      | some true => some (.nxt ((ρ1.set j (.ow 0 (.xo x w))).set i .no))
      | some false => some (.exc x w)
      | none => none) else none := rfl
theorem eDnew_ap  (ρ : Env) : eDnew ρ = some (.val (.ow 1, .dic []) ρ) := rfl
theorem eDic1_ap (x y : Str) (ρ : Env) : eDic1 x y ρ = some (.val (.ow 1, .dic [(.inr x, .str y)]) ρ) := rfl
theorem bind_ap {α β : Type} (r : R α) (f : α → Env → R β) : R.bind r f = match r with
  | none => none
  | some (.exc x w) => some (.exc x w)
  | some (.val a ρ) => f a ρ := rfl
theorem toF_ap {α : Type} (r : R α) (f : α → Env → Option Fl) : R.toF r f = match r with
  | none => none
  | some (.exc x w) => some (.exc x w)
  | some (.val a ρ) => f a ρ := rfl
theorem cast_lit (n : Nat) : ((no_index (OfNat.ofNat n) : Nat) : Int) = OfNat.ofNat n := rfl
theorem ixD_l (ds : List D) (i : Int) : ixD (.lst ds) i = atI ds i := rfl
theorem ixD_t (ds : List D) (i : Int) : ixD (.tup ds) i = atI ds i := rfl
theorem ixD_r (ns : List Int) (i : Int) : ixD (.rd ns) i = (atI ns i).map D.int := rfl
theorem in_sgn (b : Bool) (c : Nat) (z : Str) : gIn0 b (.str ⟨#[c]⟩) (.str z) = some (.bl (if b then !decide (c ∈ z.cps.toList) else decide (c ∈ z.cps.toList))) := rfl
theorem ixS {s : Str} {k : Int} (h0 : 0 ≤ k) (h1 : k < s.length) (hz : s.length ≤ sizeLine) : ∃ c, c ∈ s.cps.toList ∧ ixD (.str s) k = some (.str ⟨#[c]⟩) := by
  obtain ⟨j, rfl⟩ := Int.eq_ofNat_of_zero_le h0
  have hl : s.cps.toList.length = s.length := Array.length_toList
  have hj : j < s.cps.toList.length := by omega
  refine ⟨s.cps.toList[j], List.getElem_mem hj, ?_⟩
  show (if s.length ≤ sizeLine then (atI s.cps.toList (j : Int)).map _ else none) = _
  rw [if_pos hz, atI_nat, List.getElem?_eq_getElem hj]
  rfl
theorem str_cat (a b : Str) : (a ++ b).length = a.length + b.length := by
  show (a ++ b).cps.size = _
  rw [Str.cps_append, Array.size_append]
  rfl
theorem sgn_len (c : Nat) : (⟨#[c]⟩ : Str).length = 1 := rfl
theorem run_0 (n : Nat) (f : FS) : runD 0 n f [] = endR (f (entryE [] n)) := rfl
theorem run_1 (n : Nat) (f : FS) (a : D) : runD 1 n f [a] = endR (f (entryE [a] n)) := rfl
theorem run_2 (n : Nat) (f : FS) (a b : D) : runD 2 n f [a, b] = endR (f (entryE [a, b] n)) := rfl
theorem run_3 (n : Nat) (f : FS) (a b c : D) : runD 3 n f [a, b, c] = endR (f (entryE [a, b, c] n)) := rfl
theorem run_4 (n : Nat) (f : FS) (a b c d : D) : runD 4 n f [a, b, c, d] = endR (f (entryE [a, b, c, d] n)) := rfl
theorem run_5 (n : Nat) (f : FS) (a b c d e : D) : runD 5 n f [a, b, c, d, e] = endR (f (entryE [a, b, c, d, e] n)) := rfl
theorem run_6 (n : Nat) (f : FS) (a b c d e g : D) : runD 6 n f [a, b, c, d, e, g] = endR (f (entryE [a, b, c, d, e, g] n)) := rfl
theorem loop_nil (fg : FG) (fb : FS) (ρ : Env) : loop fg fb [] ρ = some (.nxt ρ) := rfl
theorem loop_cons (fg : FG) (fb : FS) (d : D) (ds : List D) (ρ : Env) : loop fg fb (d :: ds) ρ = match fg (.ow 0, d) ρ with
    | none => none
    | some ρ1 => match fb ρ1 with
      | none => none
      | some (.nxt ρ2) => loop fg fb ds ρ2
      | some (.cnt ρ2) => loop fg fb ds ρ2
      | some (.brk ρ2) => some (.nxt ρ2)
      | some r => some r := rfl
theorem lcOne_ap (vs : List Nat) (fg : FG) (ft : FT) (fe : FE) (k : Nat) (ρ : Env) (d : D) : lcOne vs fg ft fe k ρ d = match fg (.ow 0, d) ρ with
  | none => none
  | some ρ2 => chk (wipeE ρ2 vs = ρ) (match ft ρ2 with
    | some (.val b ρ3) => chk (ρ3 = ρ2) (if b = true then (match fe ρ2 with
      | some (.val a ρ4) => chk (ρ4 = ρ2) (if okItem k a = true then some (some a.2) else none)
      | _ => none) else some none)
    | _ => none) := rfl
end P

namespace P
open PySem L2
def allIn (L z : Str) : Bool := z.cps.toList.all fun c => decide (c ∈ L.cps.toList)
theorem all_in (L z : Str) : ((z.cps.toList.map fun c => decide (c ∈ L.cps.toList)).all id) = allIn L z := by
  rw [List.all_map]
  rfl
def LETT : Str := "abcdefghijklmnopqrstuvwxyz"
def isWord : D → Bool
  | .str z => decide (1 ≤ z.length) && decide (z.length ≤ 8) && allIn LETT z
  | _ => false
theorem str_sz {z : Str} (h : z.length ≤ 1000) : (z.cps.toList.map sgn).length ≤ sizeLine := by
  rw [List.length_map, Array.length_toList]
  exact Nat.le_trans h (by decide)
theorem lc_in (L z : Str) (fe : FE) (ρ : Env) (k : Nat) (h : ∀ c, lcOne [1] (gN 1) bYes fe 0 ρ (sgn c) = some (some (.bl (decide (c ∈ L.cps.toList))))) : lcGo [1] (gN 1) bYes fe 0 ρ (z.cps.toList.map sgn) = some ((z.cps.toList.map fun c => decide (c ∈ L.cps.toList)).map D.bl) := by
  rw [List.map_map]
  exact lcGo_map fun c _ => h c

def FIGS : Str := "0123456789"
def wholeOf (z : Str) : Option Nat := if z.length < 1 ∨ 40 < z.length then none else if allIn FIGS z = false then none else if z.cps.toList.headD 0 = 48 ∧ 1 < z.length then none else some (NumText.digitsVal z.cps.toList)
def numD : Option Nat → D
  | none => .non
  | some n => .int n
theorem figs_dig {z : Str} (h : allIn FIGS z = true) : NumText.AllDigits z.cps.toList := fun c hc => by
  have q := List.all_eq_true.mp h c hc
  have q : c ∈ FIGS.cps.toList := of_decide_eq_true q
  have e : FIGS.cps.toList = [48, 49, 50, 51, 52, 53, 54, 55, 56, 57] := by decide +kernel
  rw [e] at q
  simp only [List.mem_cons, List.not_mem_nil, or_false] at q
  omega

def stroke : Str := "/"
def dash : Str := "-"
def nBelow (x : Str) : Bool := decide (cutS (Txt.partition x stroke).1 none (some 1) = dash)
def nFirst (x : Str) : Str := if nBelow x = true then cutS (Txt.partition x stroke).1 (some 1) none else (Txt.partition x stroke).1
def nHas (x : Str) : Bool := decide ((Txt.partition x stroke).2.1 = stroke)
def nBot (x : Str) : Option Nat := if nHas x = true then wholeOf (Txt.partition x stroke).2.2 else some 1
def numOf (x : Str) : Option (Int × Int) := match wholeOf (nFirst x), nBot x with
  | some t, some b => if nBelow x = true ∧ t = 0 then none else if nHas x = true ∧ (b < 2 ∨ Nat.gcd t b ≠ 1) then none else some (if nBelow x = true then 0 - (t : Int) else (t : Int), (b : Int))
  | _, _ => none
theorem par_len {S : List Nat} : ∀ {l acc a b : List Nat}, TL.par S acc l = some (a, b) → a.length ≤ acc.length + l.length ∧ b.length ≤ l.length
  | [], acc, a, b, h => by cases h
  | c :: r, acc, a, b, h => by
    unfold TL.par at h
    split at h
    · cases h
      rw [List.length_drop]
      omega
    · have q := par_len (l := r) h
      rw [List.length_append] at q
      have e1 : [c].length = 1 := rfl
      rw [List.length_cons]
      omega
theorem part_len (x : Str) : (Txt.partition x stroke).1.length ≤ x.length ∧ (Txt.partition x stroke).2.1.length ≤ 1 ∧ (Txt.partition x stroke).2.2.length ≤ x.length := by
  have e := TL.partition_par x stroke (by decide +kernel)
  cases h : TL.par (TL.tl stroke) [] (TL.tl x) with
  | none =>
    rw [h] at e
    rw [e]
    exact ⟨Nat.le_refl _, Nat.zero_le _, Nat.zero_le _⟩
  | some p =>
    obtain ⟨a, b⟩ := p
    rw [h] at e
    rw [e]
    have q := par_len h
    have ex : (TL.tl x).length = x.length := Array.length_toList
    have e0 : ([] : List Nat).length = 0 := rfl
    refine ⟨?_, (show stroke.length ≤ 1 by decide +kernel), ?_⟩
    · show a.toArray.size ≤ _
      rw [List.size_toArray]
      omega
    · show b.toArray.size ≤ _
      rw [List.size_toArray]
      omega
theorem num_ifs {t b : Nat} (z : Int × Int) : (if b < 2 ∨ Nat.gcd t b ≠ 1 then none else some z) = if (b : Int) < 2 then none else if (Int.gcd t b : Int) = 1 then some z else none := by
  have e : Int.gcd (t : Int) (b : Int) = Nat.gcd t b := rfl
  rw [e]
  by_cases h1 : b < 2
  · rw [if_pos (.inl h1), if_pos (by omega)]
  · by_cases h2 : Nat.gcd t b = 1
    · rw [if_neg (fun q => q.elim h1 fun n => n h2), if_neg (by omega), if_pos (by omega)]
    · rw [if_pos (.inr h2), if_neg (by omega), if_neg (by omega)]
def outN : Option (Int × Int) → Out
  | some p => .ret 0 (fr p)
  | none => .exc "NoNumber" none

def numT (p : Int × Int) : Str := if p.2 = 1 then decI p.1 else Str.empty ++ decI p.1 ++ "/" ++ decI p.2
theorem slash_len : (("/" : Str)).length = 1 := by decide +kernel
theorem empty_len : (Str.empty).length = 0 := rfl

theorem empty_cat (s : Str) : Str.empty ++ s = s := by
  have h : ∀ {a b : Str}, a.cps.toList = b.cps.toList → a = b := fun {a b} e => by
    obtain ⟨⟨l⟩⟩ := a
    obtain ⟨⟨m⟩⟩ := b
    have e : l = m := e
    rw [e]
  apply h
  rw [Str.cps_append, Array.toList_append]
  rfl

def Fit6 (p : Int × Int) : Prop := IsFr p ∧ p.1.natAbs < 10 ^ 40 ∧ p.2.natAbs < 10 ^ 40
theorem lowest_fit6 {t b : Int} (hb : 0 < b) (h1 : t.natAbs < 10 ^ 40) (h2 : b.natAbs < 10 ^ 40) : Fit6 (lowest t b) := by
  have l := lowest_le t b
  exact ⟨lowest_fr (t := t) hb, Nat.lt_of_le_of_lt l.1 h1, Nat.lt_of_le_of_lt l.2 h2⟩

theorem pre47 (l : List Nat) : TL.pre [47] l = true ↔ ∃ r, l = 47 :: r := by
  cases l with
  | nil => exact ⟨fun z => (nomatch z), fun ⟨r, z⟩ => (nomatch z)⟩
  | cons c r =>
    constructor
    · intro z
      have z : ([c] == [47]) = true := z
      have z := eq_of_beq z
      cases z
      exact ⟨r, rfl⟩
    · rintro ⟨r', z⟩
      cases z
      rfl
theorem occ_slash (A B : Str) (h : 47 ∉ TL.tl A) : Txt.find (A ++ stroke ++ B) stroke = (A.length : Int) := by
  have hs : TL.tl stroke = [47] := by decide +kernel
  have hne : TL.tl stroke ≠ [] := by rw [hs]; exact List.cons_ne_nil _ _
  have ex : TL.tl (A ++ stroke ++ B) = TL.tl A ++ 47 :: TL.tl B := by rw [TL.tl_append, TL.tl_append, hs, List.append_assoc]; rfl
  have hA : (TL.tl A).length = A.length := Array.length_toList
  have pre1 := pre47
  have at1 : ∀ i, StrLaws.At (A ++ stroke ++ B) stroke (A ++ stroke ++ B).length i ↔ (TL.tl A ++ 47 :: TL.tl B)[i]? = some 47 := fun i => by
    rw [TL.at_iff hne, ex, hs, pre1]
    constructor
    · rintro ⟨r, e⟩
      have : ((TL.tl A ++ 47 :: TL.tl B).drop i)[0]? = some 47 := by rw [e]; rfl
      rwa [List.getElem?_drop, Nat.add_zero] at this
    · intro e
      obtain ⟨hi, e⟩ := List.getElem?_eq_some_iff.mp e
      exact ⟨_, by rw [List.drop_eq_getElem_cons hi, e]⟩
  have here : StrLaws.At (A ++ stroke ++ B) stroke (A ++ stroke ++ B).length A.length := (at1 _).mpr (by rw [← hA, List.getElem?_append_right (Nat.le_refl _), Nat.sub_self]; rfl)
  unfold Txt.find
  rcases StrLaws.occ_head (A ++ stroke ++ B) stroke 1 (Nat.le_refl 1) with ⟨h0, hn⟩ | ⟨i, r, h0, hi, hn⟩
  · exact absurd here (hn _)
  · rw [h0]
    have e : i = A.length := by
      rcases Nat.lt_trichotomy i A.length with q | q | q
      · have z := (at1 i).mp hi
        rw [List.getElem?_append_left (by omega)] at z
        exact absurd (List.mem_of_getElem? z) h
      · exact q
      · exact absurd here (hn _ q)
    rw [e]
theorem occ_none (A : Str) (h : 47 ∉ TL.tl A) : Txt.find A stroke = -1 := by
  have hs : TL.tl stroke = [47] := by decide +kernel
  have hne : TL.tl stroke ≠ [] := by rw [hs]; exact List.cons_ne_nil _ _
  unfold Txt.find
  rcases StrLaws.occ_head A stroke 1 (Nat.le_refl 1) with ⟨h0, hn⟩ | ⟨i, r, h0, hi, hn⟩
  · rw [h0]
  · exfalso
    have z := (TL.at_iff hne i).mp hi
    rw [hs] at z
    obtain ⟨r', e⟩ := (pre47 _).mp z
    have : 47 ∈ (TL.tl A).drop i := by rw [e]; exact List.mem_cons_self ..
    exact h (List.mem_of_mem_drop this)
theorem tl_inj {a b : Str} (e : a.cps.toList = b.cps.toList) : a = b := by
  obtain ⟨⟨l⟩⟩ := a
  obtain ⟨⟨m⟩⟩ := b
  have e : l = m := e
  rw [e]
theorem sIx_some (n j d : Nat) : HT.sIx n d (some (j : Int)) = min j n := HT.sIx_nat ..
theorem cut_pre (A R : Str) : cutS (A ++ R) none (some (A.length : Int)) = A := by
  apply tl_inj
  have hA : A.cps.toList.length = A.length := Array.length_toList
  have hx : (A ++ R).length = A.length + R.length := str_cat A R
  unfold cutS
  rw [HT.sIx_nat, hx]
  show ((A ++ R).cps.toList.drop _).take _ = _
  rw [Str.cps_append, Array.toList_append]
  have e0 : HT.sIx (A.length + R.length) 0 none = 0 := rfl
  rw [e0, List.drop_zero, Nat.sub_zero, show min A.length (A.length + R.length) = A.length by omega, ← hA, List.take_left']
  rfl
theorem cut_suf (A R : Str) : cutS (A ++ R) (some (A.length : Int)) none = R := by
  apply tl_inj
  have hA : A.cps.toList.length = A.length := Array.length_toList
  have hR : R.cps.toList.length = R.length := Array.length_toList
  have hx : (A ++ R).length = A.length + R.length := str_cat A R
  unfold cutS
  rw [HT.sIx_nat, hx]
  show ((A ++ R).cps.toList.drop _).take _ = _
  rw [Str.cps_append, Array.toList_append]
  have e0 : HT.sIx (A.length + R.length) (A.length + R.length) none = A.length + R.length := rfl
  rw [e0, show min A.length (A.length + R.length) = A.length by omega, ← hA, List.drop_left', hA, List.take_of_length_le (by omega)]
  rfl

theorem figs_list : FIGS.cps.toList = [48, 49, 50, 51, 52, 53, 54, 55, 56, 57] := by decide +kernel
theorem whole_num {x : Str} {n : Nat} (e : x.cps.toList = TL.numL n) (h : n < 10 ^ 40) : wholeOf x = some n := by
  have len : x.length = (TL.numL n).length := by rw [← e]; exact Array.length_toList.symm
  have l40 := TL.numL_len (k := 40) (by decide) h
  have l0 : 0 < (TL.numL n).length := List.length_pos_iff.mpr (TL.numL_ne n)
  unfold wholeOf
  rw [if_neg (by omega), if_neg, if_neg, e, TL.numL_val]
  · rintro ⟨h1, h2⟩
    rw [e] at h1
    rcases Nat.eq_zero_or_pos n with rfl | hp
    · rw [len, TL.numL_lt (by decide)] at h2
      exact absurd h2 (by decide)
    · obtain ⟨c, r, e2, hc⟩ := numL_head n hp
      rw [e2] at h1
      have h1 : c = 48 := h1
      omega
  · rw [Bool.not_eq_false]
    refine List.all_eq_true.mpr fun c hc => ?_
    rw [e] at hc
    have q := TL.numL_digits n c hc
    refine decide_eq_true ?_
    rw [figs_list]
    simp only [List.mem_cons, List.not_mem_nil, or_false]
    omega
theorem stroke_tl : TL.tl stroke = 47 :: [] := by decide +kernel
theorem no_stroke (i : Int) : 47 ∉ TL.tl (decI i) := by
  have f : ∀ n, 47 ∉ TL.numL n := fun n => TL.numL_free (.inl (by decide))
  cases i with
  | ofNat n => rw [show TL.tl (decI (Int.ofNat n)) = TL.numL n from tl_decn n]; exact f n
  | negSucc m =>
    rw [show TL.tl (decI (Int.negSucc m)) = 45 :: TL.numL (m + 1) from tl_decneg m]
    intro z
    rcases List.mem_cons.mp z with z | z
    · cases z
    · exact f _ z
theorem dash_eq (c : Nat) : decide ((⟨#[c]⟩ : Str) = dash) = decide (c = 45) := by
  rw [Bool.eq_iff_iff, decide_eq_true_eq, decide_eq_true_eq]
  constructor
  · intro q
    have q2 : (⟨#[c]⟩ : Str).cps.toList = dash.cps.toList := by rw [q]
    have q3 : dash.cps.toList = [45] := by decide +kernel
    rw [q3] at q2
    exact (List.cons.inj q2).1
  · rintro rfl
    decide +kernel
theorem sign_part {t : Int} {x : Str} (h : t.natAbs < 10 ^ 40) (e : x.cps.toList = (decI t).cps.toList) :
    decide (cutS x none (some 1) = dash) = decide (t < 0) ∧ wholeOf (if t < 0 then cutS x (some 1) none else x) = some t.natAbs := by
  cases t with
  | ofNat n =>
    have e1 : x.cps.toList = TL.numL n := e.trans (tl_decn n)
    have neg : ¬ (Int.ofNat n < 0) := Int.not_lt.mpr (Int.natCast_nonneg n)
    rw [if_neg neg, decide_eq_false neg]
    refine ⟨?_, whole_num e1 h⟩
    obtain ⟨c, r, e2⟩ := List.exists_cons_of_ne_nil (TL.numL_ne n)
    rw [(cut_first (e1.trans e2)).1, dash_eq]
    refine decide_eq_false ?_
    rintro rfl
    have q := TL.numL_digits n 45 (by rw [e2]; exact List.mem_cons_self ..)
    omega
  | negSucc m =>
    have e1 : x.cps.toList = 45 :: TL.numL (m + 1) := e.trans (tl_decneg m)
    have neg : Int.negSucc m < 0 := by omega
    obtain ⟨c1, c2⟩ := cut_first e1
    rw [if_pos neg, decide_eq_true neg, c1, dash_eq]
    exact ⟨rfl, whole_num c2 h⟩
theorem numOf_num {p : Int × Int} (h : Fit6 p) : numOf (numT p) = some p := by
  obtain ⟨t, b⟩ := p
  obtain ⟨⟨hb, hg⟩, ht, hb2⟩ := h
  have hb : 0 < b := hb
  have hg : Int.gcd t b = 1 := hg
  have ht : t.natAbs < 10 ^ 40 := ht
  have hb2 : b.natAbs < 10 ^ 40 := hb2
  obtain ⟨k, rfl⟩ := Int.eq_ofNat_of_zero_le (Int.le_of_lt hb)
  have hk : k < 10 ^ 40 := hb2
  have gg : Nat.gcd t.natAbs k = 1 := hg
  have val : (if t < 0 then 0 - ((t.natAbs : Nat) : Int) else ((t.natAbs : Nat) : Int)) = t := by split <;> omega
  by_cases h1 : (k : Int) = 1
  · have e0 : numT (t, (k : Int)) = decI t := if_pos h1
    rw [e0]
    have pt := TL.partition_none stroke_tl (no_stroke t)
    obtain ⟨s1, s2⟩ := sign_part ht (x := decI t) rfl
    have nb : nBelow (decI t) = decide (t < 0) := by unfold nBelow; rw [pt]; exact s1
    have nf : wholeOf (nFirst (decI t)) = some t.natAbs := by
      unfold nFirst
      rw [nb, pt]
      by_cases h : t < 0
      · rw [if_pos (decide_eq_true h)]
        rw [if_pos h] at s2
        exact s2
      · rw [if_neg (by rw [decide_eq_false h]; exact Bool.false_ne_true)]
        rw [if_neg h] at s2
        exact s2
    have nh : nHas (decI t) = false := by unfold nHas; rw [pt]; show decide (Str.empty = stroke) = false; decide +kernel
    have nbt : nBot (decI t) = some 1 := by unfold nBot; rw [nh]; rfl
    unfold numOf
    rw [nf, nbt, nb, nh]
    have k1 : k = 1 := by omega
    subst k1
    simp only [Bool.false_eq_true, false_and, if_false, decide_eq_true_eq]
    rw [if_neg (by omega), val]
  · have e0 : numT (t, (k : Int)) = (Str.empty ++ decI t) ++ stroke ++ decI (k : Int) := if_neg h1
    rw [e0]
    have tlE : TL.tl (Str.empty ++ decI t) = TL.tl (decI t) := by rw [TL.tl_append]; rfl
    have pt := TL.partition_app (b := decI (k : Int)) stroke_tl (a := Str.empty ++ decI t) (by rw [tlE]; exact no_stroke t)
    generalize hx : (Str.empty ++ decI t) ++ stroke ++ decI (k : Int) = x at *
    obtain ⟨s1, s2⟩ := sign_part ht (x := Str.empty ++ decI t) tlE
    have nb : nBelow x = decide (t < 0) := by unfold nBelow; rw [pt]; exact s1
    have nf : wholeOf (nFirst x) = some t.natAbs := by
      unfold nFirst
      rw [nb, pt]
      by_cases h : t < 0
      · rw [if_pos (decide_eq_true h)]
        rw [if_pos h] at s2
        exact s2
      · rw [if_neg (by rw [decide_eq_false h]; exact Bool.false_ne_true)]
        rw [if_neg h] at s2
        exact s2
    have nh : nHas x = true := by unfold nHas; rw [pt]; exact decide_eq_true rfl
    have nbt : nBot x = some k := by
      unfold nBot
      rw [nh, pt]
      exact whole_num (tl_decn k) hk
    unfold numOf
    rw [nf, nbt, nb, nh]
    have k2 : 2 ≤ k := by omega
    have n0 : ¬ (decide (t < 0) = true ∧ t.natAbs = 0) := by
      rw [decide_eq_true_eq]
      omega
    have n1 : ¬ (true = true ∧ (k < 2 ∨ Nat.gcd t.natAbs k ≠ 1)) := by
      rintro ⟨_, q | q⟩
      · omega
      · exact q gg
    show (if decide (t < 0) = true ∧ t.natAbs = 0 then none else if true = true ∧ (k < 2 ∨ Nat.gcd t.natAbs k ≠ 1) then none else some (if decide (t < 0) = true then 0 - ((t.natAbs : Nat) : Int) else ((t.natAbs : Nat) : Int), (k : Int))) = _
    rw [if_neg n0, if_neg n1]
    simp only [decide_eq_true_eq]
    rw [val]
theorem fit6_bits {x : Int} (h : x.natAbs < 10 ^ 40) : x.natAbs.log2 < 1920 := @log_bd x 140 ⟨Nat.lt_trans h (by decide)⟩ (by decide) (by decide)

theorem dec_neg {n : Int} (h : 0 < n) : decI (0 - n) = "-" ++ decI n := by
  obtain ⟨m, rfl⟩ : ∃ m : Nat, n = (m : Int) + 1 := ⟨(n - 1).toNat, by omega⟩
  have e : (0 : Int) - ((m : Int) + 1) = Int.negSucc m := by omega
  apply tl_inj
  rw [e, tl_decneg, Str.cps_append, Array.toList_append]
  have e2 : (decI ((m : Int) + 1)).cps.toList = TL.numL (m + 1) := tl_decn (m + 1)
  have e3 : ("-" : Str).cps.toList = [45] := by decide +kernel
  rw [e2, e3]
  rfl

theorem len_zero {z : Str} : (z = "") = (z.length = 0) := by
  apply propext
  constructor
  · rintro rfl; decide +kernel
  · intro h
    obtain ⟨⟨l⟩⟩ := z
    have h : l.length = 0 := h
    rw [List.length_eq_zero_iff] at h
    subst h
    decide +kernel

def figD (o : Option Nat) : Int := match o with
  | none => -1 | some n => n
/-! ### numbers' texts, cut otherwise -/
theorem str_assoc (a b c : Str) : a ++ b ++ c = a ++ (b ++ c) := by
  apply tl_inj
  rw [Str.cps_append, Str.cps_append, Str.cps_append, Str.cps_append, Array.toList_append, Array.toList_append, Array.toList_append, Array.toList_append, List.append_assoc]
theorem stroke_len : stroke.length = 1 := by decide +kernel
theorem dash_len : dash.length = 1 := by decide +kernel
theorem cut_suf1 (A B : Str) : cutS (A ++ stroke ++ B) (some ((A.length : Int) + 1)) none = B := by
  have e := cut_suf (A ++ stroke) B
  rw [str_cat, stroke_len] at e
  exact e
theorem cut_pre1 (A B : Str) : cutS (A ++ stroke ++ B) none (some (A.length : Int)) = A := by
  rw [str_assoc]
  exact cut_pre A _
theorem slash_split (x : Str) : 47 ∉ TL.tl x ∨ ∃ A B : Str, x = A ++ stroke ++ B ∧ 47 ∉ TL.tl A := by
  by_cases h : 47 ∈ TL.tl x
  · obtain ⟨as, bs, e, hn⟩ := List.eq_append_cons_of_mem h
    refine .inr ⟨⟨as.toArray⟩, ⟨bs.toArray⟩, ?_, hn⟩
    apply tl_inj
    rw [Str.cps_append, Str.cps_append, Array.toList_append, Array.toList_append]
    have hs : stroke.cps.toList = [47] := by decide +kernel
    rw [hs]
    show x.cps.toList = as ++ [47] ++ bs
    rw [List.append_assoc]
    exact e
  · exact .inl h
theorem dash_tl : dash.cps.toList = [45] := by decide +kernel
theorem dash_split (x : Str) : (∃ y, x = dash ++ y ∧ cutS x none (some 1) = dash ∧ cutS x (some 1) none = y) ∨ cutS x none (some 1) ≠ dash ∧ ∀ y, x ≠ dash ++ y := by
  have key : ∀ y, x = dash ++ y → cutS x none (some 1) = dash ∧ cutS x (some 1) none = y := fun y e => by
    subst e
    have e2 : (dash ++ y).cps.toList = 45 :: y.cps.toList := by rw [Str.cps_append, Array.toList_append, dash_tl]; rfl
    obtain ⟨h1, h2⟩ := cut_first e2
    refine ⟨h1.trans ?_, tl_inj h2⟩
    apply tl_inj
    exact dash_tl.symm
  by_cases h : ∃ y, x = dash ++ y
  · obtain ⟨y, e⟩ := h
    exact .inl ⟨y, e, key y e⟩
  · refine .inr ⟨fun e => ?_, fun y e => h ⟨y, e⟩⟩
    cases ex : x.cps.toList with
    | nil =>
      have l := cutS_length x none (some 1)
      have l2 : x.cps.toList.length = x.length := Array.length_toList
      rw [ex] at l2
      rw [e, dash_len] at l
      have l2 : 0 = x.length := l2
      omega
    | cons c r =>
      rw [(cut_first ex).1] at e
      have e2 : (⟨#[c]⟩ : Str).cps.toList = dash.cps.toList := by rw [e]
      rw [dash_tl] at e2
      have e2 : [c] = [45] := e2
      cases e2
      refine h ⟨⟨r.toArray⟩, tl_inj ?_⟩
      rw [Str.cps_append, Array.toList_append, dash_tl, ex]
      rfl
theorem dash_ne (y : Str) : y ≠ dash ++ y := fun e => by
  have : y.length = (dash ++ y).length := by rw [← e]
  rw [str_cat, dash_len] at this
  omega
theorem no47 {y : Str} (h : 47 ∉ TL.tl (dash ++ y)) : 47 ∉ TL.tl y := fun z => h (by
  rw [TL.tl_append]
  exact List.mem_append_right _ z)
theorem stroke_tl1 : TL.tl stroke = 47 :: [] := by decide +kernel
theorem numOf_none {x : Str} (h : 47 ∉ TL.tl x) : numOf x = match wholeOf (if nBelow x = true then cutS x (some 1) none else x) with
    | some t => if nBelow x = true ∧ t = 0 then none else some (if nBelow x = true then 0 - (t : Int) else (t : Int), 1)
    | none => none := by
  have p := TL.partition_none stroke_tl1 h
  have e1 : nFirst x = if nBelow x = true then cutS x (some 1) none else x := by unfold nFirst; rw [p]
  have e2 : nHas x = false := by unfold nHas; rw [p]; show decide (Str.empty = stroke) = false; decide +kernel
  have e3 : nBot x = some 1 := by unfold nBot; rw [e2]; rfl
  unfold numOf
  rw [e1, e3, e2]
  cases wholeOf (if nBelow x = true then cutS x (some 1) none else x) with
  | none => rfl
  | some t => simp only [Bool.false_eq_true, false_and, if_false]; rfl
theorem nBelow_none {x : Str} (h : 47 ∉ TL.tl x) : nBelow x = decide (cutS x none (some 1) = dash) := by
  unfold nBelow
  rw [TL.partition_none stroke_tl1 h]
theorem nBelow_app {A B : Str} (h : 47 ∉ TL.tl A) : nBelow (A ++ stroke ++ B) = decide (cutS A none (some 1) = dash) := by
  unfold nBelow
  rw [TL.partition_app stroke_tl1 h]
theorem numOf_app {A B : Str} (h : 47 ∉ TL.tl A) : numOf (A ++ stroke ++ B) = match wholeOf (if cutS A none (some 1) = dash then cutS A (some 1) none else A), wholeOf B with
    | some t, some b => if cutS A none (some 1) = dash ∧ t = 0 then none else if b < 2 ∨ Nat.gcd t b ≠ 1 then none else some (if cutS A none (some 1) = dash then 0 - (t : Int) else (t : Int), (b : Int))
    | _, _ => none := by
  have p := TL.partition_app stroke_tl1 (b := B) h
  have e0 := nBelow_app (B := B) h
  have e1 : nFirst (A ++ stroke ++ B) = if cutS A none (some 1) = dash then cutS A (some 1) none else A := by
    unfold nFirst
    rw [e0, p]
    simp only [decide_eq_true_eq]
  have e2 : nHas (A ++ stroke ++ B) = true := by unfold nHas; rw [p]; exact decide_eq_true rfl
  have e3 : nBot (A ++ stroke ++ B) = wholeOf B := by unfold nBot; rw [e2, p]; rfl
  unfold numOf
  rw [e1, e3, e2, e0]
  simp only [decide_eq_true_eq, true_and]
theorem numOf_fr {x : Str} {p : Int × Int} (h : numOf x = some p) : IsFr p := by
  unfold numOf at h
  split at h
  · rename_i t b ht hb
    split at h
    · cases h
    · split at h
      · cases h
      · rename_i h1 h2
        cases h
        have gg : ∀ g : Int, g = 0 - (t : Int) ∨ g = t → Int.gcd g (b : Int) = Nat.gcd t b := fun g hg => by
          rcases hg with rfl | rfl
          · rw [Int.zero_sub, Int.neg_gcd]; rfl
          · rfl
        have e : Nat.gcd t b = 1 ∧ 0 < b := by
          unfold nBot at hb
          by_cases hh : nHas x = true
          · have z : ¬ (b < 2 ∨ Nat.gcd t b ≠ 1) := fun q => h2 ⟨hh, q⟩
            exact ⟨Classical.byContradiction fun q => z (.inr q), by omega⟩
          · rw [if_neg hh] at hb
            cases hb
            exact ⟨Nat.gcd_one_right t, by omega⟩
        refine ⟨by show 0 < (b : Int); omega, ?_⟩
        show Int.gcd (if nBelow x = true then 0 - (t : Int) else (t : Int)) (b : Int) = 1
        rw [gg _ (by split <;> simp)]
        exact e.1
  · cases h
def dueD : Option (Int × Int) → D
  | some p => fr p
  | none => .non
end P

namespace P.My
open PySem L2
local macro_rules | `(tactic| walk_at "sz") => `(tactic| first
  | assumption
  | omega
  | with_unfolding_all rfl
  | with_unfolding_all decide
  | with_unfolding_all exact mulOk_bd (by decide)
  | with_unfolding_all exact mulOk_r _ (by decide)
  | with_unfolding_all exact mulOk_l _ (by decide)
  | with_unfolding_all exact divOk_bd _ (by assumption) (by decide)
  | with_unfolding_all exact divOk_bd _ (by omega) (by decide)
  | with_unfolding_all exact divOk_bd _ (by decide) (by decide)
  | with_unfolding_all exact log_bd (by decide) (by decide))

def CL : List Str := ["HallError", "NoNumber", "NoName", "NoChance", "NoShare", "NoText", "NoRow", "NoRoom", "NoDoor", "NoPlan"]
def RS : List Str := ["NoNumber"]
def ISA (x y : Str) : Bool := decide (x = y) || decide (y = "HallError")
def CATCH (y x : Str) : Option Bool := if RS.contains x = true then some (ISA x y) else none
def top (i : Nat) : Stmt := PySem.Challenge.pw_chancehall_k07_no_number.main.body.getD i (.Pass ⟨0, 0, 0, 0⟩)
noncomputable def b_divisor_1 : FT := (bOf (eOp (g2 gNe0) (eVar 1) (eC (.int 0))))
noncomputable def b_divisor_2 : FS := (sPar 0 1 (aCons (eVar 1) (aCons (eOp (g2 gMod0) (eVar 0) (eVar 1)) aNil)))
noncomputable def b_divisor : FS := (sSeq (sWhile b_divisor_1 b_divisor_2)
    (sRet (eCB (gC gAbs) (aCons (eVar 0) aNil))))
noncomputable def m_divisor : Run := runD 2 0 b_divisor
abbrev s_divisor : Stmt := top 12
theorem sc_divisor : FnScope ["one", "other"] ["one", "other"] (defScope s_divisor) := ⟨rfl, rfl, rfl, by decide +kernel, rfl, by decide +kernel, by decide +kernel⟩
theorem ok_divisor {P : Program} {w : World} {K : PySem.W.Frag} {mg : Str → Option Value} {base : Heap} {f : Addr} {fd : FuncData} (Fn : Fun K "divisor" "divisor" s_divisor f fd) (m_abs : mg "abs" = none) :
    FnOk P w K mg base (L2.CX P w) 1 f fd ["one", "other"] (spR K m_divisor) := by
  refine def_ok (m := 2) (n := 0) (fs := b_divisor) Fn sc_divisor rfl rfl (fun cdv A outer s H E hr => ⟨_, (pss_cons (ps_while (passes_of rfl) (pt_cmpR (op_neA (K := K) rfl hr.units) (pv 1) pe_int (nomark _)) (pss_one (ps_par (by rfl) sc_divisor.nd (i := 0) (j := 1) rfl rfl (by decide) rfl rfl (pa_cons (pv 1) (pa_cons (pe_op op_modA (pv 0) (pv 1)) pa_nil)) (by rfl))))
    (pss_one (ps_ret (pe_callB call_absA (by rfl) m_abs (by decide +kernel) (pa_cons (pv 0) pa_nil))))), ?_⟩)
  try dsimp only [L2.cxOf, L2.Cx.nox, L2.Cx.wish]
  intro X hK hE
  subst hK hE
  exact (ss_seq (ss_while (st_test (se_op o_ne se_var se_int)) (ss_par (sa_cons se_var (sa_cons (se_op o_mod se_var se_var) sa_nil))))
    (ss_ret (se_cb c_abs (sa_cons se_var sa_nil))))
noncomputable def b_whole_of_1 : FE := (eOp (g2 (gIn0 false)) (eVar 1) (eC (.str "0123456789")))
noncomputable def b_whole_of : FS := (sSeq (sIf (bOr (bOf (eOp (g2 gLt0) (eCB (gC gLen) (aCons (eVar 0) aNil)) (eC (.int 1)))) (bOf (eOp (g2 gGt0) (eCB (gC gLen) (aCons (eVar 0) aNil)) (eC (.int 40))))) (sRet (eC .non)) sNext)
    (sSeq (sIf (bNot (bOf (eCB (gC gAll) (aCons (eLc 0 [1] (iSeq (eVar 0)) (gN 1) bYes b_whole_of_1) aNil)))) (sRet (eC .non)) sNext)
    (sSeq (sIf (bAnd (bOf (eOp (g2 gEq0) (eOp gIx (eVar 0) (eC (.int 0))) (eC (.str "0")))) (bOf (eOp (g2 gGt0) (eCB (gC gLen) (aCons (eVar 0) aNil)) (eC (.int 1))))) (sRet (eC .non)) sNext)
    (sRet (eCB (gC gInt) (aCons (eVar 0) aNil))))))
noncomputable def m_whole_of : Run := runD 1 1 b_whole_of
abbrev s_whole_of : Stmt := top 15
theorem sc_whole_of : FnScope ["figures", "sign"] ["figures"] (defScope s_whole_of) := ⟨rfl, rfl, rfl, by decide +kernel, rfl, by decide +kernel, by decide +kernel⟩
theorem ok_whole_of {P : Program} {w : World} {K : PySem.W.Frag} {mg : Str → Option Value} {base : Heap} {f : Addr} {fd : FuncData} (Fn : Fun K "whole_of" "whole_of" s_whole_of f fd) (m_len : mg "len" = none) (m_all : mg "all" = none) (m_int : mg "int" = none) (k_FIGURES : ∃ u, mg "FIGURES" = some u ∧ RelV (.str "0123456789") u) :
    FnOk P w K mg base (L2.CX P w) 1 f fd ["figures"] (spR K m_whole_of) := by
  refine def_ok (m := 1) (n := 1) (fs := b_whole_of) Fn sc_whole_of rfl rfl (fun cdv A outer s H E hr => ⟨_, (pss_cons (ps_if (PW.pt (pw_or (pt_cmpR op_ltA (pe_callB (call_lenA (K := K) rfl) (by rfl) m_len (by decide +kernel) (pa_cons (pv 0) pa_nil)) pe_int (nomark _)) (pw_or1 (pt_cmpR op_gtA (pe_callB (call_lenA (K := K) rfl) (by rfl) m_len (by decide +kernel) (pa_cons (pv 0) pa_nil)) pe_int (nomark _))))) (pss_one (ps_ret pe_non)) pss_nil)
    (pss_cons (ps_if (pt_not (pt_val (pe_callB (call_allA (K := K) rfl rfl) (by rfl) m_all (by decide +kernel) (pa_cons (pe_lc (own := [("sign", 1)]) rfl sc_whole_of.nd (pi_any (K := K) rfl (pv 0)) (blkOk_by (N := ["figures", "sign"]) (sc := defScope s_whole_of) (by decide +kernel)) (fun _ _ _ _ _ => (pg_name (i := 1) sc_whole_of.nd rfl (Or.inl rfl))) (fun _ _ _ _ _ => pts_nil) (fun _ _ _ _ _ => (pe_cmpR (op_inA (K := K) rfl) (pv 1) (C8.pe_gc rfl k_FIGURES) (by rfl)))) pa_nil)))) (pss_one (ps_ret pe_non)) pss_nil)
    (pss_cons (ps_if (PW.pt (pw_and (pt_cmpR (op_eqA (K := K) rfl hr.units) (pe_ix (ix_seqA (K := K) rfl) (pv 0) pe_int (fun _ _ => rfl)) pe_str (nomark _)) (pw_and1 (pt_cmpR op_gtA (pe_callB (call_lenA (K := K) rfl) (by rfl) m_len (by decide +kernel) (pa_cons (pv 0) pa_nil)) pe_int (nomark _))))) (pss_one (ps_ret pe_non)) pss_nil)
    (pss_one (ps_ret (pe_callTy call_intA (by rfl) m_int (by decide +kernel) (pa_cons (pv 0) pa_nil))))))), ?_⟩)
  try dsimp only [L2.cxOf, L2.Cx.nox, L2.Cx.wish]
  intro X hK hE
  subst hK hE
  exact (ss_seq (ss_if (st_or (st_test (se_op o_lt (se_cb c_len (sa_cons se_var sa_nil)) se_int)) (st_test (se_op o_gt (se_cb c_len (sa_cons se_var sa_nil)) se_int))) (ss_ret se_non) ss_next)
    (ss_seq (ss_if (st_not (st_of (se_cb c_all (sa_cons (se_lc (vs := [1]) (si_any se_var) (fun _ => (sg_name (by decide))) (fun _ => st_yes) (fun _ => (se_op o_in se_var se_str))) sa_nil)))) (ss_ret se_non) ss_next)
    (ss_seq (ss_if (st_and (st_test (se_op o_eq (se_op op_ix se_var se_int) se_str)) (st_test (se_op o_gt (se_cb c_len (sa_cons se_var sa_nil)) se_int))) (ss_ret se_non) ss_next)
    (ss_ret (se_cb c_int (sa_cons se_var sa_nil))))))
noncomputable def b_number_of : FS := (sSeq (sIf (bNot (bOf (eCB (gC gIsi) (aCons (eVar 0) (aCons (eC (.ty "str")) aNil))))) (sRaise "NoNumber") sNext)
    (sSeq (sAsg (ePart (eVar 0) (eC (.str "/"))) (gT 3 (gsCons (gF 1) (gsCons (gF 2) (gsCons (gF 3) gsNil)))))
    (sSeq (sAsg (eOp (g2 gEq0) (eSl (eVar 1) oNo (oSome (eC (.int 1)))) (eC (.str "-"))) (gF 4))
    (sSeq (sIf (bOf (eVar 4)) (sAsg (eSl (eVar 1) (oSome (eC (.int 1))) oNo) (gF 1)) sNext)
    (sSeq (sAsg (eCall m_whole_of (aCons (eVar 1) aNil)) (gF 5))
    (sSeq (sAsg (eC (.int 1)) (gF 6))
    (sSeq (sIf (bOf (eOp (g2 gEq0) (eVar 2) (eC (.str "/")))) (sAsg (eCall m_whole_of (aCons (eVar 3) aNil)) (gF 6)) sNext)
    (sSeq (sIf (bOr (bOf (eOp (g2 gIs0) (eVar 5) (eC .non))) (bOr (bOf (eOp (g2 gIs0) (eVar 6) (eC .non))) (bAnd (bOf (eVar 4)) (bOf (eOp (g2 gEq0) (eVar 5) (eC (.int 0))))))) (sRaise "NoNumber") sNext)
    (sSeq (sIf (bAnd (bOf (eOp (g2 gEq0) (eVar 2) (eC (.str "/")))) (bOr (bOf (eOp (g2 gLt0) (eVar 6) (eC (.int 2)))) (bOf (eOp (g2 gNe0) (eCall m_divisor (aCons (eVar 5) (aCons (eVar 6) aNil))) (eC (.int 1)))))) (sRaise "NoNumber") sNext)
    (sSeq (sIf (bOf (eVar 4)) (sAsg (eOp (g2 gSub0) (eC (.int 0)) (eVar 5)) (gF 5)) sNext)
    (sRet (eTup 0 (aCons (eVar 5) (aCons (eVar 6) aNil))))))))))))))
noncomputable def m_number_of : Run := runD 1 6 b_number_of
abbrev s_number_of : Stmt := top 16
theorem sc_number_of : FnScope ["text", "first", "stroke", "last", "below", "top", "bottom"] ["text"] (defScope s_number_of) := ⟨rfl, rfl, rfl, by decide +kernel, rfl, by decide +kernel, by decide +kernel⟩
theorem ok_number_of {P : Program} {w : World} {K : PySem.W.Frag} {mg : Str → Option Value} {base : Heap} {f : Addr} {fd : FuncData} (Fn : Fun K "number_of" "number_of" s_number_of f fd) (m_str : mg "str" = none) (m_isinstance : mg "isinstance" = none) (R_NoNumber : ErrC K mg "NoNumber") (G_whole_of : Gd P w K mg base "whole_of" 1 ["figures"] m_whole_of) (G_divisor : Gd P w K mg base "divisor" 1 ["one", "other"] m_divisor) :
    FnOk P w K mg base (L2.CX P w) 2 f fd ["text"] (spR K m_number_of) := by
  refine def_ok (m := 1) (n := 6) (fs := b_number_of) Fn sc_number_of rfl rfl (fun cdv A outer s H E hr => ⟨_, (pss_cons (ps_if (pt_not (pt_val (pe_callB (call_isiA (K := K) rfl) (by rfl) m_isinstance (by decide +kernel) (pa_cons (pv 0) (pa_cons (pe_bltn (v := .ty "str") (u := .type "str") (by rfl) m_str (by decide +kernel) rfl) pa_nil))))) (pss_one (ps_raiseN rfl R_NoNumber (takes_of rfl rfl rfl rfl) rfl)) pss_nil)
    (pss_cons (ps_asg (pe_partition (pv 0) pe_str) (pg_seq (by rfl) (pgs_cons (pg_name (i := 1) sc_number_of.nd rfl (Or.inl rfl)) (pgs_cons (pg_name (i := 2) sc_number_of.nd rfl (Or.inl rfl)) (pgs_cons (pg_name (i := 3) sc_number_of.nd rfl (Or.inl rfl)) pgs_nil)))))
    (pss_cons (ps_set (i := 4) sc_number_of.nd rfl (Or.inl rfl) (pe_cmpR (op_eqA (K := K) rfl hr.units) (pe_slice (sl_A (K := K) rfl) (pv 1) po_none (po_some pe_int)) pe_str (nomark _)))
    (pss_cons (ps_if (pt_val (pv 4)) (pss_one (ps_set (i := 1) sc_number_of.nd rfl (Or.inl rfl) (pe_slice (sl_A (K := K) rfl) (pv 1) (po_some pe_int) po_none))) pss_nil)
    (pss_cons (ps_set (i := 5) sc_number_of.nd rfl (Or.inl rfl) (pe_gd (E := E) (takes_of rfl rfl rfl rfl) G_whole_of hr (by decide) rfl (pa_cons (pv 1) pa_nil)))
    (pss_cons (ps_set (i := 6) sc_number_of.nd rfl (Or.inl rfl) pe_int)
    (pss_cons (ps_if (pt_cmpR (op_eqA (K := K) rfl hr.units) (pv 2) pe_str (nomark _)) (pss_one (ps_set (i := 6) sc_number_of.nd rfl (Or.inl rfl) (pe_gd (E := E) (takes_of rfl rfl rfl rfl) G_whole_of hr (by decide) rfl (pa_cons (pv 3) pa_nil)))) pss_nil)
    (pss_cons (ps_if (PW.pt (pw_or (pt_cmpR op_isA (pv 5) pe_non (nomark _)) (pw_or (pt_cmpR op_isA (pv 6) pe_non (nomark _)) (pw_or1 (PW.pt (pw_and (pt_val (pv 4)) (pw_and1 (pt_cmpR (op_eqA (K := K) rfl hr.units) (pv 5) pe_int (nomark _))))))))) (pss_one (ps_raiseN rfl R_NoNumber (takes_of rfl rfl rfl rfl) rfl)) pss_nil)
    (pss_cons (ps_if (PW.pt (pw_and (pt_cmpR (op_eqA (K := K) rfl hr.units) (pv 2) pe_str (nomark _)) (pw_and1 (PW.pt (pw_or (pt_cmpR op_ltA (pv 6) pe_int (nomark _)) (pw_or1 (pt_cmpR (op_neA (K := K) rfl hr.units) (pe_gd (E := E) (takes_of rfl rfl rfl rfl) G_divisor hr (by decide) rfl (pa_cons (pv 5) (pa_cons (pv 6) pa_nil))) pe_int (nomark _)))))))) (pss_one (ps_raiseN rfl R_NoNumber (takes_of rfl rfl rfl rfl) rfl)) pss_nil)
    (pss_cons (ps_if (pt_val (pv 4)) (pss_one (ps_set (i := 5) sc_number_of.nd rfl (Or.inl rfl) (pe_op op_subA pe_int (pv 5)))) pss_nil)
    (pss_one (ps_ret (pe_tup (pa_cons (pv 5) (pa_cons (pv 6) pa_nil))))))))))))))), ?_⟩)
  try dsimp only [L2.cxOf, L2.Cx.nox, L2.Cx.wish]
  intro X hK hE
  subst hK hE
  exact (ss_seq (ss_if (st_not (st_of (se_cb c_isi (sa_cons se_var (sa_cons se_ty sa_nil))))) ss_raise ss_next)
    (ss_seq (ss_asg (js := [1, 2, 3]) (se_part se_var se_str) (sg_seq (sgs_cons (sg_nameF (by decide)) (sgs_cons (sg_nameF (by decide)) (sgs_cons (sg_nameF (by decide)) sgs_nil)))))
    (ss_seq (ss_asg (js := [4]) (se_op o_eq (se_sl se_var so_no (so_some se_int)) se_str) (sg_nameF (by decide)))
    (ss_seq (ss_if (st_of se_var) (ss_asg (js := [1]) (se_sl se_var (so_some se_int) so_no) (sg_nameF (by decide))) ss_next)
    (ss_seq (ss_asg (js := [5]) (se_call (sa_cons se_var sa_nil)) (sg_nameF (by decide)))
    (ss_seq (ss_asg (js := [6]) se_int (sg_nameF (by decide)))
    (ss_seq (ss_if (st_test (se_op o_eq se_var se_str)) (ss_asg (js := [6]) (se_call (sa_cons se_var sa_nil)) (sg_nameF (by decide))) ss_next)
    (ss_seq (ss_if (st_or (st_test (se_op o_is se_var se_non)) (st_or (st_test (se_op o_is se_var se_non)) (st_and (st_of se_var) (st_test (se_op o_eq se_var se_int))))) ss_raise ss_next)
    (ss_seq (ss_if (st_and (st_test (se_op o_eq se_var se_str)) (st_or (st_test (se_op o_lt se_var se_int)) (st_test (se_op o_ne (se_call (sa_cons se_var (sa_cons se_var sa_nil))) se_int)))) ss_raise ss_next)
    (ss_seq (ss_if (st_of se_var) (ss_asg (js := [5]) (se_op o_sub se_int se_var) (sg_nameF (by decide))) ss_next)
    (ss_ret (se_tup (sa_cons se_var (sa_cons se_var sa_nil))))))))))))))
noncomputable def b__law_cell : FS := (sRet (eOp gIx (eOp gAdd (eSl (eVar 0) (oSome (eVar 1)) (oSome (eOp gAdd (eVar 1) (eC (.int 1))))) (eLst 0 (aCons (eC (.int 0)) aNil))) (eC (.int 0))))
noncomputable def m__law_cell : Run := runD 2 0 b__law_cell
abbrev s__law_cell : Stmt := top 18
theorem sc__law_cell : FnScope ["_law_script", "_law_k"] ["_law_script", "_law_k"] (defScope s__law_cell) := ⟨rfl, rfl, rfl, by decide +kernel, rfl, by decide +kernel, by decide +kernel⟩
theorem ok__law_cell {P : Program} {w : World} {K : PySem.W.Frag} {mg : Str → Option Value} {base : Heap} {f : Addr} {fd : FuncData} (Fn : Fun K "_law_cell" "_law_cell" s__law_cell f fd) :
    FnOk P w K mg base (L2.CX P w) 1 f fd ["_law_script", "_law_k"] (spR K m__law_cell) := by
  refine def_ok (m := 2) (n := 0) (fs := b__law_cell) Fn sc__law_cell rfl rfl (fun cdv A outer s H E hr => ⟨_, (pss_one (ps_ret (pe_ix (ix_seqA (K := K) rfl) (pe_op op_addA (pe_slice (sl_A (K := K) rfl) (pv 0) (po_some (pv 1)) (po_some (pe_op op_addA (pv 1) pe_int))) (pe_lst (pa_cons pe_int pa_nil))) pe_int (fun _ _ => rfl)))), ?_⟩)
  try dsimp only [L2.cxOf, L2.Cx.nox, L2.Cx.wish]
  intro X hK hE
  subst hK hE
  exact (ss_ret (se_op op_ix (se_op o_add (se_sl se_var (so_some se_var) (so_some (se_op o_add se_var se_int))) (se_lst (sa_cons se_int sa_nil))) se_int))
noncomputable def b__law_gcd_1 : FT := (bOf (eOp (g2 gGt0) (eVar 2) (eC (.int 0))))
noncomputable def b__law_gcd_2 : FS := (sPar 2 3 (aCons (eOp (g2 gMod0) (eVar 3) (eVar 2)) (aCons (eVar 2) aNil)))
noncomputable def b__law_gcd : FS := (sSeq (sAsg (eCB gSorted (aCons (eLst 0 (aCons (eCB (gC gAbs) (aCons (eVar 0) aNil)) (aCons (eCB (gC gAbs) (aCons (eVar 1) aNil)) aNil))) aNil)) (gT 2 (gsCons (gF 2) (gsCons (gN 3) gsNil))))
    (sSeq (sWhile b__law_gcd_1 b__law_gcd_2)
    (sRet (eMv 3))))
noncomputable def m__law_gcd : Run := runD 2 2 b__law_gcd
abbrev s__law_gcd : Stmt := top 19
theorem sc__law_gcd : FnScope ["_law_one_here", "_law_other", "_law_low", "_law_high"] ["_law_one_here", "_law_other"] (defScope s__law_gcd) := ⟨rfl, rfl, rfl, by decide +kernel, rfl, by decide +kernel, by decide +kernel⟩
theorem ok__law_gcd {P : Program} {w : World} {K : PySem.W.Frag} {mg : Str → Option Value} {base : Heap} {f : Addr} {fd : FuncData} (Fn : Fun K "_law_gcd" "_law_gcd" s__law_gcd f fd) (m_abs : mg "abs" = none) (m_sorted : mg "sorted" = none) :
    FnOk P w K mg base (L2.CX P w) 1 f fd ["_law_one_here", "_law_other"] (spR K m__law_gcd) := by
  refine def_ok (m := 2) (n := 2) (fs := b__law_gcd) Fn sc__law_gcd rfl rfl (fun cdv A outer s H E hr => ⟨_, (pss_cons (ps_asg (pe_callB (call_sortedA (K := K) rfl) (by rfl) m_sorted (by decide +kernel) (pa_cons (pe_lst (pa_cons (pe_callB call_absA (by rfl) m_abs (by decide +kernel) (pa_cons (pv 0) pa_nil)) (pa_cons (pe_callB call_absA (by rfl) m_abs (by decide +kernel) (pa_cons (pv 1) pa_nil)) pa_nil))) pa_nil)) (pg_seq (by rfl) (pgs_cons (pg_name (i := 2) sc__law_gcd.nd rfl (Or.inl rfl)) (pgs_cons (pg_name (i := 3) sc__law_gcd.nd rfl (Or.inl rfl)) pgs_nil))))
    (pss_cons (ps_while (passes_of rfl) (pt_cmpR op_gtA (pv 2) pe_int (nomark _)) (pss_one (ps_par (by rfl) sc__law_gcd.nd (i := 2) (j := 3) rfl rfl (by decide) rfl rfl (pa_cons (pe_op op_modA (pv 3) (pv 2)) (pa_cons (pv 2) pa_nil)) (by rfl))))
    (pss_one (ps_ret (pv 3))))), ?_⟩)
  try dsimp only [L2.cxOf, L2.Cx.nox, L2.Cx.wish]
  intro X hK hE
  subst hK hE
  exact (ss_seq (ss_asg (js := [2, 3]) (se_cb c_sorted (sa_cons (se_lst (sa_cons (se_cb c_abs (sa_cons se_var sa_nil)) (sa_cons (se_cb c_abs (sa_cons se_var sa_nil)) sa_nil))) sa_nil)) (sg_seq (sgs_cons (sg_nameF (by decide)) (sgs_cons (sg_name (by decide)) sgs_nil))))
    (ss_seq (ss_while (st_test (se_op o_gt se_var se_int)) (ss_par (sa_cons (se_op o_mod se_var se_var) (sa_cons se_var sa_nil))))
    (ss_ret se_mv)))
noncomputable def b__law_lowest : FS := (sSeq (sAsg (eCall m__law_gcd (aCons (eVar 0) (aCons (eVar 1) aNil))) (gF 2))
    (sRet (eTup 0 (aCons (eOp (g2 gDiv0) (eVar 0) (eVar 2)) (aCons (eOp (g2 gDiv0) (eVar 1) (eVar 2)) aNil)))))
noncomputable def m__law_lowest : Run := runD 2 1 b__law_lowest
abbrev s__law_lowest : Stmt := top 20
theorem sc__law_lowest : FnScope ["_law_top", "_law_bottom", "_law_common"] ["_law_top", "_law_bottom"] (defScope s__law_lowest) := ⟨rfl, rfl, rfl, by decide +kernel, rfl, by decide +kernel, by decide +kernel⟩
theorem ok__law_lowest {P : Program} {w : World} {K : PySem.W.Frag} {mg : Str → Option Value} {base : Heap} {f : Addr} {fd : FuncData} (Fn : Fun K "_law_lowest" "_law_lowest" s__law_lowest f fd) (G__law_gcd : Gd P w K mg base "_law_gcd" 1 ["_law_one_here", "_law_other"] m__law_gcd) :
    FnOk P w K mg base (L2.CX P w) 2 f fd ["_law_top", "_law_bottom"] (spR K m__law_lowest) := by
  refine def_ok (m := 2) (n := 1) (fs := b__law_lowest) Fn sc__law_lowest rfl rfl (fun cdv A outer s H E hr => ⟨_, (pss_cons (ps_set (i := 2) sc__law_lowest.nd rfl (Or.inl rfl) (pe_gd (E := E) (takes_of rfl rfl rfl rfl) G__law_gcd hr (by decide) rfl (pa_cons (pv 0) (pa_cons (pv 1) pa_nil))))
    (pss_one (ps_ret (pe_tup (pa_cons (pe_op op_divA (pv 0) (pv 2)) (pa_cons (pe_op op_divA (pv 1) (pv 2)) pa_nil)))))), ?_⟩)
  try dsimp only [L2.cxOf, L2.Cx.nox, L2.Cx.wish]
  intro X hK hE
  subst hK hE
  exact (ss_seq (ss_asg (js := [2]) (se_call (sa_cons se_var (sa_cons se_var sa_nil))) (sg_nameF (by decide)))
    (ss_ret (se_tup (sa_cons (se_op o_div se_var se_var) (sa_cons (se_op o_div se_var se_var) sa_nil)))))
noncomputable def b__law_whole : FS := (sRet (eAnd (eCB (gC gIsi) (aCons (eVar 0) (aCons (eC (.ty "int")) aNil))) (eNot (eCB (gC gIsi) (aCons (eVar 0) (aCons (eC (.ty "bool")) aNil))))))
noncomputable def m__law_whole : Run := runD 1 0 b__law_whole
abbrev s__law_whole : Stmt := top 21
theorem sc__law_whole : FnScope ["_law_found"] ["_law_found"] (defScope s__law_whole) := ⟨rfl, rfl, rfl, by decide +kernel, rfl, by decide +kernel, by decide +kernel⟩
theorem ok__law_whole {P : Program} {w : World} {K : PySem.W.Frag} {mg : Str → Option Value} {base : Heap} {f : Addr} {fd : FuncData} (Fn : Fun K "_law_whole" "_law_whole" s__law_whole f fd) (m_int : mg "int" = none) (m_isinstance : mg "isinstance" = none) (m_bool : mg "bool" = none) :
    FnOk P w K mg base (L2.CX P w) 1 f fd ["_law_found"] (spR K m__law_whole) := by
  refine def_ok (m := 1) (n := 0) (fs := b__law_whole) Fn sc__law_whole rfl rfl (fun cdv A outer s H E hr => ⟨_, (pss_one (ps_ret (pe_and (pe_callB (call_isiA (K := K) rfl) (by rfl) m_isinstance (by decide +kernel) (pa_cons (pv 0) (pa_cons (pe_bltn (v := .ty "int") (u := .type "int") (by rfl) m_int (by decide +kernel) rfl) pa_nil))) (pe_one (pe_not (pe_callB (call_isiA (K := K) rfl) (by rfl) m_isinstance (by decide +kernel) (pa_cons (pv 0) (pa_cons (pe_bltn (v := .ty "bool") (u := .type "bool") (by rfl) m_bool (by decide +kernel) rfl) pa_nil)))))))), ?_⟩)
  try dsimp only [L2.cxOf, L2.Cx.nox, L2.Cx.wish]
  intro X hK hE
  subst hK hE
  exact (ss_ret (se_and (se_cb c_isi (sa_cons se_var (sa_cons se_ty sa_nil))) (se_not (se_cb c_isi (sa_cons se_var (sa_cons se_ty sa_nil))))))
noncomputable def b__law_fraction : FS := (sSeq (sIf (bOr (bNot (bOf (eCB (gC gIsi) (aCons (eVar 0) (aCons (eC (.ty "tuple")) aNil))))) (bOf (eOp (g2 gNe0) (eCB (gC gLen) (aCons (eVar 0) aNil)) (eC (.int 2))))) (sRet (eC (.bl false))) sNext)
    (sSeq (sIf (bOr (bNot (bOf (eCall m__law_whole (aCons (eOp gIx (eVar 0) (eC (.int 0))) aNil)))) (bNot (bOf (eCall m__law_whole (aCons (eOp gIx (eVar 0) (eC (.int 1))) aNil))))) (sRet (eC (.bl false))) sNext)
    (sRet (eAnd (eOp (g2 gGt0) (eOp gIx (eVar 0) (eC (.int 1))) (eC (.int 0))) (eOp (g2 gEq0) (eCall m__law_gcd (aCons (eOp gIx (eVar 0) (eC (.int 0))) (aCons (eOp gIx (eVar 0) (eC (.int 1))) aNil))) (eC (.int 1)))))))
noncomputable def m__law_fraction : Run := runD 1 0 b__law_fraction
abbrev s__law_fraction : Stmt := top 22
theorem sc__law_fraction : FnScope ["_law_found"] ["_law_found"] (defScope s__law_fraction) := ⟨rfl, rfl, rfl, by decide +kernel, rfl, by decide +kernel, by decide +kernel⟩
theorem ok__law_fraction {P : Program} {w : World} {K : PySem.W.Frag} {mg : Str → Option Value} {base : Heap} {f : Addr} {fd : FuncData} (Fn : Fun K "_law_fraction" "_law_fraction" s__law_fraction f fd) (m_tuple : mg "tuple" = none) (m_isinstance : mg "isinstance" = none) (m_len : mg "len" = none) (G__law_whole : Gd P w K mg base "_law_whole" 1 ["_law_found"] m__law_whole) (G__law_gcd : Gd P w K mg base "_law_gcd" 1 ["_law_one_here", "_law_other"] m__law_gcd) :
    FnOk P w K mg base (L2.CX P w) 2 f fd ["_law_found"] (spR K m__law_fraction) := by
  refine def_ok (m := 1) (n := 0) (fs := b__law_fraction) Fn sc__law_fraction rfl rfl (fun cdv A outer s H E hr => ⟨_, (pss_cons (ps_if (PW.pt (pw_or (pt_not (pt_val (pe_callB (call_isiA (K := K) rfl) (by rfl) m_isinstance (by decide +kernel) (pa_cons (pv 0) (pa_cons (pe_bltn (v := .ty "tuple") (u := .type "tuple") (by rfl) m_tuple (by decide +kernel) rfl) pa_nil))))) (pw_or1 (pt_cmpR (op_neA (K := K) rfl hr.units) (pe_callB (call_lenA (K := K) rfl) (by rfl) m_len (by decide +kernel) (pa_cons (pv 0) pa_nil)) pe_int (nomark _))))) (pss_one (ps_ret pe_bl)) pss_nil)
    (pss_cons (ps_if (PW.pt (pw_or (pt_not (pt_val (pe_gd (E := E) (takes_of rfl rfl rfl rfl) G__law_whole hr (by decide) rfl (pa_cons (pe_ix (ix_seqA (K := K) rfl) (pv 0) pe_int (fun _ _ => rfl)) pa_nil)))) (pw_or1 (pt_not (pt_val (pe_gd (E := E) (takes_of rfl rfl rfl rfl) G__law_whole hr (by decide) rfl (pa_cons (pe_ix (ix_seqA (K := K) rfl) (pv 0) pe_int (fun _ _ => rfl)) pa_nil))))))) (pss_one (ps_ret pe_bl)) pss_nil)
    (pss_one (ps_ret (pe_and (pe_cmpR op_gtA (pe_ix (ix_seqA (K := K) rfl) (pv 0) pe_int (fun _ _ => rfl)) pe_int (nomark _)) (pe_one (pe_cmpR (op_eqA (K := K) rfl hr.units) (pe_gd (E := E) (takes_of rfl rfl rfl rfl) G__law_gcd hr (by decide) rfl (pa_cons (pe_ix (ix_seqA (K := K) rfl) (pv 0) pe_int (fun _ _ => rfl)) (pa_cons (pe_ix (ix_seqA (K := K) rfl) (pv 0) pe_int (fun _ _ => rfl)) pa_nil))) pe_int (nomark _)))))))), ?_⟩)
  try dsimp only [L2.cxOf, L2.Cx.nox, L2.Cx.wish]
  intro X hK hE
  subst hK hE
  exact (ss_seq (ss_if (st_or (st_not (st_of (se_cb c_isi (sa_cons se_var (sa_cons se_ty sa_nil))))) (st_test (se_op o_ne (se_cb c_len (sa_cons se_var sa_nil)) se_int))) (ss_ret se_bl) ss_next)
    (ss_seq (ss_if (st_or (st_not (st_of (se_call (sa_cons (se_op op_ix se_var se_int) sa_nil)))) (st_not (st_of (se_call (sa_cons (se_op op_ix se_var se_int) sa_nil))))) (ss_ret se_bl) ss_next)
    (ss_ret (se_and (se_op o_gt (se_op op_ix se_var se_int) se_int) (se_op o_eq (se_call (sa_cons (se_op op_ix se_var se_int) (sa_cons (se_op op_ix se_var se_int) sa_nil))) se_int)))))
noncomputable def b__law_only_1 : FE := (eOp (g2 gEq0) (eVar 3) (eVar 1))
noncomputable def b__law_only : FS := (sSeq (sAsg (eLst 0 (aCons (eCB (gC (gIsC CL RS ISA)) (aCons (eVar 0) (aCons (eC (.cls "NoNumber")) aNil))) (aCons (eCB (gC (gIsC CL RS ISA)) (aCons (eVar 0) (aCons (eC (.cls "NoName")) aNil))) (aCons (eCB (gC (gIsC CL RS ISA)) (aCons (eVar 0) (aCons (eC (.cls "NoChance")) aNil))) aNil)))) (gF 2))
    (sSeq (sAsg (eOp gAdd (eVar 2) (eLst 0 (aCons (eCB (gC (gIsC CL RS ISA)) (aCons (eVar 0) (aCons (eC (.cls "NoShare")) aNil))) (aCons (eCB (gC (gIsC CL RS ISA)) (aCons (eVar 0) (aCons (eC (.cls "NoText")) aNil))) (aCons (eCB (gC (gIsC CL RS ISA)) (aCons (eVar 0) (aCons (eC (.cls "NoRow")) aNil))) aNil))))) (gF 2))
    (sSeq (sAsg (eOp gAdd (eVar 2) (eLst 0 (aCons (eCB (gC (gIsC CL RS ISA)) (aCons (eVar 0) (aCons (eC (.cls "NoRoom")) aNil))) (aCons (eCB (gC (gIsC CL RS ISA)) (aCons (eVar 0) (aCons (eC (.cls "NoDoor")) aNil))) (aCons (eCB (gC (gIsC CL RS ISA)) (aCons (eVar 0) (aCons (eC (.cls "NoPlan")) aNil))) aNil))))) (gF 2))
    (sRet (eAnd (eCB (gC (gIsC CL RS ISA)) (aCons (eVar 0) (aCons (eC (.ty "ValueError")) aNil))) (eOp (g2 gEq0) (eVar 2) (eLc 0 [3] (iR1 (eC (.int 9))) (gN 3) bYes b__law_only_1)))))))
noncomputable def m__law_only : Run := runD 2 2 b__law_only
abbrev s__law_only : Stmt := top 23
theorem sc__law_only : FnScope ["_law_e", "_law_at", "_law_kinds", "_law_k"] ["_law_e", "_law_at"] (defScope s__law_only) := ⟨rfl, rfl, rfl, by decide +kernel, rfl, by decide +kernel, by decide +kernel⟩
theorem ok__law_only {P : Program} {w : World} {K : PySem.W.Frag} {mg : Str → Option Value} {base : Heap} {f : Addr} {fd : FuncData} (Fn : Fun K "_law_only" "_law_only" s__law_only f fd) (m_isinstance : mg "isinstance" = none) (m_ValueError : mg "ValueError" = none) (m_range : mg "range" = none) {c_NoNumber : Addr} (n_NoNumber : PySem.W.nsIn K mainGlobals "NoNumber" = some (some (.ref c_NoNumber))) (mc_NoNumber : mg "NoNumber" = some (.ref c_NoNumber)) {c_NoName : Addr} (n_NoName : PySem.W.nsIn K mainGlobals "NoName" = some (some (.ref c_NoName))) (mc_NoName : mg "NoName" = some (.ref c_NoName)) {c_NoChance : Addr} (n_NoChance : PySem.W.nsIn K mainGlobals "NoChance" = some (some (.ref c_NoChance))) (mc_NoChance : mg "NoChance" = some (.ref c_NoChance)) {c_NoShare : Addr} (n_NoShare : PySem.W.nsIn K mainGlobals "NoShare" = some (some (.ref c_NoShare))) (mc_NoShare : mg "NoShare" = some (.ref c_NoShare)) {c_NoText : Addr} (n_NoText : PySem.W.nsIn K mainGlobals "NoText" = some (some (.ref c_NoText))) (mc_NoText : mg "NoText" = some (.ref c_NoText)) {c_NoRow : Addr} (n_NoRow : PySem.W.nsIn K mainGlobals "NoRow" = some (some (.ref c_NoRow))) (mc_NoRow : mg "NoRow" = some (.ref c_NoRow)) {c_NoRoom : Addr} (n_NoRoom : PySem.W.nsIn K mainGlobals "NoRoom" = some (some (.ref c_NoRoom))) (mc_NoRoom : mg "NoRoom" = some (.ref c_NoRoom)) {c_NoDoor : Addr} (n_NoDoor : PySem.W.nsIn K mainGlobals "NoDoor" = some (some (.ref c_NoDoor))) (mc_NoDoor : mg "NoDoor" = some (.ref c_NoDoor)) {c_NoPlan : Addr} (n_NoPlan : PySem.W.nsIn K mainGlobals "NoPlan" = some (some (.ref c_NoPlan))) (mc_NoPlan : mg "NoPlan" = some (.ref c_NoPlan)) (HT : ErrTab K CL RS ISA) :
    FnOk P w K mg base (L2.CX P w) 1 f fd ["_law_e", "_law_at"] (spR K m__law_only) := by
  refine def_ok (m := 2) (n := 2) (fs := b__law_only) Fn sc__law_only rfl rfl (fun cdv A outer s H E hr => ⟨_, (pss_cons (ps_set (i := 2) sc__law_only.nd rfl (Or.inl rfl) (pe_lst (pa_cons (pe_callB (call_isiC (K := K) rfl) (by rfl) m_isinstance (by decide +kernel) (pa_cons (pv 0) (pa_cons (pe_glob (v := .ref c_NoNumber) rfl mc_NoNumber rfl) pa_nil))) (pa_cons (pe_callB (call_isiC (K := K) rfl) (by rfl) m_isinstance (by decide +kernel) (pa_cons (pv 0) (pa_cons (pe_glob (v := .ref c_NoName) rfl mc_NoName rfl) pa_nil))) (pa_cons (pe_callB (call_isiC (K := K) rfl) (by rfl) m_isinstance (by decide +kernel) (pa_cons (pv 0) (pa_cons (pe_glob (v := .ref c_NoChance) rfl mc_NoChance rfl) pa_nil))) pa_nil)))))
    (pss_cons (ps_set (i := 2) sc__law_only.nd rfl (Or.inl rfl) (pe_op op_addA (pv 2) (pe_lst (pa_cons (pe_callB (call_isiC (K := K) rfl) (by rfl) m_isinstance (by decide +kernel) (pa_cons (pv 0) (pa_cons (pe_glob (v := .ref c_NoShare) rfl mc_NoShare rfl) pa_nil))) (pa_cons (pe_callB (call_isiC (K := K) rfl) (by rfl) m_isinstance (by decide +kernel) (pa_cons (pv 0) (pa_cons (pe_glob (v := .ref c_NoText) rfl mc_NoText rfl) pa_nil))) (pa_cons (pe_callB (call_isiC (K := K) rfl) (by rfl) m_isinstance (by decide +kernel) (pa_cons (pv 0) (pa_cons (pe_glob (v := .ref c_NoRow) rfl mc_NoRow rfl) pa_nil))) pa_nil))))))
    (pss_cons (ps_set (i := 2) sc__law_only.nd rfl (Or.inl rfl) (pe_op op_addA (pv 2) (pe_lst (pa_cons (pe_callB (call_isiC (K := K) rfl) (by rfl) m_isinstance (by decide +kernel) (pa_cons (pv 0) (pa_cons (pe_glob (v := .ref c_NoRoom) rfl mc_NoRoom rfl) pa_nil))) (pa_cons (pe_callB (call_isiC (K := K) rfl) (by rfl) m_isinstance (by decide +kernel) (pa_cons (pv 0) (pa_cons (pe_glob (v := .ref c_NoDoor) rfl mc_NoDoor rfl) pa_nil))) (pa_cons (pe_callB (call_isiC (K := K) rfl) (by rfl) m_isinstance (by decide +kernel) (pa_cons (pv 0) (pa_cons (pe_glob (v := .ref c_NoPlan) rfl mc_NoPlan rfl) pa_nil))) pa_nil))))))
    (pss_one (ps_ret (pe_and (pe_callB (call_isiC (K := K) rfl) (by rfl) m_isinstance (by decide +kernel) (pa_cons (pv 0) (pa_cons (pe_bltn (v := .ty "ValueError") (u := .type "ValueError") (by rfl) m_ValueError (by decide +kernel) rfl) pa_nil))) (pe_one (pe_cmpR (op_eqA (K := K) rfl hr.units) (pv 2) (pe_lc (own := [("_law_k", 3)]) rfl sc__law_only.nd (pi_range1 rfl m_range (pa_cons pe_int pa_nil)) (blkOk_by (N := ["_law_e", "_law_at", "_law_kinds", "_law_k"]) (sc := defScope s__law_only) (by decide +kernel)) (fun _ _ _ _ _ => (pg_name (i := 3) sc__law_only.nd rfl (Or.inl rfl))) (fun _ _ _ _ _ => pts_nil) (fun _ _ _ _ _ => (pe_cmpR (op_eqA (K := K) rfl hr.units) (pv 3) (pv 1) (nomark _)))) (nomark _))))))))), ?_⟩)
  try dsimp only [L2.cxOf, L2.Cx.nox, L2.Cx.wish]
  intro X hK hE
  subst hK hE
  exact (ss_seq (ss_asg (js := [2]) (se_lst (sa_cons (se_cb (c_isiC HT) (sa_cons se_var (sa_cons (se_cls n_NoNumber) sa_nil))) (sa_cons (se_cb (c_isiC HT) (sa_cons se_var (sa_cons (se_cls n_NoName) sa_nil))) (sa_cons (se_cb (c_isiC HT) (sa_cons se_var (sa_cons (se_cls n_NoChance) sa_nil))) sa_nil)))) (sg_nameF (by decide)))
    (ss_seq (ss_asg (js := [2]) (se_op o_add se_var (se_lst (sa_cons (se_cb (c_isiC HT) (sa_cons se_var (sa_cons (se_cls n_NoShare) sa_nil))) (sa_cons (se_cb (c_isiC HT) (sa_cons se_var (sa_cons (se_cls n_NoText) sa_nil))) (sa_cons (se_cb (c_isiC HT) (sa_cons se_var (sa_cons (se_cls n_NoRow) sa_nil))) sa_nil))))) (sg_nameF (by decide)))
    (ss_seq (ss_asg (js := [2]) (se_op o_add se_var (se_lst (sa_cons (se_cb (c_isiC HT) (sa_cons se_var (sa_cons (se_cls n_NoRoom) sa_nil))) (sa_cons (se_cb (c_isiC HT) (sa_cons se_var (sa_cons (se_cls n_NoDoor) sa_nil))) (sa_cons (se_cb (c_isiC HT) (sa_cons se_var (sa_cons (se_cls n_NoPlan) sa_nil))) sa_nil))))) (sg_nameF (by decide)))
    (ss_ret (se_and (se_cb (c_isiC HT) (sa_cons se_var (sa_cons se_ty sa_nil))) (se_op o_eq se_var (se_lc (vs := [3]) (si_r1 se_int) (fun _ => (sg_name (by decide))) (fun _ => st_yes) (fun _ => (se_op o_eq se_var se_var)))))))))
noncomputable def b__law_number : FS := (sSeq (sIf (bOf (eOp (g2 gEq0) (eOp gIx (eVar 0) (eC (.int 1))) (eC (.int 1)))) (sRet (eCB (gC gStr) (aCons (eOp gIx (eVar 0) (eC (.int 0))) aNil))) sNext)
    (sRet (eOp gAdd (eOp gAdd (eCB (gC gStr) (aCons (eOp gIx (eVar 0) (eC (.int 0))) aNil)) (eC (.str "/"))) (eCB (gC gStr) (aCons (eOp gIx (eVar 0) (eC (.int 1))) aNil)))))
noncomputable def m__law_number : Run := runD 1 0 b__law_number
abbrev s__law_number : Stmt := top 24
theorem sc__law_number : FnScope ["_law_one_here"] ["_law_one_here"] (defScope s__law_number) := ⟨rfl, rfl, rfl, by decide +kernel, rfl, by decide +kernel, by decide +kernel⟩
theorem ok__law_number {P : Program} {w : World} {K : PySem.W.Frag} {mg : Str → Option Value} {base : Heap} {f : Addr} {fd : FuncData} (Fn : Fun K "_law_number" "_law_number" s__law_number f fd) (m_str : mg "str" = none) :
    FnOk P w K mg base (L2.CX P w) 1 f fd ["_law_one_here"] (spR K m__law_number) := by
  refine def_ok (m := 1) (n := 0) (fs := b__law_number) Fn sc__law_number rfl rfl (fun cdv A outer s H E hr => ⟨_, (pss_cons (ps_if (pt_cmpR (op_eqA (K := K) rfl hr.units) (pe_ix (ix_seqA (K := K) rfl) (pv 0) pe_int (fun _ _ => rfl)) pe_int (nomark _)) (pss_one (ps_ret (pe_callTy call_strA (by rfl) m_str (by decide +kernel) (pa_cons (pe_ix (ix_seqA (K := K) rfl) (pv 0) pe_int (fun _ _ => rfl)) pa_nil)))) pss_nil)
    (pss_one (ps_ret (pe_op op_addA (pe_op op_addA (pe_callTy call_strA (by rfl) m_str (by decide +kernel) (pa_cons (pe_ix (ix_seqA (K := K) rfl) (pv 0) pe_int (fun _ _ => rfl)) pa_nil)) pe_str) (pe_callTy call_strA (by rfl) m_str (by decide +kernel) (pa_cons (pe_ix (ix_seqA (K := K) rfl) (pv 0) pe_int (fun _ _ => rfl)) pa_nil)))))), ?_⟩)
  try dsimp only [L2.cxOf, L2.Cx.nox, L2.Cx.wish]
  intro X hK hE
  subst hK hE
  exact (ss_seq (ss_if (st_test (se_op o_eq (se_op op_ix se_var se_int) se_int)) (ss_ret (se_cb c_str (sa_cons (se_op op_ix se_var se_int) sa_nil))) ss_next)
    (ss_ret (se_op o_add (se_op o_add (se_cb c_str (sa_cons (se_op op_ix se_var se_int) sa_nil)) se_str) (se_cb c_str (sa_cons (se_op op_ix se_var se_int) sa_nil)))))
noncomputable def b__law_figures_1 : FS := (sIf (bOf (eOp (g2 (gIn0 true)) (eVar 1) (eC (.str "0123456789")))) (sRet (eNeg (eC (.int 1)))) sNext)
noncomputable def b__law_figures : FS := (sSeq (sIf (bOr (bOf (eOp (g2 gEq0) (eVar 0) (eC (.str "")))) (bOr (bOf (eOp (g2 gGt0) (eCB (gC gLen) (aCons (eVar 0) aNil)) (eC (.int 40)))) (bAnd (bOf (eOp (g2 gGt0) (eCB (gC gLen) (aCons (eVar 0) aNil)) (eC (.int 1)))) (bOf (eOp (g2 gEq0) (eOp gIx (eVar 0) (eC (.int 0))) (eC (.str "0"))))))) (sRet (eNeg (eC (.int 1)))) sNext)
    (sSeq (sFor (iSeq (eVar 0)) (gF 1) b__law_figures_1)
    (sRet (eCB (gC gInt) (aCons (eVar 0) aNil)))))
noncomputable def m__law_figures : Run := runD 1 1 b__law_figures
abbrev s__law_figures : Stmt := top 25
theorem sc__law_figures : FnScope ["_law_text", "_law_sign"] ["_law_text"] (defScope s__law_figures) := ⟨rfl, rfl, rfl, by decide +kernel, rfl, by decide +kernel, by decide +kernel⟩
theorem ok__law_figures {P : Program} {w : World} {K : PySem.W.Frag} {mg : Str → Option Value} {base : Heap} {f : Addr} {fd : FuncData} (Fn : Fun K "_law_figures" "_law_figures" s__law_figures f fd) (m_len : mg "len" = none) (m_int : mg "int" = none) :
    FnOk P w K mg base (L2.CX P w) 1 f fd ["_law_text"] (spR K m__law_figures) := by
  refine def_ok (m := 1) (n := 1) (fs := b__law_figures) Fn sc__law_figures rfl rfl (fun cdv A outer s H E hr => ⟨_, (pss_cons (ps_if (PW.pt (pw_or (pt_cmpR (op_eqA (K := K) rfl hr.units) (pv 0) pe_str (nomark _)) (pw_or (pt_cmpR op_gtA (pe_callB (call_lenA (K := K) rfl) (by rfl) m_len (by decide +kernel) (pa_cons (pv 0) pa_nil)) pe_int (nomark _)) (pw_or1 (PW.pt (pw_and (pt_cmpR op_gtA (pe_callB (call_lenA (K := K) rfl) (by rfl) m_len (by decide +kernel) (pa_cons (pv 0) pa_nil)) pe_int (nomark _)) (pw_and1 (pt_cmpR (op_eqA (K := K) rfl hr.units) (pe_ix (ix_seqA (K := K) rfl) (pv 0) pe_int (fun _ _ => rfl)) pe_str (nomark _))))))))) (pss_one (ps_ret (pe_un un_neg pe_int))) pss_nil)
    (pss_cons (ps_for (passes_of rfl) rfl (pi_any (K := K) rfl (pv 0)) (pg_name (i := 1) sc__law_figures.nd rfl (Or.inl rfl)) (pss_one (ps_if (pt_cmpR (op_ninA (K := K) rfl) (pv 1) pe_str (by rfl)) (pss_one (ps_ret (pe_un un_neg pe_int))) pss_nil)))
    (pss_one (ps_ret (pe_callTy call_intA (by rfl) m_int (by decide +kernel) (pa_cons (pv 0) pa_nil)))))), ?_⟩)
  try dsimp only [L2.cxOf, L2.Cx.nox, L2.Cx.wish]
  intro X hK hE
  subst hK hE
  exact (ss_seq (ss_if (st_or (st_test (se_op o_eq se_var se_str)) (st_or (st_test (se_op o_gt (se_cb c_len (sa_cons se_var sa_nil)) se_int)) (st_and (st_test (se_op o_gt (se_cb c_len (sa_cons se_var sa_nil)) se_int)) (st_test (se_op o_eq (se_op op_ix se_var se_int) se_str))))) (ss_ret (se_neg se_int)) ss_next)
    (ss_seq (ss_for (js := [1]) (si_any se_var) (sg_nameF (by decide)) (ss_if (st_test (se_op o_nin se_var se_str)) (ss_ret (se_neg se_int)) ss_next))
    (ss_ret (se_cb c_int (sa_cons se_var sa_nil)))))
noncomputable def b__law_due : FS := (sSeq (sAsg (eVar 0) (gF 1))
    (sSeq (sIf (bOf (eOp (g2 gEq0) (eSl (eVar 0) oNo (oSome (eC (.int 1)))) (eC (.str "-")))) (sAsg (eSl (eVar 0) (oSome (eC (.int 1))) oNo) (gF 1)) sNext)
    (sSeq (sAsg (eFind (eVar 1) (eC (.str "/"))) (gF 2))
    (sSeq (sAsg (eC (.int 1)) (gF 3))
    (sSeq (sAsg (eCall m__law_figures (aCons (eVar 1) aNil)) (gF 4))
    (sSeq (sIf (bOf (eOp (g2 gGe0) (eVar 2) (eC (.int 0)))) (sSeq (sAsg (eCall m__law_figures (aCons (eSl (eVar 1) oNo (oSome (eVar 2))) aNil)) (gF 4))
    (sSeq (sAsg (eCall m__law_figures (aCons (eSl (eVar 1) (oSome (eOp gAdd (eVar 2) (eC (.int 1)))) oNo) aNil)) (gF 3))
    (sIf (bOr (bOf (eOp (g2 gLt0) (eVar 3) (eC (.int 2)))) (bOr (bOf (eOp (g2 gLt0) (eVar 4) (eC (.int 0)))) (bOf (eOp (g2 gNe0) (eCall m__law_gcd (aCons (eVar 4) (aCons (eVar 3) aNil))) (eC (.int 1)))))) (sRet (eC .non)) sNext))) sNext)
    (sSeq (sIf (bOr (bOf (eOp (g2 gLt0) (eVar 4) (eC (.int 0)))) (bAnd (bOf (eOp (g2 gEq0) (eVar 4) (eC (.int 0)))) (bOf (eOp (g2 gNe0) (eVar 1) (eVar 0))))) (sRet (eC .non)) sNext)
    (sSeq (sIf (bOf (eOp (g2 gNe0) (eVar 1) (eVar 0))) (sAsg (eOp (g2 gSub0) (eC (.int 0)) (eVar 4)) (gF 4)) sNext)
    (sRet (eTup 0 (aCons (eVar 4) (aCons (eVar 3) aNil))))))))))))
noncomputable def m__law_due : Run := runD 1 4 b__law_due
abbrev s__law_due : Stmt := top 26
theorem sc__law_due : FnScope ["_law_text", "_law_bare", "_law_at", "_law_bottom", "_law_top"] ["_law_text"] (defScope s__law_due) := ⟨rfl, rfl, rfl, by decide +kernel, rfl, by decide +kernel, by decide +kernel⟩
theorem ok__law_due {P : Program} {w : World} {K : PySem.W.Frag} {mg : Str → Option Value} {base : Heap} {f : Addr} {fd : FuncData} (Fn : Fun K "_law_due" "_law_due" s__law_due f fd) (G__law_figures : Gd P w K mg base "_law_figures" 1 ["_law_text"] m__law_figures) (G__law_gcd : Gd P w K mg base "_law_gcd" 1 ["_law_one_here", "_law_other"] m__law_gcd) :
    FnOk P w K mg base (L2.CX P w) 2 f fd ["_law_text"] (spR K m__law_due) := by
  refine def_ok (m := 1) (n := 4) (fs := b__law_due) Fn sc__law_due rfl rfl (fun cdv A outer s H E hr => ⟨_, (pss_cons (ps_set (i := 1) sc__law_due.nd rfl (Or.inl rfl) (pv 0))
    (pss_cons (ps_if (pt_cmpR (op_eqA (K := K) rfl hr.units) (pe_slice (sl_A (K := K) rfl) (pv 0) po_none (po_some pe_int)) pe_str (nomark _)) (pss_one (ps_set (i := 1) sc__law_due.nd rfl (Or.inl rfl) (pe_slice (sl_A (K := K) rfl) (pv 0) (po_some pe_int) po_none))) pss_nil)
    (pss_cons (ps_set (i := 2) sc__law_due.nd rfl (Or.inl rfl) (pe_findA (K := K) rfl (pv 1) pe_str))
    (pss_cons (ps_set (i := 3) sc__law_due.nd rfl (Or.inl rfl) pe_int)
    (pss_cons (ps_set (i := 4) sc__law_due.nd rfl (Or.inl rfl) (pe_gd (E := E) (takes_of rfl rfl rfl rfl) G__law_figures hr (by decide) rfl (pa_cons (pv 1) pa_nil)))
    (pss_cons (ps_if (pt_cmpR op_geA (pv 2) pe_int (nomark _)) (pss_cons (ps_set (i := 4) sc__law_due.nd rfl (Or.inl rfl) (pe_gd (E := E) (takes_of rfl rfl rfl rfl) G__law_figures hr (by decide) rfl (pa_cons (pe_slice (sl_A (K := K) rfl) (pv 1) po_none (po_some (pv 2))) pa_nil)))
    (pss_cons (ps_set (i := 3) sc__law_due.nd rfl (Or.inl rfl) (pe_gd (E := E) (takes_of rfl rfl rfl rfl) G__law_figures hr (by decide) rfl (pa_cons (pe_slice (sl_A (K := K) rfl) (pv 1) (po_some (pe_op op_addA (pv 2) pe_int)) po_none) pa_nil)))
    (pss_one (ps_if (PW.pt (pw_or (pt_cmpR op_ltA (pv 3) pe_int (nomark _)) (pw_or (pt_cmpR op_ltA (pv 4) pe_int (nomark _)) (pw_or1 (pt_cmpR (op_neA (K := K) rfl hr.units) (pe_gd (E := E) (takes_of rfl rfl rfl rfl) G__law_gcd hr (by decide) rfl (pa_cons (pv 4) (pa_cons (pv 3) pa_nil))) pe_int (nomark _)))))) (pss_one (ps_ret pe_non)) pss_nil)))) pss_nil)
    (pss_cons (ps_if (PW.pt (pw_or (pt_cmpR op_ltA (pv 4) pe_int (nomark _)) (pw_or1 (PW.pt (pw_and (pt_cmpR (op_eqA (K := K) rfl hr.units) (pv 4) pe_int (nomark _)) (pw_and1 (pt_cmpR (op_neA (K := K) rfl hr.units) (pv 1) (pv 0) (nomark _)))))))) (pss_one (ps_ret pe_non)) pss_nil)
    (pss_cons (ps_if (pt_cmpR (op_neA (K := K) rfl hr.units) (pv 1) (pv 0) (nomark _)) (pss_one (ps_set (i := 4) sc__law_due.nd rfl (Or.inl rfl) (pe_op op_subA pe_int (pv 4)))) pss_nil)
    (pss_one (ps_ret (pe_tup (pa_cons (pv 4) (pa_cons (pv 3) pa_nil))))))))))))), ?_⟩)
  try dsimp only [L2.cxOf, L2.Cx.nox, L2.Cx.wish]
  intro X hK hE
  subst hK hE
  exact (ss_seq (ss_asg (js := [1]) se_var (sg_nameF (by decide)))
    (ss_seq (ss_if (st_test (se_op o_eq (se_sl se_var so_no (so_some se_int)) se_str)) (ss_asg (js := [1]) (se_sl se_var (so_some se_int) so_no) (sg_nameF (by decide))) ss_next)
    (ss_seq (ss_asg (js := [2]) (se_find se_var se_str) (sg_nameF (by decide)))
    (ss_seq (ss_asg (js := [3]) se_int (sg_nameF (by decide)))
    (ss_seq (ss_asg (js := [4]) (se_call (sa_cons se_var sa_nil)) (sg_nameF (by decide)))
    (ss_seq (ss_if (st_test (se_op o_ge se_var se_int)) (ss_seq (ss_asg (js := [4]) (se_call (sa_cons (se_sl se_var so_no (so_some se_var)) sa_nil)) (sg_nameF (by decide)))
    (ss_seq (ss_asg (js := [3]) (se_call (sa_cons (se_sl se_var (so_some (se_op o_add se_var se_int)) so_no) sa_nil)) (sg_nameF (by decide)))
    (ss_if (st_or (st_test (se_op o_lt se_var se_int)) (st_or (st_test (se_op o_lt se_var se_int)) (st_test (se_op o_ne (se_call (sa_cons se_var (sa_cons se_var sa_nil))) se_int)))) (ss_ret se_non) ss_next))) ss_next)
    (ss_seq (ss_if (st_or (st_test (se_op o_lt se_var se_int)) (st_and (st_test (se_op o_eq se_var se_int)) (st_test (se_op o_ne se_var se_var)))) (ss_ret se_non) ss_next)
    (ss_seq (ss_if (st_test (se_op o_ne se_var se_var)) (ss_asg (js := [4]) (se_op o_sub se_int se_var) (sg_nameF (by decide))) ss_next)
    (ss_ret (se_tup (sa_cons se_var (sa_cons se_var sa_nil))))))))))))
noncomputable def b__law_one : FS := (sSeq (sIf (bOf (eOp (g2 gEq0) (eOp (g2 gMod0) (eCall m__law_cell (aCons (eVar 0) (aCons (eC (.int 0)) aNil))) (eC (.int 2))) (eC (.int 0)))) (sRet (eCall m__law_lowest (aCons (eOp (g2 gSub0) (eOp (g2 gMod0) (eCall m__law_cell (aCons (eVar 0) (aCons (eC (.int 1)) aNil))) (eC (.int 121))) (eC (.int 60))) (aCons (eOp gAdd (eC (.int 1)) (eOp (g2 gMod0) (eCall m__law_cell (aCons (eVar 0) (aCons (eC (.int 2)) aNil))) (eC (.int 12)))) aNil)))) sNext)
    (sSeq (sAsg (eOp gAdd (eOp (g2 gSub0) (eOp (g2 gMod0) (eCall m__law_cell (aCons (eVar 0) (aCons (eC (.int 1)) aNil))) (eOp (g2 gSub0) (eOp gMul (eC (.int 2)) (eOp (g2 gPow0) (eC (.int 10)) (eC (.int 40)))) (eC (.int 1)))) (eOp (g2 gPow0) (eC (.int 10)) (eC (.int 40)))) (eC (.int 1))) (gF 1))
    (sRet (eCall m__law_lowest (aCons (eVar 1) (aCons (eOp gAdd (eC (.int 1)) (eOp (g2 gMod0) (eCall m__law_cell (aCons (eVar 0) (aCons (eC (.int 2)) aNil))) (eOp (g2 gSub0) (eOp (g2 gPow0) (eC (.int 10)) (eC (.int 40))) (eC (.int 1))))) aNil))))))
noncomputable def m__law_one : Run := runD 1 1 b__law_one
abbrev s__law_one : Stmt := top 27
theorem sc__law_one : FnScope ["_law_script", "_law_top"] ["_law_script"] (defScope s__law_one) := ⟨rfl, rfl, rfl, by decide +kernel, rfl, by decide +kernel, by decide +kernel⟩
theorem ok__law_one {P : Program} {w : World} {K : PySem.W.Frag} {mg : Str → Option Value} {base : Heap} {f : Addr} {fd : FuncData} (Fn : Fun K "_law_one" "_law_one" s__law_one f fd) (G__law_cell : Gd P w K mg base "_law_cell" 1 ["_law_script", "_law_k"] m__law_cell) (G__law_lowest : Gd P w K mg base "_law_lowest" 2 ["_law_top", "_law_bottom"] m__law_lowest) :
    FnOk P w K mg base (L2.CX P w) 3 f fd ["_law_script"] (spR K m__law_one) := by
  refine def_ok (m := 1) (n := 1) (fs := b__law_one) Fn sc__law_one rfl rfl (fun cdv A outer s H E hr => ⟨_, (pss_cons (ps_if (pt_cmpR (op_eqA (K := K) rfl hr.units) (pe_op op_modA (pe_gd (E := E) (takes_of rfl rfl rfl rfl) G__law_cell hr (by decide) rfl (pa_cons (pv 0) (pa_cons pe_int pa_nil))) pe_int) pe_int (nomark _)) (pss_one (ps_ret (pe_gd (E := E) (takes_of rfl rfl rfl rfl) G__law_lowest hr (by decide) rfl (pa_cons (pe_op op_subA (pe_op op_modA (pe_gd (E := E) (takes_of rfl rfl rfl rfl) G__law_cell hr (by decide) rfl (pa_cons (pv 0) (pa_cons pe_int pa_nil))) pe_int) pe_int) (pa_cons (pe_op op_addA pe_int (pe_op op_modA (pe_gd (E := E) (takes_of rfl rfl rfl rfl) G__law_cell hr (by decide) rfl (pa_cons (pv 0) (pa_cons pe_int pa_nil))) pe_int)) pa_nil))))) pss_nil)
    (pss_cons (ps_set (i := 1) sc__law_one.nd rfl (Or.inl rfl) (pe_op op_addA (pe_op op_subA (pe_op op_modA (pe_gd (E := E) (takes_of rfl rfl rfl rfl) G__law_cell hr (by decide) rfl (pa_cons (pv 0) (pa_cons pe_int pa_nil))) (pe_op op_subA (pe_op op_mulA pe_int (pe_op op_powA pe_int pe_int)) pe_int)) (pe_op op_powA pe_int pe_int)) pe_int))
    (pss_one (ps_ret (pe_gd (E := E) (takes_of rfl rfl rfl rfl) G__law_lowest hr (by decide) rfl (pa_cons (pv 1) (pa_cons (pe_op op_addA pe_int (pe_op op_modA (pe_gd (E := E) (takes_of rfl rfl rfl rfl) G__law_cell hr (by decide) rfl (pa_cons (pv 0) (pa_cons pe_int pa_nil))) (pe_op op_subA (pe_op op_powA pe_int pe_int) pe_int))) pa_nil))))))), ?_⟩)
  try dsimp only [L2.cxOf, L2.Cx.nox, L2.Cx.wish]
  intro X hK hE
  subst hK hE
  exact (ss_seq (ss_if (st_test (se_op o_eq (se_op o_mod (se_call (sa_cons se_var (sa_cons se_int sa_nil))) se_int) se_int)) (ss_ret (se_call (sa_cons (se_op o_sub (se_op o_mod (se_call (sa_cons se_var (sa_cons se_int sa_nil))) se_int) se_int) (sa_cons (se_op o_add se_int (se_op o_mod (se_call (sa_cons se_var (sa_cons se_int sa_nil))) se_int)) sa_nil)))) ss_next)
    (ss_seq (ss_asg (js := [1]) (se_op o_add (se_op o_sub (se_op o_mod (se_call (sa_cons se_var (sa_cons se_int sa_nil))) (se_op o_sub (se_op o_mul se_int (se_op o_pow se_int se_int)) se_int)) (se_op o_pow se_int se_int)) se_int) (sg_nameF (by decide)))
    (ss_ret (se_call (sa_cons se_var (sa_cons (se_op o_add se_int (se_op o_mod (se_call (sa_cons se_var (sa_cons se_int sa_nil))) (se_op o_sub (se_op o_pow se_int se_int) se_int))) sa_nil))))))
noncomputable def b__law_odd : FS := (sSeq (sAsg (eLst 0 (aCons (eC (.str "")) (aCons (eC (.str "-")) (aCons (eC (.str "/")) (aCons (eC (.str "-/")) (aCons (eC (.str "1/")) (aCons (eC (.str "/2")) (aCons (eC (.str "--1")) (aCons (eC (.str "1/-2")) (aCons (eC (.str "1/2/3")) (aCons (eC (.str "-0")) (aCons (eC (.str "00")) (aCons (eC (.str "+1")) (aCons (eC (.str "-0")) (aCons (eC (.str "-0")) aNil))))))))))))))) (gF 1))
    (sRet (eOp gIx (eVar 1) (eOp (g2 gMod0) (eVar 0) (eC (.int 14))))))
noncomputable def m__law_odd : Run := runD 1 1 b__law_odd
abbrev s__law_odd : Stmt := top 28
theorem sc__law_odd : FnScope ["_law_cell_here", "_law_some"] ["_law_cell_here"] (defScope s__law_odd) := ⟨rfl, rfl, rfl, by decide +kernel, rfl, by decide +kernel, by decide +kernel⟩
theorem ok__law_odd {P : Program} {w : World} {K : PySem.W.Frag} {mg : Str → Option Value} {base : Heap} {f : Addr} {fd : FuncData} (Fn : Fun K "_law_odd" "_law_odd" s__law_odd f fd) :
    FnOk P w K mg base (L2.CX P w) 1 f fd ["_law_cell_here"] (spR K m__law_odd) := by
  refine def_ok (m := 1) (n := 1) (fs := b__law_odd) Fn sc__law_odd rfl rfl (fun cdv A outer s H E hr => ⟨_, (pss_cons (ps_set (i := 1) sc__law_odd.nd rfl (Or.inl rfl) (pe_lst (pa_cons pe_str (pa_cons pe_str (pa_cons pe_str (pa_cons pe_str (pa_cons pe_str (pa_cons pe_str (pa_cons pe_str (pa_cons pe_str (pa_cons pe_str (pa_cons pe_str (pa_cons pe_str (pa_cons pe_str (pa_cons pe_str (pa_cons pe_str pa_nil))))))))))))))))
    (pss_one (ps_ret (pe_ix (ix_seqA (K := K) rfl) (pv 1) (pe_op op_modA (pv 0) pe_int) (fun _ _ => rfl))))), ?_⟩)
  try dsimp only [L2.cxOf, L2.Cx.nox, L2.Cx.wish]
  intro X hK hE
  subst hK hE
  exact (ss_seq (ss_asg (js := [1]) (se_lst (sa_cons se_str (sa_cons se_str (sa_cons se_str (sa_cons se_str (sa_cons se_str (sa_cons se_str (sa_cons se_str (sa_cons se_str (sa_cons se_str (sa_cons se_str (sa_cons se_str (sa_cons se_str (sa_cons se_str (sa_cons se_str sa_nil))))))))))))))) (sg_nameF (by decide)))
    (ss_ret (se_op op_ix se_var (se_op o_mod se_var se_int))))
noncomputable def b__law_spoiled : FS := (sSeq (sAsg (eCall m__law_number (aCons (eVar 1) aNil)) (gN 2))
    (sSeq (sAsg (eOp (g2 gMod0) (eCall m__law_cell (aCons (eVar 0) (aCons (eC (.int 3)) aNil))) (eC (.int 9))) (gF 3))
    (sSeq (sAsg (eCall m__law_cell (aCons (eVar 0) (aCons (eC (.int 4)) aNil))) (gF 4))
    (sSeq (sAsg (eOp gIx (eLst 0 (aCons (eC (.str " ")) (aCons (eC (.str "+")) (aCons (eC (.str "-")) (aCons (eC (.str "0")) (aCons (eC (.str "/")) (aCons (eC (.str ".")) (aCons (eC (.str ",")) (aCons (eC (.str "a")) (aCons (eC (.str "\n")) (aCons (eC (.str "_")) (aCons (eC (.str "1")) (aCons (eC (.str "\t")) (aCons (eC (.str ":")) (aCons (eC (.str "~")) (aCons (eC (.str "e")) aNil)))))))))))))))) (eOp (g2 gMod0) (eVar 4) (eC (.int 15)))) (gF 5))
    (sSeq (sAsg (eOp (g2 gMod0) (eOp (g2 gDiv0) (eVar 4) (eC (.int 15))) (eOp gAdd (eCB (gC gLen) (aCons (eVar 2) aNil)) (eC (.int 1)))) (gF 6))
    (sSeq (sIf (bOf (eOp (g2 gEq0) (eVar 3) (eC (.int 1)))) (sRet (eOp gAdd (eOp gAdd (eSl (eVar 2) oNo (oSome (eVar 6))) (eVar 5)) (eSl (eVar 2) (oSome (eVar 6)) oNo))) sNext)
    (sSeq (sIf (bOf (eOp (g2 gEq0) (eVar 3) (eC (.int 2)))) (sRet (eOp gAdd (eOp gAdd (eSl (eVar 2) oNo (oSome (eVar 6))) (eVar 5)) (eSl (eVar 2) (oSome (eOp gAdd (eVar 6) (eC (.int 1)))) oNo))) sNext)
    (sSeq (sIf (bOf (eOp (g2 gEq0) (eVar 3) (eC (.int 3)))) (sRet (eOp gAdd (eSl (eVar 2) oNo (oSome (eVar 6))) (eSl (eVar 2) (oSome (eOp gAdd (eVar 6) (eC (.int 1)))) oNo))) sNext)
    (sSeq (sIf (bOf (eOp (g2 gEq0) (eVar 3) (eC (.int 4)))) (sSeq (sAsg (eOp gAdd (eC (.int 2)) (eOp (g2 gMod0) (eVar 4) (eC (.int 12)))) (gF 7))
    (sRet (eOp gAdd (eOp gAdd (eCB (gC gStr) (aCons (eOp gMul (eOp (g2 gMod0) (eOp gIx (eVar 1) (eC (.int 0))) (eOp (g2 gPow0) (eC (.int 10)) (eC (.int 20)))) (eVar 7)) aNil)) (eC (.str "/"))) (eCB (gC gStr) (aCons (eOp gMul (eOp gAdd (eC (.int 1)) (eOp (g2 gMod0) (eOp gIx (eVar 1) (eC (.int 1))) (eOp (g2 gPow0) (eC (.int 10)) (eC (.int 20))))) (eVar 7)) aNil))))) sNext)
    (sSeq (sIf (bOf (eOp (g2 gEq0) (eVar 3) (eC (.int 5)))) (sRet (eOp gAdd (eOp gAdd (eCB (gC gStr) (aCons (eOp gIx (eVar 1) (eC (.int 0))) aNil)) (eC (.str "/"))) (eCB (gC gStr) (aCons (eOp (g2 gMod0) (eVar 4) (eC (.int 3))) aNil)))) sNext)
    (sSeq (sIf (bOf (eOp (g2 gEq0) (eVar 3) (eC (.int 6)))) (sSeq (sAsg (eOp gAdd (eC (.int 38)) (eOp (g2 gMod0) (eVar 4) (eC (.int 6)))) (gF 8))
    (sRet (eOp gAdd (eOp gAdd (eOp gMul (eC (.str "-")) (eOp (g2 gMod0) (eOp (g2 gDiv0) (eVar 4) (eC (.int 6))) (eC (.int 2)))) (eOp gMul (eC (.str "7")) (eVar 8))) (eOp gIx (eLst 0 (aCons (eC (.str "")) (aCons (eOp gAdd (eC (.str "/")) (eOp gMul (eC (.str "9")) (eOp gAdd (eC (.int 38)) (eOp (g2 gMod0) (eOp (g2 gDiv0) (eVar 4) (eC (.int 12))) (eC (.int 6)))))) aNil))) (eOp (g2 gMod0) (eOp (g2 gDiv0) (eVar 4) (eC (.int 72))) (eC (.int 2))))))) sNext)
    (sSeq (sIf (bOf (eOp (g2 gEq0) (eVar 3) (eC (.int 7)))) (sRet (eCall m__law_odd (aCons (eVar 4) aNil))) sNext)
    (sRet (eMv 2))))))))))))))
noncomputable def m__law_spoiled : Run := runD 2 7 b__law_spoiled
abbrev s__law_spoiled : Stmt := top 29
theorem sc__law_spoiled : FnScope ["_law_script", "_law_one_here", "_law_text", "_law_way", "_law_cell_here", "_law_sign", "_law_at", "_law_many", "_law_size"] ["_law_script", "_law_one_here"] (defScope s__law_spoiled) := ⟨rfl, rfl, rfl, by decide +kernel, rfl, by decide +kernel, by decide +kernel⟩
theorem ok__law_spoiled {P : Program} {w : World} {K : PySem.W.Frag} {mg : Str → Option Value} {base : Heap} {f : Addr} {fd : FuncData} (Fn : Fun K "_law_spoiled" "_law_spoiled" s__law_spoiled f fd) (m_len : mg "len" = none) (m_str : mg "str" = none) (G__law_number : Gd P w K mg base "_law_number" 1 ["_law_one_here"] m__law_number) (G__law_cell : Gd P w K mg base "_law_cell" 1 ["_law_script", "_law_k"] m__law_cell) (G__law_odd : Gd P w K mg base "_law_odd" 1 ["_law_cell_here"] m__law_odd) :
    FnOk P w K mg base (L2.CX P w) 2 f fd ["_law_script", "_law_one_here"] (spR K m__law_spoiled) := by
  refine def_ok (m := 2) (n := 7) (fs := b__law_spoiled) Fn sc__law_spoiled rfl rfl (fun cdv A outer s H E hr => ⟨_, (pss_cons (ps_set (i := 2) sc__law_spoiled.nd rfl (Or.inl rfl) (pe_gd (E := E) (takes_of rfl rfl rfl rfl) G__law_number hr (by decide) rfl (pa_cons (pv 1) pa_nil)))
    (pss_cons (ps_set (i := 3) sc__law_spoiled.nd rfl (Or.inl rfl) (pe_op op_modA (pe_gd (E := E) (takes_of rfl rfl rfl rfl) G__law_cell hr (by decide) rfl (pa_cons (pv 0) (pa_cons pe_int pa_nil))) pe_int))
    (pss_cons (ps_set (i := 4) sc__law_spoiled.nd rfl (Or.inl rfl) (pe_gd (E := E) (takes_of rfl rfl rfl rfl) G__law_cell hr (by decide) rfl (pa_cons (pv 0) (pa_cons pe_int pa_nil))))
    (pss_cons (ps_set (i := 5) sc__law_spoiled.nd rfl (Or.inl rfl) (pe_ix (ix_seqA (K := K) rfl) (pe_lst (pa_cons pe_str (pa_cons pe_str (pa_cons pe_str (pa_cons pe_str (pa_cons pe_str (pa_cons pe_str (pa_cons pe_str (pa_cons pe_str (pa_cons pe_str (pa_cons pe_str (pa_cons pe_str (pa_cons pe_str (pa_cons pe_str (pa_cons pe_str (pa_cons pe_str pa_nil)))))))))))))))) (pe_op op_modA (pv 4) pe_int) (fun _ _ => rfl)))
    (pss_cons (ps_set (i := 6) sc__law_spoiled.nd rfl (Or.inl rfl) (pe_op op_modA (pe_op op_divA (pv 4) pe_int) (pe_op op_addA (pe_callB (call_lenA (K := K) rfl) (by rfl) m_len (by decide +kernel) (pa_cons (pv 2) pa_nil)) pe_int)))
    (pss_cons (ps_if (pt_cmpR (op_eqA (K := K) rfl hr.units) (pv 3) pe_int (nomark _)) (pss_one (ps_ret (pe_op op_addA (pe_op op_addA (pe_slice (sl_A (K := K) rfl) (pv 2) po_none (po_some (pv 6))) (pv 5)) (pe_slice (sl_A (K := K) rfl) (pv 2) (po_some (pv 6)) po_none)))) pss_nil)
    (pss_cons (ps_if (pt_cmpR (op_eqA (K := K) rfl hr.units) (pv 3) pe_int (nomark _)) (pss_one (ps_ret (pe_op op_addA (pe_op op_addA (pe_slice (sl_A (K := K) rfl) (pv 2) po_none (po_some (pv 6))) (pv 5)) (pe_slice (sl_A (K := K) rfl) (pv 2) (po_some (pe_op op_addA (pv 6) pe_int)) po_none)))) pss_nil)
    (pss_cons (ps_if (pt_cmpR (op_eqA (K := K) rfl hr.units) (pv 3) pe_int (nomark _)) (pss_one (ps_ret (pe_op op_addA (pe_slice (sl_A (K := K) rfl) (pv 2) po_none (po_some (pv 6))) (pe_slice (sl_A (K := K) rfl) (pv 2) (po_some (pe_op op_addA (pv 6) pe_int)) po_none)))) pss_nil)
    (pss_cons (ps_if (pt_cmpR (op_eqA (K := K) rfl hr.units) (pv 3) pe_int (nomark _)) (pss_cons (ps_set (i := 7) sc__law_spoiled.nd rfl (Or.inl rfl) (pe_op op_addA pe_int (pe_op op_modA (pv 4) pe_int)))
    (pss_one (ps_ret (pe_op op_addA (pe_op op_addA (pe_callTy call_strA (by rfl) m_str (by decide +kernel) (pa_cons (pe_op op_mulA (pe_op op_modA (pe_ix (ix_seqA (K := K) rfl) (pv 1) pe_int (fun _ _ => rfl)) (pe_op op_powA pe_int pe_int)) (pv 7)) pa_nil)) pe_str) (pe_callTy call_strA (by rfl) m_str (by decide +kernel) (pa_cons (pe_op op_mulA (pe_op op_addA pe_int (pe_op op_modA (pe_ix (ix_seqA (K := K) rfl) (pv 1) pe_int (fun _ _ => rfl)) (pe_op op_powA pe_int pe_int))) (pv 7)) pa_nil)))))) pss_nil)
    (pss_cons (ps_if (pt_cmpR (op_eqA (K := K) rfl hr.units) (pv 3) pe_int (nomark _)) (pss_one (ps_ret (pe_op op_addA (pe_op op_addA (pe_callTy call_strA (by rfl) m_str (by decide +kernel) (pa_cons (pe_ix (ix_seqA (K := K) rfl) (pv 1) pe_int (fun _ _ => rfl)) pa_nil)) pe_str) (pe_callTy call_strA (by rfl) m_str (by decide +kernel) (pa_cons (pe_op op_modA (pv 4) pe_int) pa_nil))))) pss_nil)
    (pss_cons (ps_if (pt_cmpR (op_eqA (K := K) rfl hr.units) (pv 3) pe_int (nomark _)) (pss_cons (ps_set (i := 8) sc__law_spoiled.nd rfl (Or.inl rfl) (pe_op op_addA pe_int (pe_op op_modA (pv 4) pe_int)))
    (pss_one (ps_ret (pe_op op_addA (pe_op op_addA (pe_op op_mulA pe_str (pe_op op_modA (pe_op op_divA (pv 4) pe_int) pe_int)) (pe_op op_mulA pe_str (pv 8))) (pe_ix (ix_seqA (K := K) rfl) (pe_lst (pa_cons pe_str (pa_cons (pe_op op_addA pe_str (pe_op op_mulA pe_str (pe_op op_addA pe_int (pe_op op_modA (pe_op op_divA (pv 4) pe_int) pe_int)))) pa_nil))) (pe_op op_modA (pe_op op_divA (pv 4) pe_int) pe_int) (fun _ _ => rfl)))))) pss_nil)
    (pss_cons (ps_if (pt_cmpR (op_eqA (K := K) rfl hr.units) (pv 3) pe_int (nomark _)) (pss_one (ps_ret (pe_gd (E := E) (takes_of rfl rfl rfl rfl) G__law_odd hr (by decide) rfl (pa_cons (pv 4) pa_nil)))) pss_nil)
    (pss_one (ps_ret (pv 2))))))))))))))), ?_⟩)
  try dsimp only [L2.cxOf, L2.Cx.nox, L2.Cx.wish]
  intro X hK hE
  subst hK hE
  exact (ss_seq (ss_asg (js := [2]) (se_call (sa_cons se_var sa_nil)) (sg_name (by decide)))
    (ss_seq (ss_asg (js := [3]) (se_op o_mod (se_call (sa_cons se_var (sa_cons se_int sa_nil))) se_int) (sg_nameF (by decide)))
    (ss_seq (ss_asg (js := [4]) (se_call (sa_cons se_var (sa_cons se_int sa_nil))) (sg_nameF (by decide)))
    (ss_seq (ss_asg (js := [5]) (se_op op_ix (se_lst (sa_cons se_str (sa_cons se_str (sa_cons se_str (sa_cons se_str (sa_cons se_str (sa_cons se_str (sa_cons se_str (sa_cons se_str (sa_cons se_str (sa_cons se_str (sa_cons se_str (sa_cons se_str (sa_cons se_str (sa_cons se_str (sa_cons se_str sa_nil)))))))))))))))) (se_op o_mod se_var se_int)) (sg_nameF (by decide)))
    (ss_seq (ss_asg (js := [6]) (se_op o_mod (se_op o_div se_var se_int) (se_op o_add (se_cb c_len (sa_cons se_var sa_nil)) se_int)) (sg_nameF (by decide)))
    (ss_seq (ss_if (st_test (se_op o_eq se_var se_int)) (ss_ret (se_op o_add (se_op o_add (se_sl se_var so_no (so_some se_var)) se_var) (se_sl se_var (so_some se_var) so_no))) ss_next)
    (ss_seq (ss_if (st_test (se_op o_eq se_var se_int)) (ss_ret (se_op o_add (se_op o_add (se_sl se_var so_no (so_some se_var)) se_var) (se_sl se_var (so_some (se_op o_add se_var se_int)) so_no))) ss_next)
    (ss_seq (ss_if (st_test (se_op o_eq se_var se_int)) (ss_ret (se_op o_add (se_sl se_var so_no (so_some se_var)) (se_sl se_var (so_some (se_op o_add se_var se_int)) so_no))) ss_next)
    (ss_seq (ss_if (st_test (se_op o_eq se_var se_int)) (ss_seq (ss_asg (js := [7]) (se_op o_add se_int (se_op o_mod se_var se_int)) (sg_nameF (by decide)))
    (ss_ret (se_op o_add (se_op o_add (se_cb c_str (sa_cons (se_op o_mul (se_op o_mod (se_op op_ix se_var se_int) (se_op o_pow se_int se_int)) se_var) sa_nil)) se_str) (se_cb c_str (sa_cons (se_op o_mul (se_op o_add se_int (se_op o_mod (se_op op_ix se_var se_int) (se_op o_pow se_int se_int))) se_var) sa_nil))))) ss_next)
    (ss_seq (ss_if (st_test (se_op o_eq se_var se_int)) (ss_ret (se_op o_add (se_op o_add (se_cb c_str (sa_cons (se_op op_ix se_var se_int) sa_nil)) se_str) (se_cb c_str (sa_cons (se_op o_mod se_var se_int) sa_nil)))) ss_next)
    (ss_seq (ss_if (st_test (se_op o_eq se_var se_int)) (ss_seq (ss_asg (js := [8]) (se_op o_add se_int (se_op o_mod se_var se_int)) (sg_nameF (by decide)))
    (ss_ret (se_op o_add (se_op o_add (se_op o_mul se_str (se_op o_mod (se_op o_div se_var se_int) se_int)) (se_op o_mul se_str se_var)) (se_op op_ix (se_lst (sa_cons se_str (sa_cons (se_op o_add se_str (se_op o_mul se_str (se_op o_add se_int (se_op o_mod (se_op o_div se_var se_int) se_int)))) sa_nil))) (se_op o_mod (se_op o_div se_var se_int) se_int))))) ss_next)
    (ss_seq (ss_if (st_test (se_op o_eq se_var se_int)) (ss_ret (se_call (sa_cons se_var sa_nil))) ss_next)
    (ss_ret se_mv)))))))))))))
noncomputable def b_law : FS := (sSeq (sAsg (eCall m__law_spoiled (aCons (eVar 0) (aCons (eCall m__law_one (aCons (eVar 0) aNil)) aNil))) (gF 1))
    (sSeq (sAsg (eCall m__law_due (aCons (eVar 1) aNil)) (gF 2))
    (sSeq (sAsg (eC .non) (gF 3))
    (sSeq (sAsg (eC .non) (gF 4))
    (sSeq (sTryK (CATCH "HallError") 5 4 (some 3) m_number_of (aCons (eVar 1) aNil))
    (sSeq (sIf (bOf (eOp (g2 gIs0) (eVar 2) (eC .non))) (sRet (eAnd (eOp (g2 gNot0) (eVar 4) (eC .non)) (eCall m__law_only (aCons (eVar 4) (aCons (eC (.int 0)) aNil))))) sNext)
    (sRet (eAnd (eOp (g2 gIs0) (eVar 4) (eC .non)) (eAnd (eCall m__law_fraction (aCons (eVar 3) aNil)) (eOp (g2 gEq0) (eVar 3) (eVar 2)))))))))))
noncomputable def m_law : Run := runD 1 5 b_law
abbrev s_law : Stmt := top 30
theorem sc_law : FnScope ["_law_script", "_law_text", "_law_due_here", "_law_found", "_law_refused", "_law_e"] ["_law_script"] (defScope s_law) := ⟨rfl, rfl, rfl, by decide +kernel, rfl, by decide +kernel, by decide +kernel⟩
theorem ok_law {P : Program} {w : World} {K : PySem.W.Frag} {mg : Str → Option Value} {base : Heap} {f : Addr} {fd : FuncData} (Fn : Fun K "law" "law" s_law f fd) {c_HallError : Addr} (n_HallError : PySem.W.nsIn K mainGlobals "HallError" = some (some (.ref c_HallError))) (mc_HallError : mg "HallError" = some (.ref c_HallError)) (HT : ErrTab K CL RS ISA) (G__law_spoiled : Gd P w K mg base "_law_spoiled" 2 ["_law_script", "_law_one_here"] m__law_spoiled) (G__law_one : Gd P w K mg base "_law_one" 3 ["_law_script"] m__law_one) (G__law_due : Gd P w K mg base "_law_due" 2 ["_law_text"] m__law_due) (G_number_of : Gd P w K mg base "number_of" 2 ["text"] m_number_of) (G__law_only : Gd P w K mg base "_law_only" 1 ["_law_e", "_law_at"] m__law_only) (G__law_fraction : Gd P w K mg base "_law_fraction" 2 ["_law_found"] m__law_fraction) :
    FnOk P w K mg base (L2.CX P w) 4 f fd ["_law_script"] (spR K m_law) := by
  refine def_ok (m := 1) (n := 5) (fs := b_law) Fn sc_law rfl rfl (fun cdv A outer s H E hr => ⟨_, (pss_cons (ps_set (i := 1) sc_law.nd rfl (Or.inl rfl) (pe_gd (E := E) (takes_of rfl rfl rfl rfl) G__law_spoiled hr (by decide) rfl (pa_cons (pv 0) (pa_cons (pe_gd (E := E) (takes_of rfl rfl rfl rfl) G__law_one hr (by decide) rfl (pa_cons (pv 0) pa_nil)) pa_nil))))
    (pss_cons (ps_set (i := 2) sc_law.nd rfl (Or.inl rfl) (pe_gd (E := E) (takes_of rfl rfl rfl rfl) G__law_due hr (by decide) rfl (pa_cons (pv 1) pa_nil)))
    (pss_cons (ps_set (i := 3) sc_law.nd rfl (Or.inl rfl) pe_non)
    (pss_cons (ps_set (i := 4) sc_law.nd rfl (Or.inl rfl) pe_non)
    (pss_cons (ps_tryV (c := .ref c_HallError) (i := 5) (j := 4) (l := 3) rfl rfl rfl sc_law.nd rfl rfl rfl rfl rfl rfl ⟨rfl, by decide, .inl mc_HallError⟩ G_number_of hr (by decide) rfl (fun pn xe => (pa_cons (pv 1) pa_nil)) (takes_of rfl rfl rfl rfl))
    (pss_cons (ps_if (pt_cmpR op_isA (pv 2) pe_non (nomark _)) (pss_one (ps_ret (pe_and (pe_cmpR op_notA (pv 4) pe_non (nomark _)) (pe_one (pe_gd (E := E) (takes_of rfl rfl rfl rfl) G__law_only hr (by decide) rfl (pa_cons (pv 4) (pa_cons pe_int pa_nil))))))) pss_nil)
    (pss_one (ps_ret (pe_and (pe_cmpR op_isA (pv 4) pe_non (nomark _)) (pe_and (pe_gd (E := E) (takes_of rfl rfl rfl rfl) G__law_fraction hr (by decide) rfl (pa_cons (pv 3) pa_nil)) (pe_one (pe_cmpR (op_eqA (K := K) rfl hr.units) (pv 3) (pv 2) (nomark _))))))))))))), ?_⟩)
  try dsimp only [L2.cxOf, L2.Cx.nox, L2.Cx.wish]
  intro X hK hE
  subst hK hE
  exact (ss_seq (ss_asg (js := [1]) (se_call (sa_cons se_var (sa_cons (se_call (sa_cons se_var sa_nil)) sa_nil))) (sg_nameF (by decide)))
    (ss_seq (ss_asg (js := [2]) (se_call (sa_cons se_var sa_nil)) (sg_nameF (by decide)))
    (ss_seq (ss_asg (js := [3]) se_non (sg_nameF (by decide)))
    (ss_seq (ss_asg (js := [4]) se_non (sg_nameF (by decide)))
    (ss_seq (ss_tryV (catch_of HT (by decide) n_HallError) (by decide) (sa_cons se_var sa_nil))
    (ss_seq (ss_if (st_test (se_op o_is se_var se_non)) (ss_ret (se_and (se_op o_not se_var se_non) (se_call (sa_cons se_var (sa_cons se_int sa_nil))))) ss_next)
    (ss_ret (se_and (se_op o_is se_var se_non) (se_and (se_call (sa_cons se_var sa_nil)) (se_op o_eq se_var se_var))))))))))
theorem q_divisor (a b : Int) : m_divisor [.int a, .int b] = some (.ret 0 (.int (Int.gcd a b))) := by
  have h := sWhile_ind (ft := b_divisor_1) (fb := b_divisor_2) (fun m ρ => ∃ x y : Int, ρ = [.ow 0 (.int x), .ow 0 (.int y)] ∧ Int.gcd x y = Int.gcd a b ∧ m = y.natAbs) (fun ρ => ∃ x : Int, ρ = [.ow 0 (.int x), .ow 0 (.int 0)] ∧ x.natAbs = Int.gcd a b) (fun m ρ hJ => by
    obtain ⟨x, y, rfl, hg, rfl⟩ := hJ
    by_cases hy : y = 0
    · subst hy
      refine .inl ⟨?_, x, rfl, by rw [← hg, Int.gcd_zero]⟩
      unfold b_divisor_1
      simp (disch := walk_at "sz") only [↓run_0, ↓run_1, ↓run_2, ↓run_3, ↓run_4, ↓run_5, ↓run_6, eq_self, entryE, endR, ↓sSeq_ap, ↓sIf_ap, ↓sRet_ap, ↓sRetN_ap, ↓sDrop_ap, ↓sAsg_ap, ↓sNext_ap, ↓sBrk_ap, ↓sCnt_ap, ↓sNever_ap, ↓sRaise_ap, ↓sPar_ap, ↓sAug_ap, ↓sFor_ap, loop_nil, loop_cons, ↓bOf_ap, ↓bAnd_ap, ↓bOr_ap, ↓bNot_ap, ↓bYes_ap, ↓eVar_ap, ↓eFz_ap, ↓eMv_ap, look, ↓eC_ap, ↓eOp_ap, ↓eAnd_ap, ↓eOr_ap, ↓eNot_ap, ↓eNeg_ap, ↓eIf_ap, ↓eTup_ap, ↓eLst_ap, ↓eCall_ap, ↓eCB_ap, ↓eSl_ap, ↓oNo_ap, ↓oSome_ap, ↓eRevL_ap, ↓eChain_ap, ↓aNil_ap, ↓aCons_ap, ↓g2_ap, ↓gOr_ap, gAdd, gMul, gAdd0, gAddS0, gSub0, gDiv0, gMod0, gMul0, gPow0, gLt0, gLe0, gGt0, gGe0, gEq0, gNe0, gIs0, gNot0, gIn0, ↓gC_ap, gLen, lenD, gAbs, gInt, gStr, gSum, gAny, gAll, gMax, gMin, ↓gDivmod_ap, ↓gList_ap, ↓gTupL_ap, ↓gSorted_ap, gSl, gRevL, gIsi, ↓gIx_ap, kPart, ↓gCat_ap, ↓gRep_ap, ↓gN_ap, ↓gF_ap, ↓gT_ap, ↓gsNil_ap, ↓gsCons_ap, withK, stb', okItem, hasK, itemsOk, isNon, listOf, lstOf, intsOf, blsOf, tyD, lstD, seqOf, ↓iLst_ap, ↓iR1_ap, ↓iR2_ap, ↓iSeq_ap, ↓iZ_ap, List.map_cons, List.map_nil, List.length_cons, List.length_nil, List.reduceReplicate, List.nil_append, List.cons_append, List.getElem?_cons_zero, List.getElem?_cons_succ, List.getElem?_nil, List.set_cons_zero, List.set_cons_succ, List.all_cons, List.all_nil, Bool.and_true, Bool.true_and, Bool.and_false, Bool.false_and, Bool.or_true, Bool.true_or, Bool.or_false, Bool.false_or, Bool.not_true, Bool.not_false, Bool.false_eq_true, if_true, if_false, ↓reduceIte, Option.map_some, Option.map_none, chk_pos, decide_eq_true_eq, flat, flat.flats, okP, okP.okPs, kit_NoneType_int, kit_NoneType_bool, kit_NoneType_str, kit_NoneType_tuple, kit_NoneType_list, kit_NoneType_dict, kit_bool_int, kit_bool_bool, kit_bool_str, kit_bool_tuple, kit_bool_list, kit_bool_dict, kit_int_int, kit_int_bool, kit_int_str, kit_int_tuple, kit_int_list, kit_int_dict, kit_str_int, kit_str_bool, kit_str_str, kit_str_tuple, kit_str_list, kit_str_dict, kit_list_int, kit_list_bool, kit_list_str, kit_list_tuple, kit_list_list, kit_list_dict, kit_tuple_int, kit_tuple_bool, kit_tuple_str, kit_tuple_tuple, kit_tuple_list, kit_tuple_dict, kit_dict_int, kit_dict_bool, kit_dict_str, kit_dict_tuple, kit_dict_list, kit_dict_dict, Nat.zero_add, Nat.reduceAdd, Nat.reduceLeDiff, Nat.reduceLT, Nat.reduceEqDiff, Nat.reduceMul, Nat.reduceSub, Nat.reducePow, Int.reduceAdd, Int.reduceSub, Int.reduceMul, Int.reduceNeg, Int.reducePow, Int.reduceLT, Int.reduceLE, Int.reduceEq, Int.reduceNe, Int.reduceToNat, beq_self_eq_true, Option.some.injEq, intsD, Nat.reduceBEq, decide_true, decide_false, ite_true, ite_false, atI_nat, atI_lit, atI_last, ixN_nat, ixN_lit, cut_nn, eqD_nn, eqD_ii, eqD_bb, eqD_ss, eqD_tt, eqD_ll, eqs_nn, eqs_cc, eqs_nc, eqs_cn, beq_str, beq_int, wipeE, lcOne_ap, ↓sTryK_ap, setO, ↓gPart_ap, ePart, eFind, eJoin, eSplit, ↓eM1_ap, ↓eLc_ap, ↓eJoined_ap, ↓jStr_ap, ↓jFmt_ap, ↓jNil_ap, ↓eDnew_ap, ↓eDic1_ap, scl, sgn, ↓gFind_ap, ↓gJoin_ap, ↓gSplitS_ap, ↓gTupOf_ap, ↓pIx_ap, ↓pVar_ap, ↓sApp_ap, ↓sClr_ap, ↓sRev_ap, ↓sSet_ap, cast_lit, ↓bind_ap, ↓toF_ap, ixD_l, ixD_t, ixD_r, ↓in_sgn, blsD_map, intsD_map, gMulS0]
    · refine .inr ⟨[.ow 0 (.int y), .ow 0 (.int (x.fmod y))], (x.fmod y).natAbs, ?_, ?_, fmod_lt x hy, y, x.fmod y, rfl, by rw [gcd_fmod, hg], rfl⟩
      · unfold b_divisor_1
        simp (disch := walk_at "sz") only [↓run_0, ↓run_1, ↓run_2, ↓run_3, ↓run_4, ↓run_5, ↓run_6, eq_self, entryE, endR, ↓sSeq_ap, ↓sIf_ap, ↓sRet_ap, ↓sRetN_ap, ↓sDrop_ap, ↓sAsg_ap, ↓sNext_ap, ↓sBrk_ap, ↓sCnt_ap, ↓sNever_ap, ↓sRaise_ap, ↓sPar_ap, ↓sAug_ap, ↓sFor_ap, loop_nil, loop_cons, ↓bOf_ap, ↓bAnd_ap, ↓bOr_ap, ↓bNot_ap, ↓bYes_ap, ↓eVar_ap, ↓eFz_ap, ↓eMv_ap, look, ↓eC_ap, ↓eOp_ap, ↓eAnd_ap, ↓eOr_ap, ↓eNot_ap, ↓eNeg_ap, ↓eIf_ap, ↓eTup_ap, ↓eLst_ap, ↓eCall_ap, ↓eCB_ap, ↓eSl_ap, ↓oNo_ap, ↓oSome_ap, ↓eRevL_ap, ↓eChain_ap, ↓aNil_ap, ↓aCons_ap, ↓g2_ap, ↓gOr_ap, gAdd, gMul, gAdd0, gAddS0, gSub0, gDiv0, gMod0, gMul0, gPow0, gLt0, gLe0, gGt0, gGe0, gEq0, gNe0, gIs0, gNot0, gIn0, ↓gC_ap, gLen, lenD, gAbs, gInt, gStr, gSum, gAny, gAll, gMax, gMin, ↓gDivmod_ap, ↓gList_ap, ↓gTupL_ap, ↓gSorted_ap, gSl, gRevL, gIsi, ↓gIx_ap, kPart, ↓gCat_ap, ↓gRep_ap, ↓gN_ap, ↓gF_ap, ↓gT_ap, ↓gsNil_ap, ↓gsCons_ap, withK, stb', okItem, hasK, itemsOk, isNon, listOf, lstOf, intsOf, blsOf, tyD, lstD, seqOf, ↓iLst_ap, ↓iR1_ap, ↓iR2_ap, ↓iSeq_ap, ↓iZ_ap, List.map_cons, List.map_nil, List.length_cons, List.length_nil, List.reduceReplicate, List.nil_append, List.cons_append, List.getElem?_cons_zero, List.getElem?_cons_succ, List.getElem?_nil, List.set_cons_zero, List.set_cons_succ, List.all_cons, List.all_nil, Bool.and_true, Bool.true_and, Bool.and_false, Bool.false_and, Bool.or_true, Bool.true_or, Bool.or_false, Bool.false_or, Bool.not_true, Bool.not_false, Bool.false_eq_true, if_true, if_false, ↓reduceIte, Option.map_some, Option.map_none, chk_pos, decide_eq_true_eq, flat, flat.flats, okP, okP.okPs, kit_NoneType_int, kit_NoneType_bool, kit_NoneType_str, kit_NoneType_tuple, kit_NoneType_list, kit_NoneType_dict, kit_bool_int, kit_bool_bool, kit_bool_str, kit_bool_tuple, kit_bool_list, kit_bool_dict, kit_int_int, kit_int_bool, kit_int_str, kit_int_tuple, kit_int_list, kit_int_dict, kit_str_int, kit_str_bool, kit_str_str, kit_str_tuple, kit_str_list, kit_str_dict, kit_list_int, kit_list_bool, kit_list_str, kit_list_tuple, kit_list_list, kit_list_dict, kit_tuple_int, kit_tuple_bool, kit_tuple_str, kit_tuple_tuple, kit_tuple_list, kit_tuple_dict, kit_dict_int, kit_dict_bool, kit_dict_str, kit_dict_tuple, kit_dict_list, kit_dict_dict, Nat.zero_add, Nat.reduceAdd, Nat.reduceLeDiff, Nat.reduceLT, Nat.reduceEqDiff, Nat.reduceMul, Nat.reduceSub, Nat.reducePow, Int.reduceAdd, Int.reduceSub, Int.reduceMul, Int.reduceNeg, Int.reducePow, Int.reduceLT, Int.reduceLE, Int.reduceEq, Int.reduceNe, Int.reduceToNat, beq_self_eq_true, Option.some.injEq, intsD, Nat.reduceBEq, decide_true, decide_false, ite_true, ite_false, atI_nat, atI_lit, atI_last, ixN_nat, ixN_lit, cut_nn, eqD_nn, eqD_ii, eqD_bb, eqD_ss, eqD_tt, eqD_ll, eqs_nn, eqs_cc, eqs_nc, eqs_cn, beq_str, beq_int, wipeE, lcOne_ap, ↓sTryK_ap, setO, ↓gPart_ap, ePart, eFind, eJoin, eSplit, ↓eM1_ap, ↓eLc_ap, ↓eJoined_ap, ↓jStr_ap, ↓jFmt_ap, ↓jNil_ap, ↓eDnew_ap, ↓eDic1_ap, scl, sgn, ↓gFind_ap, ↓gJoin_ap, ↓gSplitS_ap, ↓gTupOf_ap, ↓pIx_ap, ↓pVar_ap, ↓sApp_ap, ↓sClr_ap, ↓sRev_ap, ↓sSet_ap, cast_lit, ↓bind_ap, ↓toF_ap, ixD_l, ixD_t, ixD_r, ↓in_sgn, blsD_map, intsD_map, gMulS0, hy]
      · unfold b_divisor_2
        simp (disch := walk_at "sz") only [↓run_0, ↓run_1, ↓run_2, ↓run_3, ↓run_4, ↓run_5, ↓run_6, eq_self, entryE, endR, ↓sSeq_ap, ↓sIf_ap, ↓sRet_ap, ↓sRetN_ap, ↓sDrop_ap, ↓sAsg_ap, ↓sNext_ap, ↓sBrk_ap, ↓sCnt_ap, ↓sNever_ap, ↓sRaise_ap, ↓sPar_ap, ↓sAug_ap, ↓sFor_ap, loop_nil, loop_cons, ↓bOf_ap, ↓bAnd_ap, ↓bOr_ap, ↓bNot_ap, ↓bYes_ap, ↓eVar_ap, ↓eFz_ap, ↓eMv_ap, look, ↓eC_ap, ↓eOp_ap, ↓eAnd_ap, ↓eOr_ap, ↓eNot_ap, ↓eNeg_ap, ↓eIf_ap, ↓eTup_ap, ↓eLst_ap, ↓eCall_ap, ↓eCB_ap, ↓eSl_ap, ↓oNo_ap, ↓oSome_ap, ↓eRevL_ap, ↓eChain_ap, ↓aNil_ap, ↓aCons_ap, ↓g2_ap, ↓gOr_ap, gAdd, gMul, gAdd0, gAddS0, gSub0, gDiv0, gMod0, gMul0, gPow0, gLt0, gLe0, gGt0, gGe0, gEq0, gNe0, gIs0, gNot0, gIn0, ↓gC_ap, gLen, lenD, gAbs, gInt, gStr, gSum, gAny, gAll, gMax, gMin, ↓gDivmod_ap, ↓gList_ap, ↓gTupL_ap, ↓gSorted_ap, gSl, gRevL, gIsi, ↓gIx_ap, kPart, ↓gCat_ap, ↓gRep_ap, ↓gN_ap, ↓gF_ap, ↓gT_ap, ↓gsNil_ap, ↓gsCons_ap, withK, stb', okItem, hasK, itemsOk, isNon, listOf, lstOf, intsOf, blsOf, tyD, lstD, seqOf, ↓iLst_ap, ↓iR1_ap, ↓iR2_ap, ↓iSeq_ap, ↓iZ_ap, List.map_cons, List.map_nil, List.length_cons, List.length_nil, List.reduceReplicate, List.nil_append, List.cons_append, List.getElem?_cons_zero, List.getElem?_cons_succ, List.getElem?_nil, List.set_cons_zero, List.set_cons_succ, List.all_cons, List.all_nil, Bool.and_true, Bool.true_and, Bool.and_false, Bool.false_and, Bool.or_true, Bool.true_or, Bool.or_false, Bool.false_or, Bool.not_true, Bool.not_false, Bool.false_eq_true, if_true, if_false, ↓reduceIte, Option.map_some, Option.map_none, chk_pos, decide_eq_true_eq, flat, flat.flats, okP, okP.okPs, kit_NoneType_int, kit_NoneType_bool, kit_NoneType_str, kit_NoneType_tuple, kit_NoneType_list, kit_NoneType_dict, kit_bool_int, kit_bool_bool, kit_bool_str, kit_bool_tuple, kit_bool_list, kit_bool_dict, kit_int_int, kit_int_bool, kit_int_str, kit_int_tuple, kit_int_list, kit_int_dict, kit_str_int, kit_str_bool, kit_str_str, kit_str_tuple, kit_str_list, kit_str_dict, kit_list_int, kit_list_bool, kit_list_str, kit_list_tuple, kit_list_list, kit_list_dict, kit_tuple_int, kit_tuple_bool, kit_tuple_str, kit_tuple_tuple, kit_tuple_list, kit_tuple_dict, kit_dict_int, kit_dict_bool, kit_dict_str, kit_dict_tuple, kit_dict_list, kit_dict_dict, Nat.zero_add, Nat.reduceAdd, Nat.reduceLeDiff, Nat.reduceLT, Nat.reduceEqDiff, Nat.reduceMul, Nat.reduceSub, Nat.reducePow, Int.reduceAdd, Int.reduceSub, Int.reduceMul, Int.reduceNeg, Int.reducePow, Int.reduceLT, Int.reduceLE, Int.reduceEq, Int.reduceNe, Int.reduceToNat, beq_self_eq_true, Option.some.injEq, intsD, Nat.reduceBEq, decide_true, decide_false, ite_true, ite_false, atI_nat, atI_lit, atI_last, ixN_nat, ixN_lit, cut_nn, eqD_nn, eqD_ii, eqD_bb, eqD_ss, eqD_tt, eqD_ll, eqs_nn, eqs_cc, eqs_nc, eqs_cn, beq_str, beq_int, wipeE, lcOne_ap, ↓sTryK_ap, setO, ↓gPart_ap, ePart, eFind, eJoin, eSplit, ↓eM1_ap, ↓eLc_ap, ↓eJoined_ap, ↓jStr_ap, ↓jFmt_ap, ↓jNil_ap, ↓eDnew_ap, ↓eDic1_ap, scl, sgn, ↓gFind_ap, ↓gJoin_ap, ↓gSplitS_ap, ↓gTupOf_ap, ↓pIx_ap, ↓pVar_ap, ↓sApp_ap, ↓sClr_ap, ↓sRev_ap, ↓sSet_ap, cast_lit, ↓bind_ap, ↓toF_ap, ixD_l, ixD_t, ixD_r, ↓in_sgn, blsD_map, intsD_map, gMulS0, hy]) (m := b.natAbs) (ρ := [.ow 0 (.int a), .ow 0 (.int b)]) ⟨a, b, rfl, rfl, rfl⟩
  obtain ⟨ρ', e, x, rfl, hx⟩ := h
  unfold m_divisor b_divisor
  simp (disch := walk_at "sz") only [↓run_0, ↓run_1, ↓run_2, ↓run_3, ↓run_4, ↓run_5, ↓run_6, eq_self, entryE, endR, ↓sSeq_ap, ↓sIf_ap, ↓sRet_ap, ↓sRetN_ap, ↓sDrop_ap, ↓sAsg_ap, ↓sNext_ap, ↓sBrk_ap, ↓sCnt_ap, ↓sNever_ap, ↓sRaise_ap, ↓sPar_ap, ↓sAug_ap, ↓sFor_ap, loop_nil, loop_cons, ↓bOf_ap, ↓bAnd_ap, ↓bOr_ap, ↓bNot_ap, ↓bYes_ap, ↓eVar_ap, ↓eFz_ap, ↓eMv_ap, look, ↓eC_ap, ↓eOp_ap, ↓eAnd_ap, ↓eOr_ap, ↓eNot_ap, ↓eNeg_ap, ↓eIf_ap, ↓eTup_ap, ↓eLst_ap, ↓eCall_ap, ↓eCB_ap, ↓eSl_ap, ↓oNo_ap, ↓oSome_ap, ↓eRevL_ap, ↓eChain_ap, ↓aNil_ap, ↓aCons_ap, ↓g2_ap, ↓gOr_ap, gAdd, gMul, gAdd0, gAddS0, gSub0, gDiv0, gMod0, gMul0, gPow0, gLt0, gLe0, gGt0, gGe0, gEq0, gNe0, gIs0, gNot0, gIn0, ↓gC_ap, gLen, lenD, gAbs, gInt, gStr, gSum, gAny, gAll, gMax, gMin, ↓gDivmod_ap, ↓gList_ap, ↓gTupL_ap, ↓gSorted_ap, gSl, gRevL, gIsi, ↓gIx_ap, kPart, ↓gCat_ap, ↓gRep_ap, ↓gN_ap, ↓gF_ap, ↓gT_ap, ↓gsNil_ap, ↓gsCons_ap, withK, stb', okItem, hasK, itemsOk, isNon, listOf, lstOf, intsOf, blsOf, tyD, lstD, seqOf, ↓iLst_ap, ↓iR1_ap, ↓iR2_ap, ↓iSeq_ap, ↓iZ_ap, List.map_cons, List.map_nil, List.length_cons, List.length_nil, List.reduceReplicate, List.nil_append, List.cons_append, List.getElem?_cons_zero, List.getElem?_cons_succ, List.getElem?_nil, List.set_cons_zero, List.set_cons_succ, List.all_cons, List.all_nil, Bool.and_true, Bool.true_and, Bool.and_false, Bool.false_and, Bool.or_true, Bool.true_or, Bool.or_false, Bool.false_or, Bool.not_true, Bool.not_false, Bool.false_eq_true, if_true, if_false, ↓reduceIte, Option.map_some, Option.map_none, chk_pos, decide_eq_true_eq, flat, flat.flats, okP, okP.okPs, kit_NoneType_int, kit_NoneType_bool, kit_NoneType_str, kit_NoneType_tuple, kit_NoneType_list, kit_NoneType_dict, kit_bool_int, kit_bool_bool, kit_bool_str, kit_bool_tuple, kit_bool_list, kit_bool_dict, kit_int_int, kit_int_bool, kit_int_str, kit_int_tuple, kit_int_list, kit_int_dict, kit_str_int, kit_str_bool, kit_str_str, kit_str_tuple, kit_str_list, kit_str_dict, kit_list_int, kit_list_bool, kit_list_str, kit_list_tuple, kit_list_list, kit_list_dict, kit_tuple_int, kit_tuple_bool, kit_tuple_str, kit_tuple_tuple, kit_tuple_list, kit_tuple_dict, kit_dict_int, kit_dict_bool, kit_dict_str, kit_dict_tuple, kit_dict_list, kit_dict_dict, Nat.zero_add, Nat.reduceAdd, Nat.reduceLeDiff, Nat.reduceLT, Nat.reduceEqDiff, Nat.reduceMul, Nat.reduceSub, Nat.reducePow, Int.reduceAdd, Int.reduceSub, Int.reduceMul, Int.reduceNeg, Int.reducePow, Int.reduceLT, Int.reduceLE, Int.reduceEq, Int.reduceNe, Int.reduceToNat, beq_self_eq_true, Option.some.injEq, intsD, Nat.reduceBEq, decide_true, decide_false, ite_true, ite_false, atI_nat, atI_lit, atI_last, ixN_nat, ixN_lit, cut_nn, eqD_nn, eqD_ii, eqD_bb, eqD_ss, eqD_tt, eqD_ll, eqs_nn, eqs_cc, eqs_nc, eqs_cn, beq_str, beq_int, wipeE, lcOne_ap, ↓sTryK_ap, setO, ↓gPart_ap, ePart, eFind, eJoin, eSplit, ↓eM1_ap, ↓eLc_ap, ↓eJoined_ap, ↓jStr_ap, ↓jFmt_ap, ↓jNil_ap, ↓eDnew_ap, ↓eDic1_ap, scl, sgn, ↓gFind_ap, ↓gJoin_ap, ↓gSplitS_ap, ↓gTupOf_ap, ↓pIx_ap, ↓pVar_ap, ↓sApp_ap, ↓sClr_ap, ↓sRev_ap, ↓sSet_ap, cast_lit, ↓bind_ap, ↓toF_ap, ixD_l, ixD_t, ixD_r, ↓in_sgn, blsD_map, intsD_map, gMulS0, e]
  rw [hx]

theorem q_whole_of (z : Str) (h : z.length ≤ 1000) : m_whole_of [.str z] = some (.ret 0 (numD (wholeOf z))) := by
  have hz : z.length ≤ sizeLine := Nat.le_trans h (by decide)
  have h2 := str_sz h
  have lc := lc_in FIGS z b_whole_of_1 [.ow 0 (.str z), .no] 0 fun c => by
    unfold b_whole_of_1 FIGS
    simp (disch := walk_at "sz") only [↓run_0, ↓run_1, ↓run_2, ↓run_3, ↓run_4, ↓run_5, ↓run_6, eq_self, entryE, endR, ↓sSeq_ap, ↓sIf_ap, ↓sRet_ap, ↓sRetN_ap, ↓sDrop_ap, ↓sAsg_ap, ↓sNext_ap, ↓sBrk_ap, ↓sCnt_ap, ↓sNever_ap, ↓sRaise_ap, ↓sPar_ap, ↓sAug_ap, ↓sFor_ap, loop_nil, loop_cons, ↓bOf_ap, ↓bAnd_ap, ↓bOr_ap, ↓bNot_ap, ↓bYes_ap, ↓eVar_ap, ↓eFz_ap, ↓eMv_ap, look, ↓eC_ap, ↓eOp_ap, ↓eAnd_ap, ↓eOr_ap, ↓eNot_ap, ↓eNeg_ap, ↓eIf_ap, ↓eTup_ap, ↓eLst_ap, ↓eCall_ap, ↓eCB_ap, ↓eSl_ap, ↓oNo_ap, ↓oSome_ap, ↓eRevL_ap, ↓eChain_ap, ↓aNil_ap, ↓aCons_ap, ↓g2_ap, ↓gOr_ap, gAdd, gMul, gAdd0, gAddS0, gSub0, gDiv0, gMod0, gMul0, gPow0, gLt0, gLe0, gGt0, gGe0, gEq0, gNe0, gIs0, gNot0, gIn0, ↓gC_ap, gLen, lenD, gAbs, gInt, gStr, gSum, gAny, gAll, gMax, gMin, ↓gDivmod_ap, ↓gList_ap, ↓gTupL_ap, ↓gSorted_ap, gSl, gRevL, gIsi, ↓gIx_ap, kPart, ↓gCat_ap, ↓gRep_ap, ↓gN_ap, ↓gF_ap, ↓gT_ap, ↓gsNil_ap, ↓gsCons_ap, withK, stb', okItem, hasK, itemsOk, isNon, listOf, lstOf, intsOf, blsOf, tyD, lstD, seqOf, ↓iLst_ap, ↓iR1_ap, ↓iR2_ap, ↓iSeq_ap, ↓iZ_ap, List.map_cons, List.map_nil, List.length_cons, List.length_nil, List.reduceReplicate, List.nil_append, List.cons_append, List.getElem?_cons_zero, List.getElem?_cons_succ, List.getElem?_nil, List.set_cons_zero, List.set_cons_succ, List.all_cons, List.all_nil, Bool.and_true, Bool.true_and, Bool.and_false, Bool.false_and, Bool.or_true, Bool.true_or, Bool.or_false, Bool.false_or, Bool.not_true, Bool.not_false, Bool.false_eq_true, if_true, if_false, ↓reduceIte, Option.map_some, Option.map_none, chk_pos, decide_eq_true_eq, flat, flat.flats, okP, okP.okPs, kit_NoneType_int, kit_NoneType_bool, kit_NoneType_str, kit_NoneType_tuple, kit_NoneType_list, kit_NoneType_dict, kit_bool_int, kit_bool_bool, kit_bool_str, kit_bool_tuple, kit_bool_list, kit_bool_dict, kit_int_int, kit_int_bool, kit_int_str, kit_int_tuple, kit_int_list, kit_int_dict, kit_str_int, kit_str_bool, kit_str_str, kit_str_tuple, kit_str_list, kit_str_dict, kit_list_int, kit_list_bool, kit_list_str, kit_list_tuple, kit_list_list, kit_list_dict, kit_tuple_int, kit_tuple_bool, kit_tuple_str, kit_tuple_tuple, kit_tuple_list, kit_tuple_dict, kit_dict_int, kit_dict_bool, kit_dict_str, kit_dict_tuple, kit_dict_list, kit_dict_dict, Nat.zero_add, Nat.reduceAdd, Nat.reduceLeDiff, Nat.reduceLT, Nat.reduceEqDiff, Nat.reduceMul, Nat.reduceSub, Nat.reducePow, Int.reduceAdd, Int.reduceSub, Int.reduceMul, Int.reduceNeg, Int.reducePow, Int.reduceLT, Int.reduceLE, Int.reduceEq, Int.reduceNe, Int.reduceToNat, beq_self_eq_true, Option.some.injEq, intsD, Nat.reduceBEq, decide_true, decide_false, ite_true, ite_false, atI_nat, atI_lit, atI_last, ixN_nat, ixN_lit, cut_nn, eqD_nn, eqD_ii, eqD_bb, eqD_ss, eqD_tt, eqD_ll, eqs_nn, eqs_cc, eqs_nc, eqs_cn, beq_str, beq_int, wipeE, lcOne_ap, ↓sTryK_ap, setO, ↓gPart_ap, ePart, eFind, eJoin, eSplit, ↓eM1_ap, ↓eLc_ap, ↓eJoined_ap, ↓jStr_ap, ↓jFmt_ap, ↓jNil_ap, ↓eDnew_ap, ↓eDic1_ap, scl, sgn, ↓gFind_ap, ↓gJoin_ap, ↓gSplitS_ap, ↓gTupOf_ap, ↓pIx_ap, ↓pVar_ap, ↓sApp_ap, ↓sClr_ap, ↓sRev_ap, ↓sSet_ap, cast_lit, ↓bind_ap, ↓toF_ap, ixD_l, ixD_t, ixD_r, ↓in_sgn, blsD_map, intsD_map, gMulS0]
  unfold m_whole_of b_whole_of wholeOf
  by_cases h1 : (z.length : Int) < 1
  · rw [if_pos (by omega)]
    simp (disch := walk_at "sz") only [↓run_0, ↓run_1, ↓run_2, ↓run_3, ↓run_4, ↓run_5, ↓run_6, eq_self, entryE, endR, ↓sSeq_ap, ↓sIf_ap, ↓sRet_ap, ↓sRetN_ap, ↓sDrop_ap, ↓sAsg_ap, ↓sNext_ap, ↓sBrk_ap, ↓sCnt_ap, ↓sNever_ap, ↓sRaise_ap, ↓sPar_ap, ↓sAug_ap, ↓sFor_ap, loop_nil, loop_cons, ↓bOf_ap, ↓bAnd_ap, ↓bOr_ap, ↓bNot_ap, ↓bYes_ap, ↓eVar_ap, ↓eFz_ap, ↓eMv_ap, look, ↓eC_ap, ↓eOp_ap, ↓eAnd_ap, ↓eOr_ap, ↓eNot_ap, ↓eNeg_ap, ↓eIf_ap, ↓eTup_ap, ↓eLst_ap, ↓eCall_ap, ↓eCB_ap, ↓eSl_ap, ↓oNo_ap, ↓oSome_ap, ↓eRevL_ap, ↓eChain_ap, ↓aNil_ap, ↓aCons_ap, ↓g2_ap, ↓gOr_ap, gAdd, gMul, gAdd0, gAddS0, gSub0, gDiv0, gMod0, gMul0, gPow0, gLt0, gLe0, gGt0, gGe0, gEq0, gNe0, gIs0, gNot0, gIn0, ↓gC_ap, gLen, lenD, gAbs, gInt, gStr, gSum, gAny, gAll, gMax, gMin, ↓gDivmod_ap, ↓gList_ap, ↓gTupL_ap, ↓gSorted_ap, gSl, gRevL, gIsi, ↓gIx_ap, kPart, ↓gCat_ap, ↓gRep_ap, ↓gN_ap, ↓gF_ap, ↓gT_ap, ↓gsNil_ap, ↓gsCons_ap, withK, stb', okItem, hasK, itemsOk, isNon, listOf, lstOf, intsOf, blsOf, tyD, lstD, seqOf, ↓iLst_ap, ↓iR1_ap, ↓iR2_ap, ↓iSeq_ap, ↓iZ_ap, List.map_cons, List.map_nil, List.length_cons, List.length_nil, List.reduceReplicate, List.nil_append, List.cons_append, List.getElem?_cons_zero, List.getElem?_cons_succ, List.getElem?_nil, List.set_cons_zero, List.set_cons_succ, List.all_cons, List.all_nil, Bool.and_true, Bool.true_and, Bool.and_false, Bool.false_and, Bool.or_true, Bool.true_or, Bool.or_false, Bool.false_or, Bool.not_true, Bool.not_false, Bool.false_eq_true, if_true, if_false, ↓reduceIte, Option.map_some, Option.map_none, chk_pos, decide_eq_true_eq, flat, flat.flats, okP, okP.okPs, kit_NoneType_int, kit_NoneType_bool, kit_NoneType_str, kit_NoneType_tuple, kit_NoneType_list, kit_NoneType_dict, kit_bool_int, kit_bool_bool, kit_bool_str, kit_bool_tuple, kit_bool_list, kit_bool_dict, kit_int_int, kit_int_bool, kit_int_str, kit_int_tuple, kit_int_list, kit_int_dict, kit_str_int, kit_str_bool, kit_str_str, kit_str_tuple, kit_str_list, kit_str_dict, kit_list_int, kit_list_bool, kit_list_str, kit_list_tuple, kit_list_list, kit_list_dict, kit_tuple_int, kit_tuple_bool, kit_tuple_str, kit_tuple_tuple, kit_tuple_list, kit_tuple_dict, kit_dict_int, kit_dict_bool, kit_dict_str, kit_dict_tuple, kit_dict_list, kit_dict_dict, Nat.zero_add, Nat.reduceAdd, Nat.reduceLeDiff, Nat.reduceLT, Nat.reduceEqDiff, Nat.reduceMul, Nat.reduceSub, Nat.reducePow, Int.reduceAdd, Int.reduceSub, Int.reduceMul, Int.reduceNeg, Int.reducePow, Int.reduceLT, Int.reduceLE, Int.reduceEq, Int.reduceNe, Int.reduceToNat, beq_self_eq_true, Option.some.injEq, intsD, Nat.reduceBEq, decide_true, decide_false, ite_true, ite_false, atI_nat, atI_lit, atI_last, ixN_nat, ixN_lit, cut_nn, eqD_nn, eqD_ii, eqD_bb, eqD_ss, eqD_tt, eqD_ll, eqs_nn, eqs_cc, eqs_nc, eqs_cn, beq_str, beq_int, wipeE, lcOne_ap, ↓sTryK_ap, setO, ↓gPart_ap, ePart, eFind, eJoin, eSplit, ↓eM1_ap, ↓eLc_ap, ↓eJoined_ap, ↓jStr_ap, ↓jFmt_ap, ↓jNil_ap, ↓eDnew_ap, ↓eDic1_ap, scl, sgn, ↓gFind_ap, ↓gJoin_ap, ↓gSplitS_ap, ↓gTupOf_ap, ↓pIx_ap, ↓pVar_ap, ↓sApp_ap, ↓sClr_ap, ↓sRev_ap, ↓sSet_ap, cast_lit, ↓bind_ap, ↓toF_ap, ixD_l, ixD_t, ixD_r, ↓in_sgn, blsD_map, intsD_map, gMulS0, h1, numD]
  by_cases h3 : (40 : Int) < z.length
  · rw [if_pos (by omega)]
    simp (disch := walk_at "sz") only [↓run_0, ↓run_1, ↓run_2, ↓run_3, ↓run_4, ↓run_5, ↓run_6, eq_self, entryE, endR, ↓sSeq_ap, ↓sIf_ap, ↓sRet_ap, ↓sRetN_ap, ↓sDrop_ap, ↓sAsg_ap, ↓sNext_ap, ↓sBrk_ap, ↓sCnt_ap, ↓sNever_ap, ↓sRaise_ap, ↓sPar_ap, ↓sAug_ap, ↓sFor_ap, loop_nil, loop_cons, ↓bOf_ap, ↓bAnd_ap, ↓bOr_ap, ↓bNot_ap, ↓bYes_ap, ↓eVar_ap, ↓eFz_ap, ↓eMv_ap, look, ↓eC_ap, ↓eOp_ap, ↓eAnd_ap, ↓eOr_ap, ↓eNot_ap, ↓eNeg_ap, ↓eIf_ap, ↓eTup_ap, ↓eLst_ap, ↓eCall_ap, ↓eCB_ap, ↓eSl_ap, ↓oNo_ap, ↓oSome_ap, ↓eRevL_ap, ↓eChain_ap, ↓aNil_ap, ↓aCons_ap, ↓g2_ap, ↓gOr_ap, gAdd, gMul, gAdd0, gAddS0, gSub0, gDiv0, gMod0, gMul0, gPow0, gLt0, gLe0, gGt0, gGe0, gEq0, gNe0, gIs0, gNot0, gIn0, ↓gC_ap, gLen, lenD, gAbs, gInt, gStr, gSum, gAny, gAll, gMax, gMin, ↓gDivmod_ap, ↓gList_ap, ↓gTupL_ap, ↓gSorted_ap, gSl, gRevL, gIsi, ↓gIx_ap, kPart, ↓gCat_ap, ↓gRep_ap, ↓gN_ap, ↓gF_ap, ↓gT_ap, ↓gsNil_ap, ↓gsCons_ap, withK, stb', okItem, hasK, itemsOk, isNon, listOf, lstOf, intsOf, blsOf, tyD, lstD, seqOf, ↓iLst_ap, ↓iR1_ap, ↓iR2_ap, ↓iSeq_ap, ↓iZ_ap, List.map_cons, List.map_nil, List.length_cons, List.length_nil, List.reduceReplicate, List.nil_append, List.cons_append, List.getElem?_cons_zero, List.getElem?_cons_succ, List.getElem?_nil, List.set_cons_zero, List.set_cons_succ, List.all_cons, List.all_nil, Bool.and_true, Bool.true_and, Bool.and_false, Bool.false_and, Bool.or_true, Bool.true_or, Bool.or_false, Bool.false_or, Bool.not_true, Bool.not_false, Bool.false_eq_true, if_true, if_false, ↓reduceIte, Option.map_some, Option.map_none, chk_pos, decide_eq_true_eq, flat, flat.flats, okP, okP.okPs, kit_NoneType_int, kit_NoneType_bool, kit_NoneType_str, kit_NoneType_tuple, kit_NoneType_list, kit_NoneType_dict, kit_bool_int, kit_bool_bool, kit_bool_str, kit_bool_tuple, kit_bool_list, kit_bool_dict, kit_int_int, kit_int_bool, kit_int_str, kit_int_tuple, kit_int_list, kit_int_dict, kit_str_int, kit_str_bool, kit_str_str, kit_str_tuple, kit_str_list, kit_str_dict, kit_list_int, kit_list_bool, kit_list_str, kit_list_tuple, kit_list_list, kit_list_dict, kit_tuple_int, kit_tuple_bool, kit_tuple_str, kit_tuple_tuple, kit_tuple_list, kit_tuple_dict, kit_dict_int, kit_dict_bool, kit_dict_str, kit_dict_tuple, kit_dict_list, kit_dict_dict, Nat.zero_add, Nat.reduceAdd, Nat.reduceLeDiff, Nat.reduceLT, Nat.reduceEqDiff, Nat.reduceMul, Nat.reduceSub, Nat.reducePow, Int.reduceAdd, Int.reduceSub, Int.reduceMul, Int.reduceNeg, Int.reducePow, Int.reduceLT, Int.reduceLE, Int.reduceEq, Int.reduceNe, Int.reduceToNat, beq_self_eq_true, Option.some.injEq, intsD, Nat.reduceBEq, decide_true, decide_false, ite_true, ite_false, atI_nat, atI_lit, atI_last, ixN_nat, ixN_lit, cut_nn, eqD_nn, eqD_ii, eqD_bb, eqD_ss, eqD_tt, eqD_ll, eqs_nn, eqs_cc, eqs_nc, eqs_cn, beq_str, beq_int, wipeE, lcOne_ap, ↓sTryK_ap, setO, ↓gPart_ap, ePart, eFind, eJoin, eSplit, ↓eM1_ap, ↓eLc_ap, ↓eJoined_ap, ↓jStr_ap, ↓jFmt_ap, ↓jNil_ap, ↓eDnew_ap, ↓eDic1_ap, scl, sgn, ↓gFind_ap, ↓gJoin_ap, ↓gSplitS_ap, ↓gTupOf_ap, ↓pIx_ap, ↓pVar_ap, ↓sApp_ap, ↓sClr_ap, ↓sRev_ap, ↓sSet_ap, cast_lit, ↓bind_ap, ↓toF_ap, ixD_l, ixD_t, ixD_r, ↓in_sgn, blsD_map, intsD_map, gMulS0, h1, h3, numD]
  rw [if_neg (by omega)]
  by_cases h4 : allIn FIGS z = false
  · rw [if_pos h4]
    simp (disch := walk_at "sz") only [↓run_0, ↓run_1, ↓run_2, ↓run_3, ↓run_4, ↓run_5, ↓run_6, eq_self, entryE, endR, ↓sSeq_ap, ↓sIf_ap, ↓sRet_ap, ↓sRetN_ap, ↓sDrop_ap, ↓sAsg_ap, ↓sNext_ap, ↓sBrk_ap, ↓sCnt_ap, ↓sNever_ap, ↓sRaise_ap, ↓sPar_ap, ↓sAug_ap, ↓sFor_ap, loop_nil, loop_cons, ↓bOf_ap, ↓bAnd_ap, ↓bOr_ap, ↓bNot_ap, ↓bYes_ap, ↓eVar_ap, ↓eFz_ap, ↓eMv_ap, look, ↓eC_ap, ↓eOp_ap, ↓eAnd_ap, ↓eOr_ap, ↓eNot_ap, ↓eNeg_ap, ↓eIf_ap, ↓eTup_ap, ↓eLst_ap, ↓eCall_ap, ↓eCB_ap, ↓eSl_ap, ↓oNo_ap, ↓oSome_ap, ↓eRevL_ap, ↓eChain_ap, ↓aNil_ap, ↓aCons_ap, ↓g2_ap, ↓gOr_ap, gAdd, gMul, gAdd0, gAddS0, gSub0, gDiv0, gMod0, gMul0, gPow0, gLt0, gLe0, gGt0, gGe0, gEq0, gNe0, gIs0, gNot0, gIn0, ↓gC_ap, gLen, lenD, gAbs, gInt, gStr, gSum, gAny, gAll, gMax, gMin, ↓gDivmod_ap, ↓gList_ap, ↓gTupL_ap, ↓gSorted_ap, gSl, gRevL, gIsi, ↓gIx_ap, kPart, ↓gCat_ap, ↓gRep_ap, ↓gN_ap, ↓gF_ap, ↓gT_ap, ↓gsNil_ap, ↓gsCons_ap, withK, stb', okItem, hasK, itemsOk, isNon, listOf, lstOf, intsOf, blsOf, tyD, lstD, seqOf, ↓iLst_ap, ↓iR1_ap, ↓iR2_ap, ↓iSeq_ap, ↓iZ_ap, List.map_cons, List.map_nil, List.length_cons, List.length_nil, List.reduceReplicate, List.nil_append, List.cons_append, List.getElem?_cons_zero, List.getElem?_cons_succ, List.getElem?_nil, List.set_cons_zero, List.set_cons_succ, List.all_cons, List.all_nil, Bool.and_true, Bool.true_and, Bool.and_false, Bool.false_and, Bool.or_true, Bool.true_or, Bool.or_false, Bool.false_or, Bool.not_true, Bool.not_false, Bool.false_eq_true, if_true, if_false, ↓reduceIte, Option.map_some, Option.map_none, chk_pos, decide_eq_true_eq, flat, flat.flats, okP, okP.okPs, kit_NoneType_int, kit_NoneType_bool, kit_NoneType_str, kit_NoneType_tuple, kit_NoneType_list, kit_NoneType_dict, kit_bool_int, kit_bool_bool, kit_bool_str, kit_bool_tuple, kit_bool_list, kit_bool_dict, kit_int_int, kit_int_bool, kit_int_str, kit_int_tuple, kit_int_list, kit_int_dict, kit_str_int, kit_str_bool, kit_str_str, kit_str_tuple, kit_str_list, kit_str_dict, kit_list_int, kit_list_bool, kit_list_str, kit_list_tuple, kit_list_list, kit_list_dict, kit_tuple_int, kit_tuple_bool, kit_tuple_str, kit_tuple_tuple, kit_tuple_list, kit_tuple_dict, kit_dict_int, kit_dict_bool, kit_dict_str, kit_dict_tuple, kit_dict_list, kit_dict_dict, Nat.zero_add, Nat.reduceAdd, Nat.reduceLeDiff, Nat.reduceLT, Nat.reduceEqDiff, Nat.reduceMul, Nat.reduceSub, Nat.reducePow, Int.reduceAdd, Int.reduceSub, Int.reduceMul, Int.reduceNeg, Int.reducePow, Int.reduceLT, Int.reduceLE, Int.reduceEq, Int.reduceNe, Int.reduceToNat, beq_self_eq_true, Option.some.injEq, intsD, Nat.reduceBEq, decide_true, decide_false, ite_true, ite_false, atI_nat, atI_lit, atI_last, ixN_nat, ixN_lit, cut_nn, eqD_nn, eqD_ii, eqD_bb, eqD_ss, eqD_tt, eqD_ll, eqs_nn, eqs_cc, eqs_nc, eqs_cn, beq_str, beq_int, wipeE, lcOne_ap, ↓sTryK_ap, setO, ↓gPart_ap, ePart, eFind, eJoin, eSplit, ↓eM1_ap, ↓eLc_ap, ↓eJoined_ap, ↓jStr_ap, ↓jFmt_ap, ↓jNil_ap, ↓eDnew_ap, ↓eDic1_ap, scl, sgn, ↓gFind_ap, ↓gJoin_ap, ↓gSplitS_ap, ↓gTupOf_ap, ↓pIx_ap, ↓pVar_ap, ↓sApp_ap, ↓sClr_ap, ↓sRev_ap, ↓sSet_ap, cast_lit, ↓bind_ap, ↓toF_ap, ixD_l, ixD_t, ixD_r, ↓in_sgn, blsD_map, intsD_map, gMulS0, h1, h3, lc, all_in, h4, numD]
  rw [if_neg h4]
  replace h4 : allIn FIGS z = true := by simpa using h4
  have hl : z.cps.toList.length = z.length := Array.length_toList
  obtain ⟨c, r, ez⟩ : ∃ c r, z.cps.toList = c :: r := by
    cases e : z.cps.toList with
    | nil =>
      rw [e] at hl
      exact absurd hl (by show ¬ 0 = _; omega)
    | cons c r => exact ⟨c, r, rfl⟩
  have hx : ixD (.str z) 0 = some (.str ⟨#[c]⟩) := by
    show (if z.length ≤ sizeLine then (atI z.cps.toList ((0 : Nat) : Int)).map _ else none) = _
    rw [if_pos hz, atI_nat, ez]
    rfl
  have hd : z.cps.toList.headD 0 = c := by rw [ez]; rfl
  have e48 : ((⟨#[c]⟩ : Str) = "0") = (c = 48) := by
    apply propext
    constructor
    · intro q
      have q2 : (⟨#[c]⟩ : Str).cps.toList = ("0" : Str).cps.toList := by rw [q]
      have q3 : ("0" : Str).cps.toList = [48] := by decide +kernel
      rw [q3] at q2
      exact (List.cons.inj q2).1
    · rintro rfl
      decide +kernel
  have it : PySem.intText? z = some (NumText.digitsVal z.cps.toList : Int) := intText_digits (figs_dig h4) (by rw [ez]; exact List.cons_ne_nil _ _) (by omega)
  have l640 : z.length ≤ 640 := by omega
  rw [hd]
  by_cases h5 : c = 48
  · subst h5
    by_cases h6 : (1 : Int) < z.length
    · rw [if_pos ⟨rfl, by omega⟩]
      simp (disch := walk_at "sz") only [↓run_0, ↓run_1, ↓run_2, ↓run_3, ↓run_4, ↓run_5, ↓run_6, eq_self, entryE, endR, ↓sSeq_ap, ↓sIf_ap, ↓sRet_ap, ↓sRetN_ap, ↓sDrop_ap, ↓sAsg_ap, ↓sNext_ap, ↓sBrk_ap, ↓sCnt_ap, ↓sNever_ap, ↓sRaise_ap, ↓sPar_ap, ↓sAug_ap, ↓sFor_ap, loop_nil, loop_cons, ↓bOf_ap, ↓bAnd_ap, ↓bOr_ap, ↓bNot_ap, ↓bYes_ap, ↓eVar_ap, ↓eFz_ap, ↓eMv_ap, look, ↓eC_ap, ↓eOp_ap, ↓eAnd_ap, ↓eOr_ap, ↓eNot_ap, ↓eNeg_ap, ↓eIf_ap, ↓eTup_ap, ↓eLst_ap, ↓eCall_ap, ↓eCB_ap, ↓eSl_ap, ↓oNo_ap, ↓oSome_ap, ↓eRevL_ap, ↓eChain_ap, ↓aNil_ap, ↓aCons_ap, ↓g2_ap, ↓gOr_ap, gAdd, gMul, gAdd0, gAddS0, gSub0, gDiv0, gMod0, gMul0, gPow0, gLt0, gLe0, gGt0, gGe0, gEq0, gNe0, gIs0, gNot0, gIn0, ↓gC_ap, gLen, lenD, gAbs, gInt, gStr, gSum, gAny, gAll, gMax, gMin, ↓gDivmod_ap, ↓gList_ap, ↓gTupL_ap, ↓gSorted_ap, gSl, gRevL, gIsi, ↓gIx_ap, kPart, ↓gCat_ap, ↓gRep_ap, ↓gN_ap, ↓gF_ap, ↓gT_ap, ↓gsNil_ap, ↓gsCons_ap, withK, stb', okItem, hasK, itemsOk, isNon, listOf, lstOf, intsOf, blsOf, tyD, lstD, seqOf, ↓iLst_ap, ↓iR1_ap, ↓iR2_ap, ↓iSeq_ap, ↓iZ_ap, List.map_cons, List.map_nil, List.length_cons, List.length_nil, List.reduceReplicate, List.nil_append, List.cons_append, List.getElem?_cons_zero, List.getElem?_cons_succ, List.getElem?_nil, List.set_cons_zero, List.set_cons_succ, List.all_cons, List.all_nil, Bool.and_true, Bool.true_and, Bool.and_false, Bool.false_and, Bool.or_true, Bool.true_or, Bool.or_false, Bool.false_or, Bool.not_true, Bool.not_false, Bool.false_eq_true, if_true, if_false, ↓reduceIte, Option.map_some, Option.map_none, chk_pos, decide_eq_true_eq, flat, flat.flats, okP, okP.okPs, kit_NoneType_int, kit_NoneType_bool, kit_NoneType_str, kit_NoneType_tuple, kit_NoneType_list, kit_NoneType_dict, kit_bool_int, kit_bool_bool, kit_bool_str, kit_bool_tuple, kit_bool_list, kit_bool_dict, kit_int_int, kit_int_bool, kit_int_str, kit_int_tuple, kit_int_list, kit_int_dict, kit_str_int, kit_str_bool, kit_str_str, kit_str_tuple, kit_str_list, kit_str_dict, kit_list_int, kit_list_bool, kit_list_str, kit_list_tuple, kit_list_list, kit_list_dict, kit_tuple_int, kit_tuple_bool, kit_tuple_str, kit_tuple_tuple, kit_tuple_list, kit_tuple_dict, kit_dict_int, kit_dict_bool, kit_dict_str, kit_dict_tuple, kit_dict_list, kit_dict_dict, Nat.zero_add, Nat.reduceAdd, Nat.reduceLeDiff, Nat.reduceLT, Nat.reduceEqDiff, Nat.reduceMul, Nat.reduceSub, Nat.reducePow, Int.reduceAdd, Int.reduceSub, Int.reduceMul, Int.reduceNeg, Int.reducePow, Int.reduceLT, Int.reduceLE, Int.reduceEq, Int.reduceNe, Int.reduceToNat, beq_self_eq_true, Option.some.injEq, intsD, Nat.reduceBEq, decide_true, decide_false, ite_true, ite_false, atI_nat, atI_lit, atI_last, ixN_nat, ixN_lit, cut_nn, eqD_nn, eqD_ii, eqD_bb, eqD_ss, eqD_tt, eqD_ll, eqs_nn, eqs_cc, eqs_nc, eqs_cn, beq_str, beq_int, wipeE, lcOne_ap, ↓sTryK_ap, setO, ↓gPart_ap, ePart, eFind, eJoin, eSplit, ↓eM1_ap, ↓eLc_ap, ↓eJoined_ap, ↓jStr_ap, ↓jFmt_ap, ↓jNil_ap, ↓eDnew_ap, ↓eDic1_ap, scl, sgn, ↓gFind_ap, ↓gJoin_ap, ↓gSplitS_ap, ↓gTupOf_ap, ↓pIx_ap, ↓pVar_ap, ↓sApp_ap, ↓sClr_ap, ↓sRev_ap, ↓sSet_ap, cast_lit, ↓bind_ap, ↓toF_ap, ixD_l, ixD_t, ixD_r, ↓in_sgn, blsD_map, intsD_map, gMulS0, h1, h3, lc, all_in, h4, hx, e48, h6, numD]
    · rw [if_neg (fun z => by omega)]
      simp (disch := walk_at "sz") only [↓run_0, ↓run_1, ↓run_2, ↓run_3, ↓run_4, ↓run_5, ↓run_6, eq_self, entryE, endR, ↓sSeq_ap, ↓sIf_ap, ↓sRet_ap, ↓sRetN_ap, ↓sDrop_ap, ↓sAsg_ap, ↓sNext_ap, ↓sBrk_ap, ↓sCnt_ap, ↓sNever_ap, ↓sRaise_ap, ↓sPar_ap, ↓sAug_ap, ↓sFor_ap, loop_nil, loop_cons, ↓bOf_ap, ↓bAnd_ap, ↓bOr_ap, ↓bNot_ap, ↓bYes_ap, ↓eVar_ap, ↓eFz_ap, ↓eMv_ap, look, ↓eC_ap, ↓eOp_ap, ↓eAnd_ap, ↓eOr_ap, ↓eNot_ap, ↓eNeg_ap, ↓eIf_ap, ↓eTup_ap, ↓eLst_ap, ↓eCall_ap, ↓eCB_ap, ↓eSl_ap, ↓oNo_ap, ↓oSome_ap, ↓eRevL_ap, ↓eChain_ap, ↓aNil_ap, ↓aCons_ap, ↓g2_ap, ↓gOr_ap, gAdd, gMul, gAdd0, gAddS0, gSub0, gDiv0, gMod0, gMul0, gPow0, gLt0, gLe0, gGt0, gGe0, gEq0, gNe0, gIs0, gNot0, gIn0, ↓gC_ap, gLen, lenD, gAbs, gInt, gStr, gSum, gAny, gAll, gMax, gMin, ↓gDivmod_ap, ↓gList_ap, ↓gTupL_ap, ↓gSorted_ap, gSl, gRevL, gIsi, ↓gIx_ap, kPart, ↓gCat_ap, ↓gRep_ap, ↓gN_ap, ↓gF_ap, ↓gT_ap, ↓gsNil_ap, ↓gsCons_ap, withK, stb', okItem, hasK, itemsOk, isNon, listOf, lstOf, intsOf, blsOf, tyD, lstD, seqOf, ↓iLst_ap, ↓iR1_ap, ↓iR2_ap, ↓iSeq_ap, ↓iZ_ap, List.map_cons, List.map_nil, List.length_cons, List.length_nil, List.reduceReplicate, List.nil_append, List.cons_append, List.getElem?_cons_zero, List.getElem?_cons_succ, List.getElem?_nil, List.set_cons_zero, List.set_cons_succ, List.all_cons, List.all_nil, Bool.and_true, Bool.true_and, Bool.and_false, Bool.false_and, Bool.or_true, Bool.true_or, Bool.or_false, Bool.false_or, Bool.not_true, Bool.not_false, Bool.false_eq_true, if_true, if_false, ↓reduceIte, Option.map_some, Option.map_none, chk_pos, decide_eq_true_eq, flat, flat.flats, okP, okP.okPs, kit_NoneType_int, kit_NoneType_bool, kit_NoneType_str, kit_NoneType_tuple, kit_NoneType_list, kit_NoneType_dict, kit_bool_int, kit_bool_bool, kit_bool_str, kit_bool_tuple, kit_bool_list, kit_bool_dict, kit_int_int, kit_int_bool, kit_int_str, kit_int_tuple, kit_int_list, kit_int_dict, kit_str_int, kit_str_bool, kit_str_str, kit_str_tuple, kit_str_list, kit_str_dict, kit_list_int, kit_list_bool, kit_list_str, kit_list_tuple, kit_list_list, kit_list_dict, kit_tuple_int, kit_tuple_bool, kit_tuple_str, kit_tuple_tuple, kit_tuple_list, kit_tuple_dict, kit_dict_int, kit_dict_bool, kit_dict_str, kit_dict_tuple, kit_dict_list, kit_dict_dict, Nat.zero_add, Nat.reduceAdd, Nat.reduceLeDiff, Nat.reduceLT, Nat.reduceEqDiff, Nat.reduceMul, Nat.reduceSub, Nat.reducePow, Int.reduceAdd, Int.reduceSub, Int.reduceMul, Int.reduceNeg, Int.reducePow, Int.reduceLT, Int.reduceLE, Int.reduceEq, Int.reduceNe, Int.reduceToNat, beq_self_eq_true, Option.some.injEq, intsD, Nat.reduceBEq, decide_true, decide_false, ite_true, ite_false, atI_nat, atI_lit, atI_last, ixN_nat, ixN_lit, cut_nn, eqD_nn, eqD_ii, eqD_bb, eqD_ss, eqD_tt, eqD_ll, eqs_nn, eqs_cc, eqs_nc, eqs_cn, beq_str, beq_int, wipeE, lcOne_ap, ↓sTryK_ap, setO, ↓gPart_ap, ePart, eFind, eJoin, eSplit, ↓eM1_ap, ↓eLc_ap, ↓eJoined_ap, ↓jStr_ap, ↓jFmt_ap, ↓jNil_ap, ↓eDnew_ap, ↓eDic1_ap, scl, sgn, ↓gFind_ap, ↓gJoin_ap, ↓gSplitS_ap, ↓gTupOf_ap, ↓pIx_ap, ↓pVar_ap, ↓sApp_ap, ↓sClr_ap, ↓sRev_ap, ↓sSet_ap, cast_lit, ↓bind_ap, ↓toF_ap, ixD_l, ixD_t, ixD_r, ↓in_sgn, blsD_map, intsD_map, gMulS0, h1, h3, lc, all_in, h4, hx, e48, h6, it, numD]
  · rw [if_neg (fun z => h5 z.1)]
    simp (disch := walk_at "sz") only [↓run_0, ↓run_1, ↓run_2, ↓run_3, ↓run_4, ↓run_5, ↓run_6, eq_self, entryE, endR, ↓sSeq_ap, ↓sIf_ap, ↓sRet_ap, ↓sRetN_ap, ↓sDrop_ap, ↓sAsg_ap, ↓sNext_ap, ↓sBrk_ap, ↓sCnt_ap, ↓sNever_ap, ↓sRaise_ap, ↓sPar_ap, ↓sAug_ap, ↓sFor_ap, loop_nil, loop_cons, ↓bOf_ap, ↓bAnd_ap, ↓bOr_ap, ↓bNot_ap, ↓bYes_ap, ↓eVar_ap, ↓eFz_ap, ↓eMv_ap, look, ↓eC_ap, ↓eOp_ap, ↓eAnd_ap, ↓eOr_ap, ↓eNot_ap, ↓eNeg_ap, ↓eIf_ap, ↓eTup_ap, ↓eLst_ap, ↓eCall_ap, ↓eCB_ap, ↓eSl_ap, ↓oNo_ap, ↓oSome_ap, ↓eRevL_ap, ↓eChain_ap, ↓aNil_ap, ↓aCons_ap, ↓g2_ap, ↓gOr_ap, gAdd, gMul, gAdd0, gAddS0, gSub0, gDiv0, gMod0, gMul0, gPow0, gLt0, gLe0, gGt0, gGe0, gEq0, gNe0, gIs0, gNot0, gIn0, ↓gC_ap, gLen, lenD, gAbs, gInt, gStr, gSum, gAny, gAll, gMax, gMin, ↓gDivmod_ap, ↓gList_ap, ↓gTupL_ap, ↓gSorted_ap, gSl, gRevL, gIsi, ↓gIx_ap, kPart, ↓gCat_ap, ↓gRep_ap, ↓gN_ap, ↓gF_ap, ↓gT_ap, ↓gsNil_ap, ↓gsCons_ap, withK, stb', okItem, hasK, itemsOk, isNon, listOf, lstOf, intsOf, blsOf, tyD, lstD, seqOf, ↓iLst_ap, ↓iR1_ap, ↓iR2_ap, ↓iSeq_ap, ↓iZ_ap, List.map_cons, List.map_nil, List.length_cons, List.length_nil, List.reduceReplicate, List.nil_append, List.cons_append, List.getElem?_cons_zero, List.getElem?_cons_succ, List.getElem?_nil, List.set_cons_zero, List.set_cons_succ, List.all_cons, List.all_nil, Bool.and_true, Bool.true_and, Bool.and_false, Bool.false_and, Bool.or_true, Bool.true_or, Bool.or_false, Bool.false_or, Bool.not_true, Bool.not_false, Bool.false_eq_true, if_true, if_false, ↓reduceIte, Option.map_some, Option.map_none, chk_pos, decide_eq_true_eq, flat, flat.flats, okP, okP.okPs, kit_NoneType_int, kit_NoneType_bool, kit_NoneType_str, kit_NoneType_tuple, kit_NoneType_list, kit_NoneType_dict, kit_bool_int, kit_bool_bool, kit_bool_str, kit_bool_tuple, kit_bool_list, kit_bool_dict, kit_int_int, kit_int_bool, kit_int_str, kit_int_tuple, kit_int_list, kit_int_dict, kit_str_int, kit_str_bool, kit_str_str, kit_str_tuple, kit_str_list, kit_str_dict, kit_list_int, kit_list_bool, kit_list_str, kit_list_tuple, kit_list_list, kit_list_dict, kit_tuple_int, kit_tuple_bool, kit_tuple_str, kit_tuple_tuple, kit_tuple_list, kit_tuple_dict, kit_dict_int, kit_dict_bool, kit_dict_str, kit_dict_tuple, kit_dict_list, kit_dict_dict, Nat.zero_add, Nat.reduceAdd, Nat.reduceLeDiff, Nat.reduceLT, Nat.reduceEqDiff, Nat.reduceMul, Nat.reduceSub, Nat.reducePow, Int.reduceAdd, Int.reduceSub, Int.reduceMul, Int.reduceNeg, Int.reducePow, Int.reduceLT, Int.reduceLE, Int.reduceEq, Int.reduceNe, Int.reduceToNat, beq_self_eq_true, Option.some.injEq, intsD, Nat.reduceBEq, decide_true, decide_false, ite_true, ite_false, atI_nat, atI_lit, atI_last, ixN_nat, ixN_lit, cut_nn, eqD_nn, eqD_ii, eqD_bb, eqD_ss, eqD_tt, eqD_ll, eqs_nn, eqs_cc, eqs_nc, eqs_cn, beq_str, beq_int, wipeE, lcOne_ap, ↓sTryK_ap, setO, ↓gPart_ap, ePart, eFind, eJoin, eSplit, ↓eM1_ap, ↓eLc_ap, ↓eJoined_ap, ↓jStr_ap, ↓jFmt_ap, ↓jNil_ap, ↓eDnew_ap, ↓eDic1_ap, scl, sgn, ↓gFind_ap, ↓gJoin_ap, ↓gSplitS_ap, ↓gTupOf_ap, ↓pIx_ap, ↓pVar_ap, ↓sApp_ap, ↓sClr_ap, ↓sRev_ap, ↓sSet_ap, cast_lit, ↓bind_ap, ↓toF_ap, ixD_l, ixD_t, ixD_r, ↓in_sgn, blsD_map, intsD_map, gMulS0, h1, h3, lc, all_in, h4, hx, e48, h5, it, numD]

theorem q_number_of (x : Str) (h : x.length ≤ 1000) : m_number_of [.str x] = some (outN (numOf x)) := by
  have pl := part_len x
  have h0 : (stroke.length == 0) = false := by decide +kernel
  have hk : 1000 ≤ sizeLine := by decide
  have cl := cutS_length (Txt.partition x stroke).1 (some 1) none
  have l0 : x.length ≤ sizeLine := by omega
  have l1 : (Txt.partition x stroke).1.length ≤ sizeLine := by omega
  have w1 := q_whole_of (Txt.partition x stroke).1 (by omega)
  have w2 := q_whole_of (cutS (Txt.partition x stroke).1 (some 1) none) (by omega)
  have w3 := q_whole_of (Txt.partition x stroke).2.2 (by omega)
  have pc : (stroke.length == 0) = false ∧ x.length ≤ sizeLine := ⟨h0, l0⟩
  unfold m_number_of b_number_of
  change runD 1 6 _ _ = _
  rw [show (D.str "/" : D) = D.str stroke from rfl, show (D.str "-" : D) = D.str dash from rfl]
  cases hb : nBelow x <;> cases hh : nHas x
  case false.false =>
    have b1 : ¬ cutS (Txt.partition x stroke).1 none (some 1) = dash := of_decide_eq_false hb
    have b2 : ¬ (Txt.partition x stroke).2.1 = stroke := of_decide_eq_false hh
    have e : numOf x = match wholeOf (Txt.partition x stroke).1 with
      | some t => some ((t : Int), 1)
      | none => none := by
      unfold numOf nBot nFirst
      rw [hb, hh]
      simp only [Bool.false_eq_true, if_false, false_and]
      cases wholeOf (Txt.partition x stroke).1 <;> rfl
    rw [e]
    cases ht : wholeOf (Txt.partition x stroke).1 with
    | none =>
      rw [ht] at w1
      simp (disch := walk_at "sz") only [↓run_0, ↓run_1, ↓run_2, ↓run_3, ↓run_4, ↓run_5, ↓run_6, eq_self, entryE, endR, ↓sSeq_ap, ↓sIf_ap, ↓sRet_ap, ↓sRetN_ap, ↓sDrop_ap, ↓sAsg_ap, ↓sNext_ap, ↓sBrk_ap, ↓sCnt_ap, ↓sNever_ap, ↓sRaise_ap, ↓sPar_ap, ↓sAug_ap, ↓sFor_ap, loop_nil, loop_cons, ↓bOf_ap, ↓bAnd_ap, ↓bOr_ap, ↓bNot_ap, ↓bYes_ap, ↓eVar_ap, ↓eFz_ap, ↓eMv_ap, look, ↓eC_ap, ↓eOp_ap, ↓eAnd_ap, ↓eOr_ap, ↓eNot_ap, ↓eNeg_ap, ↓eIf_ap, ↓eTup_ap, ↓eLst_ap, ↓eCall_ap, ↓eCB_ap, ↓eSl_ap, ↓oNo_ap, ↓oSome_ap, ↓eRevL_ap, ↓eChain_ap, ↓aNil_ap, ↓aCons_ap, ↓g2_ap, ↓gOr_ap, gAdd, gMul, gAdd0, gAddS0, gSub0, gDiv0, gMod0, gMul0, gPow0, gLt0, gLe0, gGt0, gGe0, gEq0, gNe0, gIs0, gNot0, gIn0, ↓gC_ap, gLen, lenD, gAbs, gInt, gStr, gSum, gAny, gAll, gMax, gMin, ↓gDivmod_ap, ↓gList_ap, ↓gTupL_ap, ↓gSorted_ap, gSl, gRevL, gIsi, ↓gIx_ap, kPart, ↓gCat_ap, ↓gRep_ap, ↓gN_ap, ↓gF_ap, ↓gT_ap, ↓gsNil_ap, ↓gsCons_ap, withK, stb', okItem, hasK, itemsOk, isNon, listOf, lstOf, intsOf, blsOf, tyD, lstD, seqOf, ↓iLst_ap, ↓iR1_ap, ↓iR2_ap, ↓iSeq_ap, ↓iZ_ap, List.map_cons, List.map_nil, List.length_cons, List.length_nil, List.reduceReplicate, List.nil_append, List.cons_append, List.getElem?_cons_zero, List.getElem?_cons_succ, List.getElem?_nil, List.set_cons_zero, List.set_cons_succ, List.all_cons, List.all_nil, Bool.and_true, Bool.true_and, Bool.and_false, Bool.false_and, Bool.or_true, Bool.true_or, Bool.or_false, Bool.false_or, Bool.not_true, Bool.not_false, Bool.false_eq_true, if_true, if_false, ↓reduceIte, Option.map_some, Option.map_none, chk_pos, decide_eq_true_eq, flat, flat.flats, okP, okP.okPs, kit_NoneType_int, kit_NoneType_bool, kit_NoneType_str, kit_NoneType_tuple, kit_NoneType_list, kit_NoneType_dict, kit_bool_int, kit_bool_bool, kit_bool_str, kit_bool_tuple, kit_bool_list, kit_bool_dict, kit_int_int, kit_int_bool, kit_int_str, kit_int_tuple, kit_int_list, kit_int_dict, kit_str_int, kit_str_bool, kit_str_str, kit_str_tuple, kit_str_list, kit_str_dict, kit_list_int, kit_list_bool, kit_list_str, kit_list_tuple, kit_list_list, kit_list_dict, kit_tuple_int, kit_tuple_bool, kit_tuple_str, kit_tuple_tuple, kit_tuple_list, kit_tuple_dict, kit_dict_int, kit_dict_bool, kit_dict_str, kit_dict_tuple, kit_dict_list, kit_dict_dict, Nat.zero_add, Nat.reduceAdd, Nat.reduceLeDiff, Nat.reduceLT, Nat.reduceEqDiff, Nat.reduceMul, Nat.reduceSub, Nat.reducePow, Int.reduceAdd, Int.reduceSub, Int.reduceMul, Int.reduceNeg, Int.reducePow, Int.reduceLT, Int.reduceLE, Int.reduceEq, Int.reduceNe, Int.reduceToNat, beq_self_eq_true, Option.some.injEq, intsD, Nat.reduceBEq, decide_true, decide_false, ite_true, ite_false, atI_nat, atI_lit, atI_last, ixN_nat, ixN_lit, cut_nn, eqD_nn, eqD_ii, eqD_bb, eqD_ss, eqD_tt, eqD_ll, eqs_nn, eqs_cc, eqs_nc, eqs_cn, beq_str, beq_int, wipeE, lcOne_ap, ↓sTryK_ap, setO, ↓gPart_ap, ePart, eFind, eJoin, eSplit, ↓eM1_ap, ↓eLc_ap, ↓eJoined_ap, ↓jStr_ap, ↓jFmt_ap, ↓jNil_ap, ↓eDnew_ap, ↓eDic1_ap, scl, sgn, ↓gFind_ap, ↓gJoin_ap, ↓gSplitS_ap, ↓gTupOf_ap, ↓pIx_ap, ↓pVar_ap, ↓sApp_ap, ↓sClr_ap, ↓sRev_ap, ↓sSet_ap, cast_lit, ↓bind_ap, ↓toF_ap, ixD_l, ixD_t, ixD_r, ↓in_sgn, blsD_map, intsD_map, gMulS0, w1, b1, b2, numD, outN]
    | some t =>
      rw [ht] at w1
      simp (disch := walk_at "sz") only [↓run_0, ↓run_1, ↓run_2, ↓run_3, ↓run_4, ↓run_5, ↓run_6, eq_self, entryE, endR, ↓sSeq_ap, ↓sIf_ap, ↓sRet_ap, ↓sRetN_ap, ↓sDrop_ap, ↓sAsg_ap, ↓sNext_ap, ↓sBrk_ap, ↓sCnt_ap, ↓sNever_ap, ↓sRaise_ap, ↓sPar_ap, ↓sAug_ap, ↓sFor_ap, loop_nil, loop_cons, ↓bOf_ap, ↓bAnd_ap, ↓bOr_ap, ↓bNot_ap, ↓bYes_ap, ↓eVar_ap, ↓eFz_ap, ↓eMv_ap, look, ↓eC_ap, ↓eOp_ap, ↓eAnd_ap, ↓eOr_ap, ↓eNot_ap, ↓eNeg_ap, ↓eIf_ap, ↓eTup_ap, ↓eLst_ap, ↓eCall_ap, ↓eCB_ap, ↓eSl_ap, ↓oNo_ap, ↓oSome_ap, ↓eRevL_ap, ↓eChain_ap, ↓aNil_ap, ↓aCons_ap, ↓g2_ap, ↓gOr_ap, gAdd, gMul, gAdd0, gAddS0, gSub0, gDiv0, gMod0, gMul0, gPow0, gLt0, gLe0, gGt0, gGe0, gEq0, gNe0, gIs0, gNot0, gIn0, ↓gC_ap, gLen, lenD, gAbs, gInt, gStr, gSum, gAny, gAll, gMax, gMin, ↓gDivmod_ap, ↓gList_ap, ↓gTupL_ap, ↓gSorted_ap, gSl, gRevL, gIsi, ↓gIx_ap, kPart, ↓gCat_ap, ↓gRep_ap, ↓gN_ap, ↓gF_ap, ↓gT_ap, ↓gsNil_ap, ↓gsCons_ap, withK, stb', okItem, hasK, itemsOk, isNon, listOf, lstOf, intsOf, blsOf, tyD, lstD, seqOf, ↓iLst_ap, ↓iR1_ap, ↓iR2_ap, ↓iSeq_ap, ↓iZ_ap, List.map_cons, List.map_nil, List.length_cons, List.length_nil, List.reduceReplicate, List.nil_append, List.cons_append, List.getElem?_cons_zero, List.getElem?_cons_succ, List.getElem?_nil, List.set_cons_zero, List.set_cons_succ, List.all_cons, List.all_nil, Bool.and_true, Bool.true_and, Bool.and_false, Bool.false_and, Bool.or_true, Bool.true_or, Bool.or_false, Bool.false_or, Bool.not_true, Bool.not_false, Bool.false_eq_true, if_true, if_false, ↓reduceIte, Option.map_some, Option.map_none, chk_pos, decide_eq_true_eq, flat, flat.flats, okP, okP.okPs, kit_NoneType_int, kit_NoneType_bool, kit_NoneType_str, kit_NoneType_tuple, kit_NoneType_list, kit_NoneType_dict, kit_bool_int, kit_bool_bool, kit_bool_str, kit_bool_tuple, kit_bool_list, kit_bool_dict, kit_int_int, kit_int_bool, kit_int_str, kit_int_tuple, kit_int_list, kit_int_dict, kit_str_int, kit_str_bool, kit_str_str, kit_str_tuple, kit_str_list, kit_str_dict, kit_list_int, kit_list_bool, kit_list_str, kit_list_tuple, kit_list_list, kit_list_dict, kit_tuple_int, kit_tuple_bool, kit_tuple_str, kit_tuple_tuple, kit_tuple_list, kit_tuple_dict, kit_dict_int, kit_dict_bool, kit_dict_str, kit_dict_tuple, kit_dict_list, kit_dict_dict, Nat.zero_add, Nat.reduceAdd, Nat.reduceLeDiff, Nat.reduceLT, Nat.reduceEqDiff, Nat.reduceMul, Nat.reduceSub, Nat.reducePow, Int.reduceAdd, Int.reduceSub, Int.reduceMul, Int.reduceNeg, Int.reducePow, Int.reduceLT, Int.reduceLE, Int.reduceEq, Int.reduceNe, Int.reduceToNat, beq_self_eq_true, Option.some.injEq, intsD, Nat.reduceBEq, decide_true, decide_false, ite_true, ite_false, atI_nat, atI_lit, atI_last, ixN_nat, ixN_lit, cut_nn, eqD_nn, eqD_ii, eqD_bb, eqD_ss, eqD_tt, eqD_ll, eqs_nn, eqs_cc, eqs_nc, eqs_cn, beq_str, beq_int, wipeE, lcOne_ap, ↓sTryK_ap, setO, ↓gPart_ap, ePart, eFind, eJoin, eSplit, ↓eM1_ap, ↓eLc_ap, ↓eJoined_ap, ↓jStr_ap, ↓jFmt_ap, ↓jNil_ap, ↓eDnew_ap, ↓eDic1_ap, scl, sgn, ↓gFind_ap, ↓gJoin_ap, ↓gSplitS_ap, ↓gTupOf_ap, ↓pIx_ap, ↓pVar_ap, ↓sApp_ap, ↓sClr_ap, ↓sRev_ap, ↓sSet_ap, cast_lit, ↓bind_ap, ↓toF_ap, ixD_l, ixD_t, ixD_r, ↓in_sgn, blsD_map, intsD_map, gMulS0, w1, b1, b2, numD, outN]
  case true.false =>
    have b1 : cutS (Txt.partition x stroke).1 none (some 1) = dash := of_decide_eq_true hb
    have b2 : ¬ (Txt.partition x stroke).2.1 = stroke := of_decide_eq_false hh
    have e : numOf x = match wholeOf (cutS (Txt.partition x stroke).1 (some 1) none) with
      | some t => if (t : Int) = 0 then none else some (0 - (t : Int), 1)
      | none => none := by
      unfold numOf nBot nFirst
      rw [hb, hh]
      simp only [Bool.false_eq_true, if_false, if_true, false_and, true_and]
      cases wholeOf (cutS (Txt.partition x stroke).1 (some 1) none) with
      | none => rfl
      | some t =>
        show (if t = 0 then _ else _) = if (t : Int) = 0 then _ else _
        by_cases h : t = 0
        · rw [if_pos h, if_pos (by omega)]
        · rw [if_neg h, if_neg (show ¬ (t : Int) = 0 by omega)]
          rfl
    rw [e]
    cases ht : wholeOf (cutS (Txt.partition x stroke).1 (some 1) none) with
    | none =>
      rw [ht] at w2
      simp (disch := walk_at "sz") only [↓run_0, ↓run_1, ↓run_2, ↓run_3, ↓run_4, ↓run_5, ↓run_6, eq_self, entryE, endR, ↓sSeq_ap, ↓sIf_ap, ↓sRet_ap, ↓sRetN_ap, ↓sDrop_ap, ↓sAsg_ap, ↓sNext_ap, ↓sBrk_ap, ↓sCnt_ap, ↓sNever_ap, ↓sRaise_ap, ↓sPar_ap, ↓sAug_ap, ↓sFor_ap, loop_nil, loop_cons, ↓bOf_ap, ↓bAnd_ap, ↓bOr_ap, ↓bNot_ap, ↓bYes_ap, ↓eVar_ap, ↓eFz_ap, ↓eMv_ap, look, ↓eC_ap, ↓eOp_ap, ↓eAnd_ap, ↓eOr_ap, ↓eNot_ap, ↓eNeg_ap, ↓eIf_ap, ↓eTup_ap, ↓eLst_ap, ↓eCall_ap, ↓eCB_ap, ↓eSl_ap, ↓oNo_ap, ↓oSome_ap, ↓eRevL_ap, ↓eChain_ap, ↓aNil_ap, ↓aCons_ap, ↓g2_ap, ↓gOr_ap, gAdd, gMul, gAdd0, gAddS0, gSub0, gDiv0, gMod0, gMul0, gPow0, gLt0, gLe0, gGt0, gGe0, gEq0, gNe0, gIs0, gNot0, gIn0, ↓gC_ap, gLen, lenD, gAbs, gInt, gStr, gSum, gAny, gAll, gMax, gMin, ↓gDivmod_ap, ↓gList_ap, ↓gTupL_ap, ↓gSorted_ap, gSl, gRevL, gIsi, ↓gIx_ap, kPart, ↓gCat_ap, ↓gRep_ap, ↓gN_ap, ↓gF_ap, ↓gT_ap, ↓gsNil_ap, ↓gsCons_ap, withK, stb', okItem, hasK, itemsOk, isNon, listOf, lstOf, intsOf, blsOf, tyD, lstD, seqOf, ↓iLst_ap, ↓iR1_ap, ↓iR2_ap, ↓iSeq_ap, ↓iZ_ap, List.map_cons, List.map_nil, List.length_cons, List.length_nil, List.reduceReplicate, List.nil_append, List.cons_append, List.getElem?_cons_zero, List.getElem?_cons_succ, List.getElem?_nil, List.set_cons_zero, List.set_cons_succ, List.all_cons, List.all_nil, Bool.and_true, Bool.true_and, Bool.and_false, Bool.false_and, Bool.or_true, Bool.true_or, Bool.or_false, Bool.false_or, Bool.not_true, Bool.not_false, Bool.false_eq_true, if_true, if_false, ↓reduceIte, Option.map_some, Option.map_none, chk_pos, decide_eq_true_eq, flat, flat.flats, okP, okP.okPs, kit_NoneType_int, kit_NoneType_bool, kit_NoneType_str, kit_NoneType_tuple, kit_NoneType_list, kit_NoneType_dict, kit_bool_int, kit_bool_bool, kit_bool_str, kit_bool_tuple, kit_bool_list, kit_bool_dict, kit_int_int, kit_int_bool, kit_int_str, kit_int_tuple, kit_int_list, kit_int_dict, kit_str_int, kit_str_bool, kit_str_str, kit_str_tuple, kit_str_list, kit_str_dict, kit_list_int, kit_list_bool, kit_list_str, kit_list_tuple, kit_list_list, kit_list_dict, kit_tuple_int, kit_tuple_bool, kit_tuple_str, kit_tuple_tuple, kit_tuple_list, kit_tuple_dict, kit_dict_int, kit_dict_bool, kit_dict_str, kit_dict_tuple, kit_dict_list, kit_dict_dict, Nat.zero_add, Nat.reduceAdd, Nat.reduceLeDiff, Nat.reduceLT, Nat.reduceEqDiff, Nat.reduceMul, Nat.reduceSub, Nat.reducePow, Int.reduceAdd, Int.reduceSub, Int.reduceMul, Int.reduceNeg, Int.reducePow, Int.reduceLT, Int.reduceLE, Int.reduceEq, Int.reduceNe, Int.reduceToNat, beq_self_eq_true, Option.some.injEq, intsD, Nat.reduceBEq, decide_true, decide_false, ite_true, ite_false, atI_nat, atI_lit, atI_last, ixN_nat, ixN_lit, cut_nn, eqD_nn, eqD_ii, eqD_bb, eqD_ss, eqD_tt, eqD_ll, eqs_nn, eqs_cc, eqs_nc, eqs_cn, beq_str, beq_int, wipeE, lcOne_ap, ↓sTryK_ap, setO, ↓gPart_ap, ePart, eFind, eJoin, eSplit, ↓eM1_ap, ↓eLc_ap, ↓eJoined_ap, ↓jStr_ap, ↓jFmt_ap, ↓jNil_ap, ↓eDnew_ap, ↓eDic1_ap, scl, sgn, ↓gFind_ap, ↓gJoin_ap, ↓gSplitS_ap, ↓gTupOf_ap, ↓pIx_ap, ↓pVar_ap, ↓sApp_ap, ↓sClr_ap, ↓sRev_ap, ↓sSet_ap, cast_lit, ↓bind_ap, ↓toF_ap, ixD_l, ixD_t, ixD_r, ↓in_sgn, blsD_map, intsD_map, gMulS0, w2, b1, b2, numD, outN]
    | some t =>
      rw [ht] at w2
      by_cases h : (t : Int) = 0 <;> simp (disch := walk_at "sz") only [↓run_0, ↓run_1, ↓run_2, ↓run_3, ↓run_4, ↓run_5, ↓run_6, eq_self, entryE, endR, ↓sSeq_ap, ↓sIf_ap, ↓sRet_ap, ↓sRetN_ap, ↓sDrop_ap, ↓sAsg_ap, ↓sNext_ap, ↓sBrk_ap, ↓sCnt_ap, ↓sNever_ap, ↓sRaise_ap, ↓sPar_ap, ↓sAug_ap, ↓sFor_ap, loop_nil, loop_cons, ↓bOf_ap, ↓bAnd_ap, ↓bOr_ap, ↓bNot_ap, ↓bYes_ap, ↓eVar_ap, ↓eFz_ap, ↓eMv_ap, look, ↓eC_ap, ↓eOp_ap, ↓eAnd_ap, ↓eOr_ap, ↓eNot_ap, ↓eNeg_ap, ↓eIf_ap, ↓eTup_ap, ↓eLst_ap, ↓eCall_ap, ↓eCB_ap, ↓eSl_ap, ↓oNo_ap, ↓oSome_ap, ↓eRevL_ap, ↓eChain_ap, ↓aNil_ap, ↓aCons_ap, ↓g2_ap, ↓gOr_ap, gAdd, gMul, gAdd0, gAddS0, gSub0, gDiv0, gMod0, gMul0, gPow0, gLt0, gLe0, gGt0, gGe0, gEq0, gNe0, gIs0, gNot0, gIn0, ↓gC_ap, gLen, lenD, gAbs, gInt, gStr, gSum, gAny, gAll, gMax, gMin, ↓gDivmod_ap, ↓gList_ap, ↓gTupL_ap, ↓gSorted_ap, gSl, gRevL, gIsi, ↓gIx_ap, kPart, ↓gCat_ap, ↓gRep_ap, ↓gN_ap, ↓gF_ap, ↓gT_ap, ↓gsNil_ap, ↓gsCons_ap, withK, stb', okItem, hasK, itemsOk, isNon, listOf, lstOf, intsOf, blsOf, tyD, lstD, seqOf, ↓iLst_ap, ↓iR1_ap, ↓iR2_ap, ↓iSeq_ap, ↓iZ_ap, List.map_cons, List.map_nil, List.length_cons, List.length_nil, List.reduceReplicate, List.nil_append, List.cons_append, List.getElem?_cons_zero, List.getElem?_cons_succ, List.getElem?_nil, List.set_cons_zero, List.set_cons_succ, List.all_cons, List.all_nil, Bool.and_true, Bool.true_and, Bool.and_false, Bool.false_and, Bool.or_true, Bool.true_or, Bool.or_false, Bool.false_or, Bool.not_true, Bool.not_false, Bool.false_eq_true, if_true, if_false, ↓reduceIte, Option.map_some, Option.map_none, chk_pos, decide_eq_true_eq, flat, flat.flats, okP, okP.okPs, kit_NoneType_int, kit_NoneType_bool, kit_NoneType_str, kit_NoneType_tuple, kit_NoneType_list, kit_NoneType_dict, kit_bool_int, kit_bool_bool, kit_bool_str, kit_bool_tuple, kit_bool_list, kit_bool_dict, kit_int_int, kit_int_bool, kit_int_str, kit_int_tuple, kit_int_list, kit_int_dict, kit_str_int, kit_str_bool, kit_str_str, kit_str_tuple, kit_str_list, kit_str_dict, kit_list_int, kit_list_bool, kit_list_str, kit_list_tuple, kit_list_list, kit_list_dict, kit_tuple_int, kit_tuple_bool, kit_tuple_str, kit_tuple_tuple, kit_tuple_list, kit_tuple_dict, kit_dict_int, kit_dict_bool, kit_dict_str, kit_dict_tuple, kit_dict_list, kit_dict_dict, Nat.zero_add, Nat.reduceAdd, Nat.reduceLeDiff, Nat.reduceLT, Nat.reduceEqDiff, Nat.reduceMul, Nat.reduceSub, Nat.reducePow, Int.reduceAdd, Int.reduceSub, Int.reduceMul, Int.reduceNeg, Int.reducePow, Int.reduceLT, Int.reduceLE, Int.reduceEq, Int.reduceNe, Int.reduceToNat, beq_self_eq_true, Option.some.injEq, intsD, Nat.reduceBEq, decide_true, decide_false, ite_true, ite_false, atI_nat, atI_lit, atI_last, ixN_nat, ixN_lit, cut_nn, eqD_nn, eqD_ii, eqD_bb, eqD_ss, eqD_tt, eqD_ll, eqs_nn, eqs_cc, eqs_nc, eqs_cn, beq_str, beq_int, wipeE, lcOne_ap, ↓sTryK_ap, setO, ↓gPart_ap, ePart, eFind, eJoin, eSplit, ↓eM1_ap, ↓eLc_ap, ↓eJoined_ap, ↓jStr_ap, ↓jFmt_ap, ↓jNil_ap, ↓eDnew_ap, ↓eDic1_ap, scl, sgn, ↓gFind_ap, ↓gJoin_ap, ↓gSplitS_ap, ↓gTupOf_ap, ↓pIx_ap, ↓pVar_ap, ↓sApp_ap, ↓sClr_ap, ↓sRev_ap, ↓sSet_ap, cast_lit, ↓bind_ap, ↓toF_ap, ixD_l, ixD_t, ixD_r, ↓in_sgn, blsD_map, intsD_map, gMulS0, w2, b1, b2, numD, outN, h]
  case false.true =>
    have b1 : ¬ cutS (Txt.partition x stroke).1 none (some 1) = dash := of_decide_eq_false hb
    have b2 : (Txt.partition x stroke).2.1 = stroke := of_decide_eq_true hh
    have e : numOf x = match wholeOf (Txt.partition x stroke).1, wholeOf (Txt.partition x stroke).2.2 with
      | some t, some b => if (b : Int) < 2 then none else if (Int.gcd t b : Int) = 1 then some ((t : Int), (b : Int)) else none
      | _, _ => none := by
      unfold numOf nBot nFirst
      rw [hb, hh]
      simp only [Bool.false_eq_true, if_false, if_true, false_and, true_and]
      cases wholeOf (Txt.partition x stroke).1 with
      | none => rfl
      | some t => cases wholeOf (Txt.partition x stroke).2.2 with
        | none => rfl
        | some b => exact num_ifs _
    rw [e]
    cases ht : wholeOf (Txt.partition x stroke).1 with
    | none =>
      rw [ht] at w1
      cases hu : wholeOf (Txt.partition x stroke).2.2 <;> rw [hu] at w3 <;> simp (disch := walk_at "sz") only [↓run_0, ↓run_1, ↓run_2, ↓run_3, ↓run_4, ↓run_5, ↓run_6, eq_self, entryE, endR, ↓sSeq_ap, ↓sIf_ap, ↓sRet_ap, ↓sRetN_ap, ↓sDrop_ap, ↓sAsg_ap, ↓sNext_ap, ↓sBrk_ap, ↓sCnt_ap, ↓sNever_ap, ↓sRaise_ap, ↓sPar_ap, ↓sAug_ap, ↓sFor_ap, loop_nil, loop_cons, ↓bOf_ap, ↓bAnd_ap, ↓bOr_ap, ↓bNot_ap, ↓bYes_ap, ↓eVar_ap, ↓eFz_ap, ↓eMv_ap, look, ↓eC_ap, ↓eOp_ap, ↓eAnd_ap, ↓eOr_ap, ↓eNot_ap, ↓eNeg_ap, ↓eIf_ap, ↓eTup_ap, ↓eLst_ap, ↓eCall_ap, ↓eCB_ap, ↓eSl_ap, ↓oNo_ap, ↓oSome_ap, ↓eRevL_ap, ↓eChain_ap, ↓aNil_ap, ↓aCons_ap, ↓g2_ap, ↓gOr_ap, gAdd, gMul, gAdd0, gAddS0, gSub0, gDiv0, gMod0, gMul0, gPow0, gLt0, gLe0, gGt0, gGe0, gEq0, gNe0, gIs0, gNot0, gIn0, ↓gC_ap, gLen, lenD, gAbs, gInt, gStr, gSum, gAny, gAll, gMax, gMin, ↓gDivmod_ap, ↓gList_ap, ↓gTupL_ap, ↓gSorted_ap, gSl, gRevL, gIsi, ↓gIx_ap, kPart, ↓gCat_ap, ↓gRep_ap, ↓gN_ap, ↓gF_ap, ↓gT_ap, ↓gsNil_ap, ↓gsCons_ap, withK, stb', okItem, hasK, itemsOk, isNon, listOf, lstOf, intsOf, blsOf, tyD, lstD, seqOf, ↓iLst_ap, ↓iR1_ap, ↓iR2_ap, ↓iSeq_ap, ↓iZ_ap, List.map_cons, List.map_nil, List.length_cons, List.length_nil, List.reduceReplicate, List.nil_append, List.cons_append, List.getElem?_cons_zero, List.getElem?_cons_succ, List.getElem?_nil, List.set_cons_zero, List.set_cons_succ, List.all_cons, List.all_nil, Bool.and_true, Bool.true_and, Bool.and_false, Bool.false_and, Bool.or_true, Bool.true_or, Bool.or_false, Bool.false_or, Bool.not_true, Bool.not_false, Bool.false_eq_true, if_true, if_false, ↓reduceIte, Option.map_some, Option.map_none, chk_pos, decide_eq_true_eq, flat, flat.flats, okP, okP.okPs, kit_NoneType_int, kit_NoneType_bool, kit_NoneType_str, kit_NoneType_tuple, kit_NoneType_list, kit_NoneType_dict, kit_bool_int, kit_bool_bool, kit_bool_str, kit_bool_tuple, kit_bool_list, kit_bool_dict, kit_int_int, kit_int_bool, kit_int_str, kit_int_tuple, kit_int_list, kit_int_dict, kit_str_int, kit_str_bool, kit_str_str, kit_str_tuple, kit_str_list, kit_str_dict, kit_list_int, kit_list_bool, kit_list_str, kit_list_tuple, kit_list_list, kit_list_dict, kit_tuple_int, kit_tuple_bool, kit_tuple_str, kit_tuple_tuple, kit_tuple_list, kit_tuple_dict, kit_dict_int, kit_dict_bool, kit_dict_str, kit_dict_tuple, kit_dict_list, kit_dict_dict, Nat.zero_add, Nat.reduceAdd, Nat.reduceLeDiff, Nat.reduceLT, Nat.reduceEqDiff, Nat.reduceMul, Nat.reduceSub, Nat.reducePow, Int.reduceAdd, Int.reduceSub, Int.reduceMul, Int.reduceNeg, Int.reducePow, Int.reduceLT, Int.reduceLE, Int.reduceEq, Int.reduceNe, Int.reduceToNat, beq_self_eq_true, Option.some.injEq, intsD, Nat.reduceBEq, decide_true, decide_false, ite_true, ite_false, atI_nat, atI_lit, atI_last, ixN_nat, ixN_lit, cut_nn, eqD_nn, eqD_ii, eqD_bb, eqD_ss, eqD_tt, eqD_ll, eqs_nn, eqs_cc, eqs_nc, eqs_cn, beq_str, beq_int, wipeE, lcOne_ap, ↓sTryK_ap, setO, ↓gPart_ap, ePart, eFind, eJoin, eSplit, ↓eM1_ap, ↓eLc_ap, ↓eJoined_ap, ↓jStr_ap, ↓jFmt_ap, ↓jNil_ap, ↓eDnew_ap, ↓eDic1_ap, scl, sgn, ↓gFind_ap, ↓gJoin_ap, ↓gSplitS_ap, ↓gTupOf_ap, ↓pIx_ap, ↓pVar_ap, ↓sApp_ap, ↓sClr_ap, ↓sRev_ap, ↓sSet_ap, cast_lit, ↓bind_ap, ↓toF_ap, ixD_l, ixD_t, ixD_r, ↓in_sgn, blsD_map, intsD_map, gMulS0, w1, w3, b1, b2, numD, outN]
    | some t =>
      rw [ht] at w1
      cases hu : wholeOf (Txt.partition x stroke).2.2 with
      | none =>
        rw [hu] at w3
        simp (disch := walk_at "sz") only [↓run_0, ↓run_1, ↓run_2, ↓run_3, ↓run_4, ↓run_5, ↓run_6, eq_self, entryE, endR, ↓sSeq_ap, ↓sIf_ap, ↓sRet_ap, ↓sRetN_ap, ↓sDrop_ap, ↓sAsg_ap, ↓sNext_ap, ↓sBrk_ap, ↓sCnt_ap, ↓sNever_ap, ↓sRaise_ap, ↓sPar_ap, ↓sAug_ap, ↓sFor_ap, loop_nil, loop_cons, ↓bOf_ap, ↓bAnd_ap, ↓bOr_ap, ↓bNot_ap, ↓bYes_ap, ↓eVar_ap, ↓eFz_ap, ↓eMv_ap, look, ↓eC_ap, ↓eOp_ap, ↓eAnd_ap, ↓eOr_ap, ↓eNot_ap, ↓eNeg_ap, ↓eIf_ap, ↓eTup_ap, ↓eLst_ap, ↓eCall_ap, ↓eCB_ap, ↓eSl_ap, ↓oNo_ap, ↓oSome_ap, ↓eRevL_ap, ↓eChain_ap, ↓aNil_ap, ↓aCons_ap, ↓g2_ap, ↓gOr_ap, gAdd, gMul, gAdd0, gAddS0, gSub0, gDiv0, gMod0, gMul0, gPow0, gLt0, gLe0, gGt0, gGe0, gEq0, gNe0, gIs0, gNot0, gIn0, ↓gC_ap, gLen, lenD, gAbs, gInt, gStr, gSum, gAny, gAll, gMax, gMin, ↓gDivmod_ap, ↓gList_ap, ↓gTupL_ap, ↓gSorted_ap, gSl, gRevL, gIsi, ↓gIx_ap, kPart, ↓gCat_ap, ↓gRep_ap, ↓gN_ap, ↓gF_ap, ↓gT_ap, ↓gsNil_ap, ↓gsCons_ap, withK, stb', okItem, hasK, itemsOk, isNon, listOf, lstOf, intsOf, blsOf, tyD, lstD, seqOf, ↓iLst_ap, ↓iR1_ap, ↓iR2_ap, ↓iSeq_ap, ↓iZ_ap, List.map_cons, List.map_nil, List.length_cons, List.length_nil, List.reduceReplicate, List.nil_append, List.cons_append, List.getElem?_cons_zero, List.getElem?_cons_succ, List.getElem?_nil, List.set_cons_zero, List.set_cons_succ, List.all_cons, List.all_nil, Bool.and_true, Bool.true_and, Bool.and_false, Bool.false_and, Bool.or_true, Bool.true_or, Bool.or_false, Bool.false_or, Bool.not_true, Bool.not_false, Bool.false_eq_true, if_true, if_false, ↓reduceIte, Option.map_some, Option.map_none, chk_pos, decide_eq_true_eq, flat, flat.flats, okP, okP.okPs, kit_NoneType_int, kit_NoneType_bool, kit_NoneType_str, kit_NoneType_tuple, kit_NoneType_list, kit_NoneType_dict, kit_bool_int, kit_bool_bool, kit_bool_str, kit_bool_tuple, kit_bool_list, kit_bool_dict, kit_int_int, kit_int_bool, kit_int_str, kit_int_tuple, kit_int_list, kit_int_dict, kit_str_int, kit_str_bool, kit_str_str, kit_str_tuple, kit_str_list, kit_str_dict, kit_list_int, kit_list_bool, kit_list_str, kit_list_tuple, kit_list_list, kit_list_dict, kit_tuple_int, kit_tuple_bool, kit_tuple_str, kit_tuple_tuple, kit_tuple_list, kit_tuple_dict, kit_dict_int, kit_dict_bool, kit_dict_str, kit_dict_tuple, kit_dict_list, kit_dict_dict, Nat.zero_add, Nat.reduceAdd, Nat.reduceLeDiff, Nat.reduceLT, Nat.reduceEqDiff, Nat.reduceMul, Nat.reduceSub, Nat.reducePow, Int.reduceAdd, Int.reduceSub, Int.reduceMul, Int.reduceNeg, Int.reducePow, Int.reduceLT, Int.reduceLE, Int.reduceEq, Int.reduceNe, Int.reduceToNat, beq_self_eq_true, Option.some.injEq, intsD, Nat.reduceBEq, decide_true, decide_false, ite_true, ite_false, atI_nat, atI_lit, atI_last, ixN_nat, ixN_lit, cut_nn, eqD_nn, eqD_ii, eqD_bb, eqD_ss, eqD_tt, eqD_ll, eqs_nn, eqs_cc, eqs_nc, eqs_cn, beq_str, beq_int, wipeE, lcOne_ap, ↓sTryK_ap, setO, ↓gPart_ap, ePart, eFind, eJoin, eSplit, ↓eM1_ap, ↓eLc_ap, ↓eJoined_ap, ↓jStr_ap, ↓jFmt_ap, ↓jNil_ap, ↓eDnew_ap, ↓eDic1_ap, scl, sgn, ↓gFind_ap, ↓gJoin_ap, ↓gSplitS_ap, ↓gTupOf_ap, ↓pIx_ap, ↓pVar_ap, ↓sApp_ap, ↓sClr_ap, ↓sRev_ap, ↓sSet_ap, cast_lit, ↓bind_ap, ↓toF_ap, ixD_l, ixD_t, ixD_r, ↓in_sgn, blsD_map, intsD_map, gMulS0, w1, w3, b1, b2, numD, outN]
      | some b =>
        rw [hu] at w3
        by_cases h : (b : Int) < 2
        · simp (disch := walk_at "sz") only [↓run_0, ↓run_1, ↓run_2, ↓run_3, ↓run_4, ↓run_5, ↓run_6, eq_self, entryE, endR, ↓sSeq_ap, ↓sIf_ap, ↓sRet_ap, ↓sRetN_ap, ↓sDrop_ap, ↓sAsg_ap, ↓sNext_ap, ↓sBrk_ap, ↓sCnt_ap, ↓sNever_ap, ↓sRaise_ap, ↓sPar_ap, ↓sAug_ap, ↓sFor_ap, loop_nil, loop_cons, ↓bOf_ap, ↓bAnd_ap, ↓bOr_ap, ↓bNot_ap, ↓bYes_ap, ↓eVar_ap, ↓eFz_ap, ↓eMv_ap, look, ↓eC_ap, ↓eOp_ap, ↓eAnd_ap, ↓eOr_ap, ↓eNot_ap, ↓eNeg_ap, ↓eIf_ap, ↓eTup_ap, ↓eLst_ap, ↓eCall_ap, ↓eCB_ap, ↓eSl_ap, ↓oNo_ap, ↓oSome_ap, ↓eRevL_ap, ↓eChain_ap, ↓aNil_ap, ↓aCons_ap, ↓g2_ap, ↓gOr_ap, gAdd, gMul, gAdd0, gAddS0, gSub0, gDiv0, gMod0, gMul0, gPow0, gLt0, gLe0, gGt0, gGe0, gEq0, gNe0, gIs0, gNot0, gIn0, ↓gC_ap, gLen, lenD, gAbs, gInt, gStr, gSum, gAny, gAll, gMax, gMin, ↓gDivmod_ap, ↓gList_ap, ↓gTupL_ap, ↓gSorted_ap, gSl, gRevL, gIsi, ↓gIx_ap, kPart, ↓gCat_ap, ↓gRep_ap, ↓gN_ap, ↓gF_ap, ↓gT_ap, ↓gsNil_ap, ↓gsCons_ap, withK, stb', okItem, hasK, itemsOk, isNon, listOf, lstOf, intsOf, blsOf, tyD, lstD, seqOf, ↓iLst_ap, ↓iR1_ap, ↓iR2_ap, ↓iSeq_ap, ↓iZ_ap, List.map_cons, List.map_nil, List.length_cons, List.length_nil, List.reduceReplicate, List.nil_append, List.cons_append, List.getElem?_cons_zero, List.getElem?_cons_succ, List.getElem?_nil, List.set_cons_zero, List.set_cons_succ, List.all_cons, List.all_nil, Bool.and_true, Bool.true_and, Bool.and_false, Bool.false_and, Bool.or_true, Bool.true_or, Bool.or_false, Bool.false_or, Bool.not_true, Bool.not_false, Bool.false_eq_true, if_true, if_false, ↓reduceIte, Option.map_some, Option.map_none, chk_pos, decide_eq_true_eq, flat, flat.flats, okP, okP.okPs, kit_NoneType_int, kit_NoneType_bool, kit_NoneType_str, kit_NoneType_tuple, kit_NoneType_list, kit_NoneType_dict, kit_bool_int, kit_bool_bool, kit_bool_str, kit_bool_tuple, kit_bool_list, kit_bool_dict, kit_int_int, kit_int_bool, kit_int_str, kit_int_tuple, kit_int_list, kit_int_dict, kit_str_int, kit_str_bool, kit_str_str, kit_str_tuple, kit_str_list, kit_str_dict, kit_list_int, kit_list_bool, kit_list_str, kit_list_tuple, kit_list_list, kit_list_dict, kit_tuple_int, kit_tuple_bool, kit_tuple_str, kit_tuple_tuple, kit_tuple_list, kit_tuple_dict, kit_dict_int, kit_dict_bool, kit_dict_str, kit_dict_tuple, kit_dict_list, kit_dict_dict, Nat.zero_add, Nat.reduceAdd, Nat.reduceLeDiff, Nat.reduceLT, Nat.reduceEqDiff, Nat.reduceMul, Nat.reduceSub, Nat.reducePow, Int.reduceAdd, Int.reduceSub, Int.reduceMul, Int.reduceNeg, Int.reducePow, Int.reduceLT, Int.reduceLE, Int.reduceEq, Int.reduceNe, Int.reduceToNat, beq_self_eq_true, Option.some.injEq, intsD, Nat.reduceBEq, decide_true, decide_false, ite_true, ite_false, atI_nat, atI_lit, atI_last, ixN_nat, ixN_lit, cut_nn, eqD_nn, eqD_ii, eqD_bb, eqD_ss, eqD_tt, eqD_ll, eqs_nn, eqs_cc, eqs_nc, eqs_cn, beq_str, beq_int, wipeE, lcOne_ap, ↓sTryK_ap, setO, ↓gPart_ap, ePart, eFind, eJoin, eSplit, ↓eM1_ap, ↓eLc_ap, ↓eJoined_ap, ↓jStr_ap, ↓jFmt_ap, ↓jNil_ap, ↓eDnew_ap, ↓eDic1_ap, scl, sgn, ↓gFind_ap, ↓gJoin_ap, ↓gSplitS_ap, ↓gTupOf_ap, ↓pIx_ap, ↓pVar_ap, ↓sApp_ap, ↓sClr_ap, ↓sRev_ap, ↓sSet_ap, cast_lit, ↓bind_ap, ↓toF_ap, ixD_l, ixD_t, ixD_r, ↓in_sgn, blsD_map, intsD_map, gMulS0, w1, w3, b1, b2, numD, outN, h]
        · by_cases h2 : (Int.gcd t b : Int) = 1 <;> simp (disch := walk_at "sz") only [↓run_0, ↓run_1, ↓run_2, ↓run_3, ↓run_4, ↓run_5, ↓run_6, eq_self, entryE, endR, ↓sSeq_ap, ↓sIf_ap, ↓sRet_ap, ↓sRetN_ap, ↓sDrop_ap, ↓sAsg_ap, ↓sNext_ap, ↓sBrk_ap, ↓sCnt_ap, ↓sNever_ap, ↓sRaise_ap, ↓sPar_ap, ↓sAug_ap, ↓sFor_ap, loop_nil, loop_cons, ↓bOf_ap, ↓bAnd_ap, ↓bOr_ap, ↓bNot_ap, ↓bYes_ap, ↓eVar_ap, ↓eFz_ap, ↓eMv_ap, look, ↓eC_ap, ↓eOp_ap, ↓eAnd_ap, ↓eOr_ap, ↓eNot_ap, ↓eNeg_ap, ↓eIf_ap, ↓eTup_ap, ↓eLst_ap, ↓eCall_ap, ↓eCB_ap, ↓eSl_ap, ↓oNo_ap, ↓oSome_ap, ↓eRevL_ap, ↓eChain_ap, ↓aNil_ap, ↓aCons_ap, ↓g2_ap, ↓gOr_ap, gAdd, gMul, gAdd0, gAddS0, gSub0, gDiv0, gMod0, gMul0, gPow0, gLt0, gLe0, gGt0, gGe0, gEq0, gNe0, gIs0, gNot0, gIn0, ↓gC_ap, gLen, lenD, gAbs, gInt, gStr, gSum, gAny, gAll, gMax, gMin, ↓gDivmod_ap, ↓gList_ap, ↓gTupL_ap, ↓gSorted_ap, gSl, gRevL, gIsi, ↓gIx_ap, kPart, ↓gCat_ap, ↓gRep_ap, ↓gN_ap, ↓gF_ap, ↓gT_ap, ↓gsNil_ap, ↓gsCons_ap, withK, stb', okItem, hasK, itemsOk, isNon, listOf, lstOf, intsOf, blsOf, tyD, lstD, seqOf, ↓iLst_ap, ↓iR1_ap, ↓iR2_ap, ↓iSeq_ap, ↓iZ_ap, List.map_cons, List.map_nil, List.length_cons, List.length_nil, List.reduceReplicate, List.nil_append, List.cons_append, List.getElem?_cons_zero, List.getElem?_cons_succ, List.getElem?_nil, List.set_cons_zero, List.set_cons_succ, List.all_cons, List.all_nil, Bool.and_true, Bool.true_and, Bool.and_false, Bool.false_and, Bool.or_true, Bool.true_or, Bool.or_false, Bool.false_or, Bool.not_true, Bool.not_false, Bool.false_eq_true, if_true, if_false, ↓reduceIte, Option.map_some, Option.map_none, chk_pos, decide_eq_true_eq, flat, flat.flats, okP, okP.okPs, kit_NoneType_int, kit_NoneType_bool, kit_NoneType_str, kit_NoneType_tuple, kit_NoneType_list, kit_NoneType_dict, kit_bool_int, kit_bool_bool, kit_bool_str, kit_bool_tuple, kit_bool_list, kit_bool_dict, kit_int_int, kit_int_bool, kit_int_str, kit_int_tuple, kit_int_list, kit_int_dict, kit_str_int, kit_str_bool, kit_str_str, kit_str_tuple, kit_str_list, kit_str_dict, kit_list_int, kit_list_bool, kit_list_str, kit_list_tuple, kit_list_list, kit_list_dict, kit_tuple_int, kit_tuple_bool, kit_tuple_str, kit_tuple_tuple, kit_tuple_list, kit_tuple_dict, kit_dict_int, kit_dict_bool, kit_dict_str, kit_dict_tuple, kit_dict_list, kit_dict_dict, Nat.zero_add, Nat.reduceAdd, Nat.reduceLeDiff, Nat.reduceLT, Nat.reduceEqDiff, Nat.reduceMul, Nat.reduceSub, Nat.reducePow, Int.reduceAdd, Int.reduceSub, Int.reduceMul, Int.reduceNeg, Int.reducePow, Int.reduceLT, Int.reduceLE, Int.reduceEq, Int.reduceNe, Int.reduceToNat, beq_self_eq_true, Option.some.injEq, intsD, Nat.reduceBEq, decide_true, decide_false, ite_true, ite_false, atI_nat, atI_lit, atI_last, ixN_nat, ixN_lit, cut_nn, eqD_nn, eqD_ii, eqD_bb, eqD_ss, eqD_tt, eqD_ll, eqs_nn, eqs_cc, eqs_nc, eqs_cn, beq_str, beq_int, wipeE, lcOne_ap, ↓sTryK_ap, setO, ↓gPart_ap, ePart, eFind, eJoin, eSplit, ↓eM1_ap, ↓eLc_ap, ↓eJoined_ap, ↓jStr_ap, ↓jFmt_ap, ↓jNil_ap, ↓eDnew_ap, ↓eDic1_ap, scl, sgn, ↓gFind_ap, ↓gJoin_ap, ↓gSplitS_ap, ↓gTupOf_ap, ↓pIx_ap, ↓pVar_ap, ↓sApp_ap, ↓sClr_ap, ↓sRev_ap, ↓sSet_ap, cast_lit, ↓bind_ap, ↓toF_ap, ixD_l, ixD_t, ixD_r, ↓in_sgn, blsD_map, intsD_map, gMulS0, w1, w3, b1, b2, numD, outN, h, h2, q_divisor]
  case true.true =>
    have b1 : cutS (Txt.partition x stroke).1 none (some 1) = dash := of_decide_eq_true hb
    have b2 : (Txt.partition x stroke).2.1 = stroke := of_decide_eq_true hh
    have e : numOf x = match wholeOf (cutS (Txt.partition x stroke).1 (some 1) none), wholeOf (Txt.partition x stroke).2.2 with
      | some t, some b => if (t : Int) = 0 then none else if (b : Int) < 2 then none else if (Int.gcd t b : Int) = 1 then some (0 - (t : Int), (b : Int)) else none
      | _, _ => none := by
      unfold numOf nBot nFirst
      rw [hb, hh]
      simp only [Bool.false_eq_true, if_false, if_true, false_and, true_and]
      cases wholeOf (cutS (Txt.partition x stroke).1 (some 1) none) with
      | none => rfl
      | some t => cases wholeOf (Txt.partition x stroke).2.2 with
        | none => rfl
        | some b =>
          show (if t = 0 then _ else _) = if (t : Int) = 0 then _ else _
          by_cases h : t = 0
          · rw [if_pos h, if_pos (by omega)]
          · rw [if_neg h, if_neg (show ¬ (t : Int) = 0 by omega)]
            exact num_ifs _
    rw [e]
    cases ht : wholeOf (cutS (Txt.partition x stroke).1 (some 1) none) with
    | none =>
      rw [ht] at w2
      cases hu : wholeOf (Txt.partition x stroke).2.2 <;> rw [hu] at w3 <;> simp (disch := walk_at "sz") only [↓run_0, ↓run_1, ↓run_2, ↓run_3, ↓run_4, ↓run_5, ↓run_6, eq_self, entryE, endR, ↓sSeq_ap, ↓sIf_ap, ↓sRet_ap, ↓sRetN_ap, ↓sDrop_ap, ↓sAsg_ap, ↓sNext_ap, ↓sBrk_ap, ↓sCnt_ap, ↓sNever_ap, ↓sRaise_ap, ↓sPar_ap, ↓sAug_ap, ↓sFor_ap, loop_nil, loop_cons, ↓bOf_ap, ↓bAnd_ap, ↓bOr_ap, ↓bNot_ap, ↓bYes_ap, ↓eVar_ap, ↓eFz_ap, ↓eMv_ap, look, ↓eC_ap, ↓eOp_ap, ↓eAnd_ap, ↓eOr_ap, ↓eNot_ap, ↓eNeg_ap, ↓eIf_ap, ↓eTup_ap, ↓eLst_ap, ↓eCall_ap, ↓eCB_ap, ↓eSl_ap, ↓oNo_ap, ↓oSome_ap, ↓eRevL_ap, ↓eChain_ap, ↓aNil_ap, ↓aCons_ap, ↓g2_ap, ↓gOr_ap, gAdd, gMul, gAdd0, gAddS0, gSub0, gDiv0, gMod0, gMul0, gPow0, gLt0, gLe0, gGt0, gGe0, gEq0, gNe0, gIs0, gNot0, gIn0, ↓gC_ap, gLen, lenD, gAbs, gInt, gStr, gSum, gAny, gAll, gMax, gMin, ↓gDivmod_ap, ↓gList_ap, ↓gTupL_ap, ↓gSorted_ap, gSl, gRevL, gIsi, ↓gIx_ap, kPart, ↓gCat_ap, ↓gRep_ap, ↓gN_ap, ↓gF_ap, ↓gT_ap, ↓gsNil_ap, ↓gsCons_ap, withK, stb', okItem, hasK, itemsOk, isNon, listOf, lstOf, intsOf, blsOf, tyD, lstD, seqOf, ↓iLst_ap, ↓iR1_ap, ↓iR2_ap, ↓iSeq_ap, ↓iZ_ap, List.map_cons, List.map_nil, List.length_cons, List.length_nil, List.reduceReplicate, List.nil_append, List.cons_append, List.getElem?_cons_zero, List.getElem?_cons_succ, List.getElem?_nil, List.set_cons_zero, List.set_cons_succ, List.all_cons, List.all_nil, Bool.and_true, Bool.true_and, Bool.and_false, Bool.false_and, Bool.or_true, Bool.true_or, Bool.or_false, Bool.false_or, Bool.not_true, Bool.not_false, Bool.false_eq_true, if_true, if_false, ↓reduceIte, Option.map_some, Option.map_none, chk_pos, decide_eq_true_eq, flat, flat.flats, okP, okP.okPs, kit_NoneType_int, kit_NoneType_bool, kit_NoneType_str, kit_NoneType_tuple, kit_NoneType_list, kit_NoneType_dict, kit_bool_int, kit_bool_bool, kit_bool_str, kit_bool_tuple, kit_bool_list, kit_bool_dict, kit_int_int, kit_int_bool, kit_int_str, kit_int_tuple, kit_int_list, kit_int_dict, kit_str_int, kit_str_bool, kit_str_str, kit_str_tuple, kit_str_list, kit_str_dict, kit_list_int, kit_list_bool, kit_list_str, kit_list_tuple, kit_list_list, kit_list_dict, kit_tuple_int, kit_tuple_bool, kit_tuple_str, kit_tuple_tuple, kit_tuple_list, kit_tuple_dict, kit_dict_int, kit_dict_bool, kit_dict_str, kit_dict_tuple, kit_dict_list, kit_dict_dict, Nat.zero_add, Nat.reduceAdd, Nat.reduceLeDiff, Nat.reduceLT, Nat.reduceEqDiff, Nat.reduceMul, Nat.reduceSub, Nat.reducePow, Int.reduceAdd, Int.reduceSub, Int.reduceMul, Int.reduceNeg, Int.reducePow, Int.reduceLT, Int.reduceLE, Int.reduceEq, Int.reduceNe, Int.reduceToNat, beq_self_eq_true, Option.some.injEq, intsD, Nat.reduceBEq, decide_true, decide_false, ite_true, ite_false, atI_nat, atI_lit, atI_last, ixN_nat, ixN_lit, cut_nn, eqD_nn, eqD_ii, eqD_bb, eqD_ss, eqD_tt, eqD_ll, eqs_nn, eqs_cc, eqs_nc, eqs_cn, beq_str, beq_int, wipeE, lcOne_ap, ↓sTryK_ap, setO, ↓gPart_ap, ePart, eFind, eJoin, eSplit, ↓eM1_ap, ↓eLc_ap, ↓eJoined_ap, ↓jStr_ap, ↓jFmt_ap, ↓jNil_ap, ↓eDnew_ap, ↓eDic1_ap, scl, sgn, ↓gFind_ap, ↓gJoin_ap, ↓gSplitS_ap, ↓gTupOf_ap, ↓pIx_ap, ↓pVar_ap, ↓sApp_ap, ↓sClr_ap, ↓sRev_ap, ↓sSet_ap, cast_lit, ↓bind_ap, ↓toF_ap, ixD_l, ixD_t, ixD_r, ↓in_sgn, blsD_map, intsD_map, gMulS0, w2, w3, b1, b2, numD, outN]
    | some t =>
      rw [ht] at w2
      cases hu : wholeOf (Txt.partition x stroke).2.2 with
      | none =>
        rw [hu] at w3
        simp (disch := walk_at "sz") only [↓run_0, ↓run_1, ↓run_2, ↓run_3, ↓run_4, ↓run_5, ↓run_6, eq_self, entryE, endR, ↓sSeq_ap, ↓sIf_ap, ↓sRet_ap, ↓sRetN_ap, ↓sDrop_ap, ↓sAsg_ap, ↓sNext_ap, ↓sBrk_ap, ↓sCnt_ap, ↓sNever_ap, ↓sRaise_ap, ↓sPar_ap, ↓sAug_ap, ↓sFor_ap, loop_nil, loop_cons, ↓bOf_ap, ↓bAnd_ap, ↓bOr_ap, ↓bNot_ap, ↓bYes_ap, ↓eVar_ap, ↓eFz_ap, ↓eMv_ap, look, ↓eC_ap, ↓eOp_ap, ↓eAnd_ap, ↓eOr_ap, ↓eNot_ap, ↓eNeg_ap, ↓eIf_ap, ↓eTup_ap, ↓eLst_ap, ↓eCall_ap, ↓eCB_ap, ↓eSl_ap, ↓oNo_ap, ↓oSome_ap, ↓eRevL_ap, ↓eChain_ap, ↓aNil_ap, ↓aCons_ap, ↓g2_ap, ↓gOr_ap, gAdd, gMul, gAdd0, gAddS0, gSub0, gDiv0, gMod0, gMul0, gPow0, gLt0, gLe0, gGt0, gGe0, gEq0, gNe0, gIs0, gNot0, gIn0, ↓gC_ap, gLen, lenD, gAbs, gInt, gStr, gSum, gAny, gAll, gMax, gMin, ↓gDivmod_ap, ↓gList_ap, ↓gTupL_ap, ↓gSorted_ap, gSl, gRevL, gIsi, ↓gIx_ap, kPart, ↓gCat_ap, ↓gRep_ap, ↓gN_ap, ↓gF_ap, ↓gT_ap, ↓gsNil_ap, ↓gsCons_ap, withK, stb', okItem, hasK, itemsOk, isNon, listOf, lstOf, intsOf, blsOf, tyD, lstD, seqOf, ↓iLst_ap, ↓iR1_ap, ↓iR2_ap, ↓iSeq_ap, ↓iZ_ap, List.map_cons, List.map_nil, List.length_cons, List.length_nil, List.reduceReplicate, List.nil_append, List.cons_append, List.getElem?_cons_zero, List.getElem?_cons_succ, List.getElem?_nil, List.set_cons_zero, List.set_cons_succ, List.all_cons, List.all_nil, Bool.and_true, Bool.true_and, Bool.and_false, Bool.false_and, Bool.or_true, Bool.true_or, Bool.or_false, Bool.false_or, Bool.not_true, Bool.not_false, Bool.false_eq_true, if_true, if_false, ↓reduceIte, Option.map_some, Option.map_none, chk_pos, decide_eq_true_eq, flat, flat.flats, okP, okP.okPs, kit_NoneType_int, kit_NoneType_bool, kit_NoneType_str, kit_NoneType_tuple, kit_NoneType_list, kit_NoneType_dict, kit_bool_int, kit_bool_bool, kit_bool_str, kit_bool_tuple, kit_bool_list, kit_bool_dict, kit_int_int, kit_int_bool, kit_int_str, kit_int_tuple, kit_int_list, kit_int_dict, kit_str_int, kit_str_bool, kit_str_str, kit_str_tuple, kit_str_list, kit_str_dict, kit_list_int, kit_list_bool, kit_list_str, kit_list_tuple, kit_list_list, kit_list_dict, kit_tuple_int, kit_tuple_bool, kit_tuple_str, kit_tuple_tuple, kit_tuple_list, kit_tuple_dict, kit_dict_int, kit_dict_bool, kit_dict_str, kit_dict_tuple, kit_dict_list, kit_dict_dict, Nat.zero_add, Nat.reduceAdd, Nat.reduceLeDiff, Nat.reduceLT, Nat.reduceEqDiff, Nat.reduceMul, Nat.reduceSub, Nat.reducePow, Int.reduceAdd, Int.reduceSub, Int.reduceMul, Int.reduceNeg, Int.reducePow, Int.reduceLT, Int.reduceLE, Int.reduceEq, Int.reduceNe, Int.reduceToNat, beq_self_eq_true, Option.some.injEq, intsD, Nat.reduceBEq, decide_true, decide_false, ite_true, ite_false, atI_nat, atI_lit, atI_last, ixN_nat, ixN_lit, cut_nn, eqD_nn, eqD_ii, eqD_bb, eqD_ss, eqD_tt, eqD_ll, eqs_nn, eqs_cc, eqs_nc, eqs_cn, beq_str, beq_int, wipeE, lcOne_ap, ↓sTryK_ap, setO, ↓gPart_ap, ePart, eFind, eJoin, eSplit, ↓eM1_ap, ↓eLc_ap, ↓eJoined_ap, ↓jStr_ap, ↓jFmt_ap, ↓jNil_ap, ↓eDnew_ap, ↓eDic1_ap, scl, sgn, ↓gFind_ap, ↓gJoin_ap, ↓gSplitS_ap, ↓gTupOf_ap, ↓pIx_ap, ↓pVar_ap, ↓sApp_ap, ↓sClr_ap, ↓sRev_ap, ↓sSet_ap, cast_lit, ↓bind_ap, ↓toF_ap, ixD_l, ixD_t, ixD_r, ↓in_sgn, blsD_map, intsD_map, gMulS0, w2, w3, b1, b2, numD, outN]
      | some b =>
        rw [hu] at w3
        by_cases h0 : (t : Int) = 0
        · simp (disch := walk_at "sz") only [↓run_0, ↓run_1, ↓run_2, ↓run_3, ↓run_4, ↓run_5, ↓run_6, eq_self, entryE, endR, ↓sSeq_ap, ↓sIf_ap, ↓sRet_ap, ↓sRetN_ap, ↓sDrop_ap, ↓sAsg_ap, ↓sNext_ap, ↓sBrk_ap, ↓sCnt_ap, ↓sNever_ap, ↓sRaise_ap, ↓sPar_ap, ↓sAug_ap, ↓sFor_ap, loop_nil, loop_cons, ↓bOf_ap, ↓bAnd_ap, ↓bOr_ap, ↓bNot_ap, ↓bYes_ap, ↓eVar_ap, ↓eFz_ap, ↓eMv_ap, look, ↓eC_ap, ↓eOp_ap, ↓eAnd_ap, ↓eOr_ap, ↓eNot_ap, ↓eNeg_ap, ↓eIf_ap, ↓eTup_ap, ↓eLst_ap, ↓eCall_ap, ↓eCB_ap, ↓eSl_ap, ↓oNo_ap, ↓oSome_ap, ↓eRevL_ap, ↓eChain_ap, ↓aNil_ap, ↓aCons_ap, ↓g2_ap, ↓gOr_ap, gAdd, gMul, gAdd0, gAddS0, gSub0, gDiv0, gMod0, gMul0, gPow0, gLt0, gLe0, gGt0, gGe0, gEq0, gNe0, gIs0, gNot0, gIn0, ↓gC_ap, gLen, lenD, gAbs, gInt, gStr, gSum, gAny, gAll, gMax, gMin, ↓gDivmod_ap, ↓gList_ap, ↓gTupL_ap, ↓gSorted_ap, gSl, gRevL, gIsi, ↓gIx_ap, kPart, ↓gCat_ap, ↓gRep_ap, ↓gN_ap, ↓gF_ap, ↓gT_ap, ↓gsNil_ap, ↓gsCons_ap, withK, stb', okItem, hasK, itemsOk, isNon, listOf, lstOf, intsOf, blsOf, tyD, lstD, seqOf, ↓iLst_ap, ↓iR1_ap, ↓iR2_ap, ↓iSeq_ap, ↓iZ_ap, List.map_cons, List.map_nil, List.length_cons, List.length_nil, List.reduceReplicate, List.nil_append, List.cons_append, List.getElem?_cons_zero, List.getElem?_cons_succ, List.getElem?_nil, List.set_cons_zero, List.set_cons_succ, List.all_cons, List.all_nil, Bool.and_true, Bool.true_and, Bool.and_false, Bool.false_and, Bool.or_true, Bool.true_or, Bool.or_false, Bool.false_or, Bool.not_true, Bool.not_false, Bool.false_eq_true, if_true, if_false, ↓reduceIte, Option.map_some, Option.map_none, chk_pos, decide_eq_true_eq, flat, flat.flats, okP, okP.okPs, kit_NoneType_int, kit_NoneType_bool, kit_NoneType_str, kit_NoneType_tuple, kit_NoneType_list, kit_NoneType_dict, kit_bool_int, kit_bool_bool, kit_bool_str, kit_bool_tuple, kit_bool_list, kit_bool_dict, kit_int_int, kit_int_bool, kit_int_str, kit_int_tuple, kit_int_list, kit_int_dict, kit_str_int, kit_str_bool, kit_str_str, kit_str_tuple, kit_str_list, kit_str_dict, kit_list_int, kit_list_bool, kit_list_str, kit_list_tuple, kit_list_list, kit_list_dict, kit_tuple_int, kit_tuple_bool, kit_tuple_str, kit_tuple_tuple, kit_tuple_list, kit_tuple_dict, kit_dict_int, kit_dict_bool, kit_dict_str, kit_dict_tuple, kit_dict_list, kit_dict_dict, Nat.zero_add, Nat.reduceAdd, Nat.reduceLeDiff, Nat.reduceLT, Nat.reduceEqDiff, Nat.reduceMul, Nat.reduceSub, Nat.reducePow, Int.reduceAdd, Int.reduceSub, Int.reduceMul, Int.reduceNeg, Int.reducePow, Int.reduceLT, Int.reduceLE, Int.reduceEq, Int.reduceNe, Int.reduceToNat, beq_self_eq_true, Option.some.injEq, intsD, Nat.reduceBEq, decide_true, decide_false, ite_true, ite_false, atI_nat, atI_lit, atI_last, ixN_nat, ixN_lit, cut_nn, eqD_nn, eqD_ii, eqD_bb, eqD_ss, eqD_tt, eqD_ll, eqs_nn, eqs_cc, eqs_nc, eqs_cn, beq_str, beq_int, wipeE, lcOne_ap, ↓sTryK_ap, setO, ↓gPart_ap, ePart, eFind, eJoin, eSplit, ↓eM1_ap, ↓eLc_ap, ↓eJoined_ap, ↓jStr_ap, ↓jFmt_ap, ↓jNil_ap, ↓eDnew_ap, ↓eDic1_ap, scl, sgn, ↓gFind_ap, ↓gJoin_ap, ↓gSplitS_ap, ↓gTupOf_ap, ↓pIx_ap, ↓pVar_ap, ↓sApp_ap, ↓sClr_ap, ↓sRev_ap, ↓sSet_ap, cast_lit, ↓bind_ap, ↓toF_ap, ixD_l, ixD_t, ixD_r, ↓in_sgn, blsD_map, intsD_map, gMulS0, w2, w3, b1, b2, numD, outN, h0]
        by_cases h : (b : Int) < 2
        · simp (disch := walk_at "sz") only [↓run_0, ↓run_1, ↓run_2, ↓run_3, ↓run_4, ↓run_5, ↓run_6, eq_self, entryE, endR, ↓sSeq_ap, ↓sIf_ap, ↓sRet_ap, ↓sRetN_ap, ↓sDrop_ap, ↓sAsg_ap, ↓sNext_ap, ↓sBrk_ap, ↓sCnt_ap, ↓sNever_ap, ↓sRaise_ap, ↓sPar_ap, ↓sAug_ap, ↓sFor_ap, loop_nil, loop_cons, ↓bOf_ap, ↓bAnd_ap, ↓bOr_ap, ↓bNot_ap, ↓bYes_ap, ↓eVar_ap, ↓eFz_ap, ↓eMv_ap, look, ↓eC_ap, ↓eOp_ap, ↓eAnd_ap, ↓eOr_ap, ↓eNot_ap, ↓eNeg_ap, ↓eIf_ap, ↓eTup_ap, ↓eLst_ap, ↓eCall_ap, ↓eCB_ap, ↓eSl_ap, ↓oNo_ap, ↓oSome_ap, ↓eRevL_ap, ↓eChain_ap, ↓aNil_ap, ↓aCons_ap, ↓g2_ap, ↓gOr_ap, gAdd, gMul, gAdd0, gAddS0, gSub0, gDiv0, gMod0, gMul0, gPow0, gLt0, gLe0, gGt0, gGe0, gEq0, gNe0, gIs0, gNot0, gIn0, ↓gC_ap, gLen, lenD, gAbs, gInt, gStr, gSum, gAny, gAll, gMax, gMin, ↓gDivmod_ap, ↓gList_ap, ↓gTupL_ap, ↓gSorted_ap, gSl, gRevL, gIsi, ↓gIx_ap, kPart, ↓gCat_ap, ↓gRep_ap, ↓gN_ap, ↓gF_ap, ↓gT_ap, ↓gsNil_ap, ↓gsCons_ap, withK, stb', okItem, hasK, itemsOk, isNon, listOf, lstOf, intsOf, blsOf, tyD, lstD, seqOf, ↓iLst_ap, ↓iR1_ap, ↓iR2_ap, ↓iSeq_ap, ↓iZ_ap, List.map_cons, List.map_nil, List.length_cons, List.length_nil, List.reduceReplicate, List.nil_append, List.cons_append, List.getElem?_cons_zero, List.getElem?_cons_succ, List.getElem?_nil, List.set_cons_zero, List.set_cons_succ, List.all_cons, List.all_nil, Bool.and_true, Bool.true_and, Bool.and_false, Bool.false_and, Bool.or_true, Bool.true_or, Bool.or_false, Bool.false_or, Bool.not_true, Bool.not_false, Bool.false_eq_true, if_true, if_false, ↓reduceIte, Option.map_some, Option.map_none, chk_pos, decide_eq_true_eq, flat, flat.flats, okP, okP.okPs, kit_NoneType_int, kit_NoneType_bool, kit_NoneType_str, kit_NoneType_tuple, kit_NoneType_list, kit_NoneType_dict, kit_bool_int, kit_bool_bool, kit_bool_str, kit_bool_tuple, kit_bool_list, kit_bool_dict, kit_int_int, kit_int_bool, kit_int_str, kit_int_tuple, kit_int_list, kit_int_dict, kit_str_int, kit_str_bool, kit_str_str, kit_str_tuple, kit_str_list, kit_str_dict, kit_list_int, kit_list_bool, kit_list_str, kit_list_tuple, kit_list_list, kit_list_dict, kit_tuple_int, kit_tuple_bool, kit_tuple_str, kit_tuple_tuple, kit_tuple_list, kit_tuple_dict, kit_dict_int, kit_dict_bool, kit_dict_str, kit_dict_tuple, kit_dict_list, kit_dict_dict, Nat.zero_add, Nat.reduceAdd, Nat.reduceLeDiff, Nat.reduceLT, Nat.reduceEqDiff, Nat.reduceMul, Nat.reduceSub, Nat.reducePow, Int.reduceAdd, Int.reduceSub, Int.reduceMul, Int.reduceNeg, Int.reducePow, Int.reduceLT, Int.reduceLE, Int.reduceEq, Int.reduceNe, Int.reduceToNat, beq_self_eq_true, Option.some.injEq, intsD, Nat.reduceBEq, decide_true, decide_false, ite_true, ite_false, atI_nat, atI_lit, atI_last, ixN_nat, ixN_lit, cut_nn, eqD_nn, eqD_ii, eqD_bb, eqD_ss, eqD_tt, eqD_ll, eqs_nn, eqs_cc, eqs_nc, eqs_cn, beq_str, beq_int, wipeE, lcOne_ap, ↓sTryK_ap, setO, ↓gPart_ap, ePart, eFind, eJoin, eSplit, ↓eM1_ap, ↓eLc_ap, ↓eJoined_ap, ↓jStr_ap, ↓jFmt_ap, ↓jNil_ap, ↓eDnew_ap, ↓eDic1_ap, scl, sgn, ↓gFind_ap, ↓gJoin_ap, ↓gSplitS_ap, ↓gTupOf_ap, ↓pIx_ap, ↓pVar_ap, ↓sApp_ap, ↓sClr_ap, ↓sRev_ap, ↓sSet_ap, cast_lit, ↓bind_ap, ↓toF_ap, ixD_l, ixD_t, ixD_r, ↓in_sgn, blsD_map, intsD_map, gMulS0, w2, w3, b1, b2, numD, outN, h0, h]
        · by_cases h2 : (Int.gcd t b : Int) = 1 <;> simp (disch := walk_at "sz") only [↓run_0, ↓run_1, ↓run_2, ↓run_3, ↓run_4, ↓run_5, ↓run_6, eq_self, entryE, endR, ↓sSeq_ap, ↓sIf_ap, ↓sRet_ap, ↓sRetN_ap, ↓sDrop_ap, ↓sAsg_ap, ↓sNext_ap, ↓sBrk_ap, ↓sCnt_ap, ↓sNever_ap, ↓sRaise_ap, ↓sPar_ap, ↓sAug_ap, ↓sFor_ap, loop_nil, loop_cons, ↓bOf_ap, ↓bAnd_ap, ↓bOr_ap, ↓bNot_ap, ↓bYes_ap, ↓eVar_ap, ↓eFz_ap, ↓eMv_ap, look, ↓eC_ap, ↓eOp_ap, ↓eAnd_ap, ↓eOr_ap, ↓eNot_ap, ↓eNeg_ap, ↓eIf_ap, ↓eTup_ap, ↓eLst_ap, ↓eCall_ap, ↓eCB_ap, ↓eSl_ap, ↓oNo_ap, ↓oSome_ap, ↓eRevL_ap, ↓eChain_ap, ↓aNil_ap, ↓aCons_ap, ↓g2_ap, ↓gOr_ap, gAdd, gMul, gAdd0, gAddS0, gSub0, gDiv0, gMod0, gMul0, gPow0, gLt0, gLe0, gGt0, gGe0, gEq0, gNe0, gIs0, gNot0, gIn0, ↓gC_ap, gLen, lenD, gAbs, gInt, gStr, gSum, gAny, gAll, gMax, gMin, ↓gDivmod_ap, ↓gList_ap, ↓gTupL_ap, ↓gSorted_ap, gSl, gRevL, gIsi, ↓gIx_ap, kPart, ↓gCat_ap, ↓gRep_ap, ↓gN_ap, ↓gF_ap, ↓gT_ap, ↓gsNil_ap, ↓gsCons_ap, withK, stb', okItem, hasK, itemsOk, isNon, listOf, lstOf, intsOf, blsOf, tyD, lstD, seqOf, ↓iLst_ap, ↓iR1_ap, ↓iR2_ap, ↓iSeq_ap, ↓iZ_ap, List.map_cons, List.map_nil, List.length_cons, List.length_nil, List.reduceReplicate, List.nil_append, List.cons_append, List.getElem?_cons_zero, List.getElem?_cons_succ, List.getElem?_nil, List.set_cons_zero, List.set_cons_succ, List.all_cons, List.all_nil, Bool.and_true, Bool.true_and, Bool.and_false, Bool.false_and, Bool.or_true, Bool.true_or, Bool.or_false, Bool.false_or, Bool.not_true, Bool.not_false, Bool.false_eq_true, if_true, if_false, ↓reduceIte, Option.map_some, Option.map_none, chk_pos, decide_eq_true_eq, flat, flat.flats, okP, okP.okPs, kit_NoneType_int, kit_NoneType_bool, kit_NoneType_str, kit_NoneType_tuple, kit_NoneType_list, kit_NoneType_dict, kit_bool_int, kit_bool_bool, kit_bool_str, kit_bool_tuple, kit_bool_list, kit_bool_dict, kit_int_int, kit_int_bool, kit_int_str, kit_int_tuple, kit_int_list, kit_int_dict, kit_str_int, kit_str_bool, kit_str_str, kit_str_tuple, kit_str_list, kit_str_dict, kit_list_int, kit_list_bool, kit_list_str, kit_list_tuple, kit_list_list, kit_list_dict, kit_tuple_int, kit_tuple_bool, kit_tuple_str, kit_tuple_tuple, kit_tuple_list, kit_tuple_dict, kit_dict_int, kit_dict_bool, kit_dict_str, kit_dict_tuple, kit_dict_list, kit_dict_dict, Nat.zero_add, Nat.reduceAdd, Nat.reduceLeDiff, Nat.reduceLT, Nat.reduceEqDiff, Nat.reduceMul, Nat.reduceSub, Nat.reducePow, Int.reduceAdd, Int.reduceSub, Int.reduceMul, Int.reduceNeg, Int.reducePow, Int.reduceLT, Int.reduceLE, Int.reduceEq, Int.reduceNe, Int.reduceToNat, beq_self_eq_true, Option.some.injEq, intsD, Nat.reduceBEq, decide_true, decide_false, ite_true, ite_false, atI_nat, atI_lit, atI_last, ixN_nat, ixN_lit, cut_nn, eqD_nn, eqD_ii, eqD_bb, eqD_ss, eqD_tt, eqD_ll, eqs_nn, eqs_cc, eqs_nc, eqs_cn, beq_str, beq_int, wipeE, lcOne_ap, ↓sTryK_ap, setO, ↓gPart_ap, ePart, eFind, eJoin, eSplit, ↓eM1_ap, ↓eLc_ap, ↓eJoined_ap, ↓jStr_ap, ↓jFmt_ap, ↓jNil_ap, ↓eDnew_ap, ↓eDic1_ap, scl, sgn, ↓gFind_ap, ↓gJoin_ap, ↓gSplitS_ap, ↓gTupOf_ap, ↓pIx_ap, ↓pVar_ap, ↓sApp_ap, ↓sClr_ap, ↓sRev_ap, ↓sSet_ap, cast_lit, ↓bind_ap, ↓toF_ap, ixD_l, ixD_t, ixD_r, ↓in_sgn, blsD_map, intsD_map, gMulS0, w2, w3, b1, b2, numD, outN, h0, h, h2, q_divisor]
theorem q_number_of_no (d : D) (h : tyD d ≠ none) (hs : ∀ z, d ≠ .str z) : m_number_of [d] = some (.exc "NoNumber" none) := by
  unfold m_number_of b_number_of
  cases d <;> first | (exact absurd rfl h) | (exact absurd rfl (hs _)) | simp (disch := walk_at "sz") only [↓run_0, ↓run_1, ↓run_2, ↓run_3, ↓run_4, ↓run_5, ↓run_6, eq_self, entryE, endR, ↓sSeq_ap, ↓sIf_ap, ↓sRet_ap, ↓sRetN_ap, ↓sDrop_ap, ↓sAsg_ap, ↓sNext_ap, ↓sBrk_ap, ↓sCnt_ap, ↓sNever_ap, ↓sRaise_ap, ↓sPar_ap, ↓sAug_ap, ↓sFor_ap, loop_nil, loop_cons, ↓bOf_ap, ↓bAnd_ap, ↓bOr_ap, ↓bNot_ap, ↓bYes_ap, ↓eVar_ap, ↓eFz_ap, ↓eMv_ap, look, ↓eC_ap, ↓eOp_ap, ↓eAnd_ap, ↓eOr_ap, ↓eNot_ap, ↓eNeg_ap, ↓eIf_ap, ↓eTup_ap, ↓eLst_ap, ↓eCall_ap, ↓eCB_ap, ↓eSl_ap, ↓oNo_ap, ↓oSome_ap, ↓eRevL_ap, ↓eChain_ap, ↓aNil_ap, ↓aCons_ap, ↓g2_ap, ↓gOr_ap, gAdd, gMul, gAdd0, gAddS0, gSub0, gDiv0, gMod0, gMul0, gPow0, gLt0, gLe0, gGt0, gGe0, gEq0, gNe0, gIs0, gNot0, gIn0, ↓gC_ap, gLen, lenD, gAbs, gInt, gStr, gSum, gAny, gAll, gMax, gMin, ↓gDivmod_ap, ↓gList_ap, ↓gTupL_ap, ↓gSorted_ap, gSl, gRevL, gIsi, ↓gIx_ap, kPart, ↓gCat_ap, ↓gRep_ap, ↓gN_ap, ↓gF_ap, ↓gT_ap, ↓gsNil_ap, ↓gsCons_ap, withK, stb', okItem, hasK, itemsOk, isNon, listOf, lstOf, intsOf, blsOf, tyD, lstD, seqOf, ↓iLst_ap, ↓iR1_ap, ↓iR2_ap, ↓iSeq_ap, ↓iZ_ap, List.map_cons, List.map_nil, List.length_cons, List.length_nil, List.reduceReplicate, List.nil_append, List.cons_append, List.getElem?_cons_zero, List.getElem?_cons_succ, List.getElem?_nil, List.set_cons_zero, List.set_cons_succ, List.all_cons, List.all_nil, Bool.and_true, Bool.true_and, Bool.and_false, Bool.false_and, Bool.or_true, Bool.true_or, Bool.or_false, Bool.false_or, Bool.not_true, Bool.not_false, Bool.false_eq_true, if_true, if_false, ↓reduceIte, Option.map_some, Option.map_none, chk_pos, decide_eq_true_eq, flat, flat.flats, okP, okP.okPs, kit_NoneType_int, kit_NoneType_bool, kit_NoneType_str, kit_NoneType_tuple, kit_NoneType_list, kit_NoneType_dict, kit_bool_int, kit_bool_bool, kit_bool_str, kit_bool_tuple, kit_bool_list, kit_bool_dict, kit_int_int, kit_int_bool, kit_int_str, kit_int_tuple, kit_int_list, kit_int_dict, kit_str_int, kit_str_bool, kit_str_str, kit_str_tuple, kit_str_list, kit_str_dict, kit_list_int, kit_list_bool, kit_list_str, kit_list_tuple, kit_list_list, kit_list_dict, kit_tuple_int, kit_tuple_bool, kit_tuple_str, kit_tuple_tuple, kit_tuple_list, kit_tuple_dict, kit_dict_int, kit_dict_bool, kit_dict_str, kit_dict_tuple, kit_dict_list, kit_dict_dict, Nat.zero_add, Nat.reduceAdd, Nat.reduceLeDiff, Nat.reduceLT, Nat.reduceEqDiff, Nat.reduceMul, Nat.reduceSub, Nat.reducePow, Int.reduceAdd, Int.reduceSub, Int.reduceMul, Int.reduceNeg, Int.reducePow, Int.reduceLT, Int.reduceLE, Int.reduceEq, Int.reduceNe, Int.reduceToNat, beq_self_eq_true, Option.some.injEq, intsD, Nat.reduceBEq, decide_true, decide_false, ite_true, ite_false, atI_nat, atI_lit, atI_last, ixN_nat, ixN_lit, cut_nn, eqD_nn, eqD_ii, eqD_bb, eqD_ss, eqD_tt, eqD_ll, eqs_nn, eqs_cc, eqs_nc, eqs_cn, beq_str, beq_int, wipeE, lcOne_ap, ↓sTryK_ap, setO, ↓gPart_ap, ePart, eFind, eJoin, eSplit, ↓eM1_ap, ↓eLc_ap, ↓eJoined_ap, ↓jStr_ap, ↓jFmt_ap, ↓jNil_ap, ↓eDnew_ap, ↓eDic1_ap, scl, sgn, ↓gFind_ap, ↓gJoin_ap, ↓gSplitS_ap, ↓gTupOf_ap, ↓pIx_ap, ↓pVar_ap, ↓sApp_ap, ↓sClr_ap, ↓sRev_ap, ↓sSet_ap, cast_lit, ↓bind_ap, ↓toF_ap, ixD_l, ixD_t, ixD_r, ↓in_sgn, blsD_map, intsD_map, gMulS0]

theorem q_cell (ns : List Int) (k : Nat) (hl : ns.length ≤ 63) : m__law_cell [.rd ns, .int (k : Int)] = some (.ret 0 (.int (cellOf ns k))) := by
  unfold m__law_cell b__law_cell
  have e2 : cutD (ns.map D.int) (some (k : Int)) (some ((k : Int) + 1)) = ((ns.drop k).take 1).map D.int := cell_cut ns k hl
  have e3 : (((ns.drop k).take 1).map D.int ++ [D.int 0])[0]? = some (.int (cellOf ns k)) := (atI_nat _ 0).symm.trans (cell_at ns k)
  have l : ((((ns.drop k).take 1).map D.int).length + 1 ≤ sizeLine) := by
    rw [List.length_map, List.length_take]
    exact Nat.le_trans (show _ ≤ 2 by omega) (by decide)
  simp (disch := walk_at "sz") only [↓run_0, ↓run_1, ↓run_2, ↓run_3, ↓run_4, ↓run_5, ↓run_6, eq_self, entryE, endR, ↓sSeq_ap, ↓sIf_ap, ↓sRet_ap, ↓sRetN_ap, ↓sDrop_ap, ↓sAsg_ap, ↓sNext_ap, ↓sBrk_ap, ↓sCnt_ap, ↓sNever_ap, ↓sRaise_ap, ↓sPar_ap, ↓sAug_ap, ↓sFor_ap, loop_nil, loop_cons, ↓bOf_ap, ↓bAnd_ap, ↓bOr_ap, ↓bNot_ap, ↓bYes_ap, ↓eVar_ap, ↓eFz_ap, ↓eMv_ap, look, ↓eC_ap, ↓eOp_ap, ↓eAnd_ap, ↓eOr_ap, ↓eNot_ap, ↓eNeg_ap, ↓eIf_ap, ↓eTup_ap, ↓eLst_ap, ↓eCall_ap, ↓eCB_ap, ↓eSl_ap, ↓oNo_ap, ↓oSome_ap, ↓eRevL_ap, ↓eChain_ap, ↓aNil_ap, ↓aCons_ap, ↓g2_ap, ↓gOr_ap, gAdd, gMul, gAdd0, gAddS0, gSub0, gDiv0, gMod0, gMul0, gPow0, gLt0, gLe0, gGt0, gGe0, gEq0, gNe0, gIs0, gNot0, gIn0, ↓gC_ap, gLen, lenD, gAbs, gInt, gStr, gSum, gAny, gAll, gMax, gMin, ↓gDivmod_ap, ↓gList_ap, ↓gTupL_ap, ↓gSorted_ap, gSl, gRevL, gIsi, ↓gIx_ap, kPart, ↓gCat_ap, ↓gRep_ap, ↓gN_ap, ↓gF_ap, ↓gT_ap, ↓gsNil_ap, ↓gsCons_ap, withK, stb', okItem, hasK, itemsOk, isNon, listOf, lstOf, intsOf, blsOf, tyD, lstD, seqOf, ↓iLst_ap, ↓iR1_ap, ↓iR2_ap, ↓iSeq_ap, ↓iZ_ap, List.map_cons, List.map_nil, List.length_cons, List.length_nil, List.reduceReplicate, List.nil_append, List.cons_append, List.getElem?_cons_zero, List.getElem?_cons_succ, List.getElem?_nil, List.set_cons_zero, List.set_cons_succ, List.all_cons, List.all_nil, Bool.and_true, Bool.true_and, Bool.and_false, Bool.false_and, Bool.or_true, Bool.true_or, Bool.or_false, Bool.false_or, Bool.not_true, Bool.not_false, Bool.false_eq_true, if_true, if_false, ↓reduceIte, Option.map_some, Option.map_none, chk_pos, decide_eq_true_eq, flat, flat.flats, okP, okP.okPs, kit_NoneType_int, kit_NoneType_bool, kit_NoneType_str, kit_NoneType_tuple, kit_NoneType_list, kit_NoneType_dict, kit_bool_int, kit_bool_bool, kit_bool_str, kit_bool_tuple, kit_bool_list, kit_bool_dict, kit_int_int, kit_int_bool, kit_int_str, kit_int_tuple, kit_int_list, kit_int_dict, kit_str_int, kit_str_bool, kit_str_str, kit_str_tuple, kit_str_list, kit_str_dict, kit_list_int, kit_list_bool, kit_list_str, kit_list_tuple, kit_list_list, kit_list_dict, kit_tuple_int, kit_tuple_bool, kit_tuple_str, kit_tuple_tuple, kit_tuple_list, kit_tuple_dict, kit_dict_int, kit_dict_bool, kit_dict_str, kit_dict_tuple, kit_dict_list, kit_dict_dict, Nat.zero_add, Nat.reduceAdd, Nat.reduceLeDiff, Nat.reduceLT, Nat.reduceEqDiff, Nat.reduceMul, Nat.reduceSub, Nat.reducePow, Int.reduceAdd, Int.reduceSub, Int.reduceMul, Int.reduceNeg, Int.reducePow, Int.reduceLT, Int.reduceLE, Int.reduceEq, Int.reduceNe, Int.reduceToNat, beq_self_eq_true, Option.some.injEq, intsD, Nat.reduceBEq, decide_true, decide_false, ite_true, ite_false, atI_nat, atI_lit, atI_last, ixN_nat, ixN_lit, cut_nn, eqD_nn, eqD_ii, eqD_bb, eqD_ss, eqD_tt, eqD_ll, eqs_nn, eqs_cc, eqs_nc, eqs_cn, beq_str, beq_int, wipeE, lcOne_ap, ↓sTryK_ap, setO, ↓gPart_ap, ePart, eFind, eJoin, eSplit, ↓eM1_ap, ↓eLc_ap, ↓eJoined_ap, ↓jStr_ap, ↓jFmt_ap, ↓jNil_ap, ↓eDnew_ap, ↓eDic1_ap, scl, sgn, ↓gFind_ap, ↓gJoin_ap, ↓gSplitS_ap, ↓gTupOf_ap, ↓pIx_ap, ↓pVar_ap, ↓sApp_ap, ↓sClr_ap, ↓sRev_ap, ↓sSet_ap, cast_lit, ↓bind_ap, ↓toF_ap, ixD_l, ixD_t, ixD_r, ↓in_sgn, blsD_map, intsD_map, gMulS0, e2, e3]
theorem q_cellz (ns : List Int) (k : Int) (hl : ns.length ≤ 63) (h : 0 ≤ k) : m__law_cell [.rd ns, .int k] = some (.ret 0 (.int (cellOf ns k.toNat))) := by
  obtain ⟨n, rfl⟩ := Int.eq_ofNat_of_zero_le h
  exact q_cell ns n hl
theorem q_cell0 (ns : List Int) (k : Nat) (hl : ns.length ≤ 63) : m__law_cell [.rd ns, .int (no_index (OfNat.ofNat k))] = some (.ret 0 (.int (cellOf ns k))) := q_cell ns k hl

theorem q_lgcd (a b : Int) : m__law_gcd [.int a, .int b] = some (.ret 0 (.int (Int.gcd a b))) := by
  have h := sWhile_ind (ft := b__law_gcd_1) (fb := b__law_gcd_2) (fun m ρ => ∃ x y : Nat, ρ = [.ow 0 (.int a), .ow 0 (.int b), .ow 0 (.int (x : Int)), .ow 0 (.int (y : Int))] ∧ Nat.gcd x y = Int.gcd a b ∧ m = x) (fun ρ => ∃ x : Nat, ρ = [.ow 0 (.int a), .ow 0 (.int b), .ow 0 (.int 0), .ow 0 (.int (x : Int))] ∧ x = Int.gcd a b) (fun m ρ hJ => by
    obtain ⟨x, y, rfl, hg, rfl⟩ := hJ
    by_cases hx : m = 0
    · subst hx
      refine .inl ⟨?_, y, rfl, by rw [← hg, Nat.gcd_zero_left]⟩
      unfold b__law_gcd_1
      simp (disch := walk_at "sz") only [↓run_0, ↓run_1, ↓run_2, ↓run_3, ↓run_4, ↓run_5, ↓run_6, eq_self, entryE, endR, ↓sSeq_ap, ↓sIf_ap, ↓sRet_ap, ↓sRetN_ap, ↓sDrop_ap, ↓sAsg_ap, ↓sNext_ap, ↓sBrk_ap, ↓sCnt_ap, ↓sNever_ap, ↓sRaise_ap, ↓sPar_ap, ↓sAug_ap, ↓sFor_ap, loop_nil, loop_cons, ↓bOf_ap, ↓bAnd_ap, ↓bOr_ap, ↓bNot_ap, ↓bYes_ap, ↓eVar_ap, ↓eFz_ap, ↓eMv_ap, look, ↓eC_ap, ↓eOp_ap, ↓eAnd_ap, ↓eOr_ap, ↓eNot_ap, ↓eNeg_ap, ↓eIf_ap, ↓eTup_ap, ↓eLst_ap, ↓eCall_ap, ↓eCB_ap, ↓eSl_ap, ↓oNo_ap, ↓oSome_ap, ↓eRevL_ap, ↓eChain_ap, ↓aNil_ap, ↓aCons_ap, ↓g2_ap, ↓gOr_ap, gAdd, gMul, gAdd0, gAddS0, gSub0, gDiv0, gMod0, gMul0, gPow0, gLt0, gLe0, gGt0, gGe0, gEq0, gNe0, gIs0, gNot0, gIn0, ↓gC_ap, gLen, lenD, gAbs, gInt, gStr, gSum, gAny, gAll, gMax, gMin, ↓gDivmod_ap, ↓gList_ap, ↓gTupL_ap, ↓gSorted_ap, gSl, gRevL, gIsi, ↓gIx_ap, kPart, ↓gCat_ap, ↓gRep_ap, ↓gN_ap, ↓gF_ap, ↓gT_ap, ↓gsNil_ap, ↓gsCons_ap, withK, stb', okItem, hasK, itemsOk, isNon, listOf, lstOf, intsOf, blsOf, tyD, lstD, seqOf, ↓iLst_ap, ↓iR1_ap, ↓iR2_ap, ↓iSeq_ap, ↓iZ_ap, List.map_cons, List.map_nil, List.length_cons, List.length_nil, List.reduceReplicate, List.nil_append, List.cons_append, List.getElem?_cons_zero, List.getElem?_cons_succ, List.getElem?_nil, List.set_cons_zero, List.set_cons_succ, List.all_cons, List.all_nil, Bool.and_true, Bool.true_and, Bool.and_false, Bool.false_and, Bool.or_true, Bool.true_or, Bool.or_false, Bool.false_or, Bool.not_true, Bool.not_false, Bool.false_eq_true, if_true, if_false, ↓reduceIte, Option.map_some, Option.map_none, chk_pos, decide_eq_true_eq, flat, flat.flats, okP, okP.okPs, kit_NoneType_int, kit_NoneType_bool, kit_NoneType_str, kit_NoneType_tuple, kit_NoneType_list, kit_NoneType_dict, kit_bool_int, kit_bool_bool, kit_bool_str, kit_bool_tuple, kit_bool_list, kit_bool_dict, kit_int_int, kit_int_bool, kit_int_str, kit_int_tuple, kit_int_list, kit_int_dict, kit_str_int, kit_str_bool, kit_str_str, kit_str_tuple, kit_str_list, kit_str_dict, kit_list_int, kit_list_bool, kit_list_str, kit_list_tuple, kit_list_list, kit_list_dict, kit_tuple_int, kit_tuple_bool, kit_tuple_str, kit_tuple_tuple, kit_tuple_list, kit_tuple_dict, kit_dict_int, kit_dict_bool, kit_dict_str, kit_dict_tuple, kit_dict_list, kit_dict_dict, Nat.zero_add, Nat.reduceAdd, Nat.reduceLeDiff, Nat.reduceLT, Nat.reduceEqDiff, Nat.reduceMul, Nat.reduceSub, Nat.reducePow, Int.reduceAdd, Int.reduceSub, Int.reduceMul, Int.reduceNeg, Int.reducePow, Int.reduceLT, Int.reduceLE, Int.reduceEq, Int.reduceNe, Int.reduceToNat, beq_self_eq_true, Option.some.injEq, intsD, Nat.reduceBEq, decide_true, decide_false, ite_true, ite_false, atI_nat, atI_lit, atI_last, ixN_nat, ixN_lit, cut_nn, eqD_nn, eqD_ii, eqD_bb, eqD_ss, eqD_tt, eqD_ll, eqs_nn, eqs_cc, eqs_nc, eqs_cn, beq_str, beq_int, wipeE, lcOne_ap, ↓sTryK_ap, setO, ↓gPart_ap, ePart, eFind, eJoin, eSplit, ↓eM1_ap, ↓eLc_ap, ↓eJoined_ap, ↓jStr_ap, ↓jFmt_ap, ↓jNil_ap, ↓eDnew_ap, ↓eDic1_ap, scl, sgn, ↓gFind_ap, ↓gJoin_ap, ↓gSplitS_ap, ↓gTupOf_ap, ↓pIx_ap, ↓pVar_ap, ↓sApp_ap, ↓sClr_ap, ↓sRev_ap, ↓sSet_ap, cast_lit, ↓bind_ap, ↓toF_ap, ixD_l, ixD_t, ixD_r, ↓in_sgn, blsD_map, intsD_map, gMulS0, Int.natCast_zero, Int.lt_irrefl]
    · refine .inr ⟨[.ow 0 (.int a), .ow 0 (.int b), .ow 0 (.int ((y % m : Nat) : Int)), .ow 0 (.int (m : Int))], y % m, ?_, ?_, Nat.mod_lt _ (by omega), y % m, m, rfl, by rw [← hg, Nat.gcd_rec m y], rfl⟩
      · unfold b__law_gcd_1
        have : (0 : Int) < m := by omega
        simp (disch := walk_at "sz") only [↓run_0, ↓run_1, ↓run_2, ↓run_3, ↓run_4, ↓run_5, ↓run_6, eq_self, entryE, endR, ↓sSeq_ap, ↓sIf_ap, ↓sRet_ap, ↓sRetN_ap, ↓sDrop_ap, ↓sAsg_ap, ↓sNext_ap, ↓sBrk_ap, ↓sCnt_ap, ↓sNever_ap, ↓sRaise_ap, ↓sPar_ap, ↓sAug_ap, ↓sFor_ap, loop_nil, loop_cons, ↓bOf_ap, ↓bAnd_ap, ↓bOr_ap, ↓bNot_ap, ↓bYes_ap, ↓eVar_ap, ↓eFz_ap, ↓eMv_ap, look, ↓eC_ap, ↓eOp_ap, ↓eAnd_ap, ↓eOr_ap, ↓eNot_ap, ↓eNeg_ap, ↓eIf_ap, ↓eTup_ap, ↓eLst_ap, ↓eCall_ap, ↓eCB_ap, ↓eSl_ap, ↓oNo_ap, ↓oSome_ap, ↓eRevL_ap, ↓eChain_ap, ↓aNil_ap, ↓aCons_ap, ↓g2_ap, ↓gOr_ap, gAdd, gMul, gAdd0, gAddS0, gSub0, gDiv0, gMod0, gMul0, gPow0, gLt0, gLe0, gGt0, gGe0, gEq0, gNe0, gIs0, gNot0, gIn0, ↓gC_ap, gLen, lenD, gAbs, gInt, gStr, gSum, gAny, gAll, gMax, gMin, ↓gDivmod_ap, ↓gList_ap, ↓gTupL_ap, ↓gSorted_ap, gSl, gRevL, gIsi, ↓gIx_ap, kPart, ↓gCat_ap, ↓gRep_ap, ↓gN_ap, ↓gF_ap, ↓gT_ap, ↓gsNil_ap, ↓gsCons_ap, withK, stb', okItem, hasK, itemsOk, isNon, listOf, lstOf, intsOf, blsOf, tyD, lstD, seqOf, ↓iLst_ap, ↓iR1_ap, ↓iR2_ap, ↓iSeq_ap, ↓iZ_ap, List.map_cons, List.map_nil, List.length_cons, List.length_nil, List.reduceReplicate, List.nil_append, List.cons_append, List.getElem?_cons_zero, List.getElem?_cons_succ, List.getElem?_nil, List.set_cons_zero, List.set_cons_succ, List.all_cons, List.all_nil, Bool.and_true, Bool.true_and, Bool.and_false, Bool.false_and, Bool.or_true, Bool.true_or, Bool.or_false, Bool.false_or, Bool.not_true, Bool.not_false, Bool.false_eq_true, if_true, if_false, ↓reduceIte, Option.map_some, Option.map_none, chk_pos, decide_eq_true_eq, flat, flat.flats, okP, okP.okPs, kit_NoneType_int, kit_NoneType_bool, kit_NoneType_str, kit_NoneType_tuple, kit_NoneType_list, kit_NoneType_dict, kit_bool_int, kit_bool_bool, kit_bool_str, kit_bool_tuple, kit_bool_list, kit_bool_dict, kit_int_int, kit_int_bool, kit_int_str, kit_int_tuple, kit_int_list, kit_int_dict, kit_str_int, kit_str_bool, kit_str_str, kit_str_tuple, kit_str_list, kit_str_dict, kit_list_int, kit_list_bool, kit_list_str, kit_list_tuple, kit_list_list, kit_list_dict, kit_tuple_int, kit_tuple_bool, kit_tuple_str, kit_tuple_tuple, kit_tuple_list, kit_tuple_dict, kit_dict_int, kit_dict_bool, kit_dict_str, kit_dict_tuple, kit_dict_list, kit_dict_dict, Nat.zero_add, Nat.reduceAdd, Nat.reduceLeDiff, Nat.reduceLT, Nat.reduceEqDiff, Nat.reduceMul, Nat.reduceSub, Nat.reducePow, Int.reduceAdd, Int.reduceSub, Int.reduceMul, Int.reduceNeg, Int.reducePow, Int.reduceLT, Int.reduceLE, Int.reduceEq, Int.reduceNe, Int.reduceToNat, beq_self_eq_true, Option.some.injEq, intsD, Nat.reduceBEq, decide_true, decide_false, ite_true, ite_false, atI_nat, atI_lit, atI_last, ixN_nat, ixN_lit, cut_nn, eqD_nn, eqD_ii, eqD_bb, eqD_ss, eqD_tt, eqD_ll, eqs_nn, eqs_cc, eqs_nc, eqs_cn, beq_str, beq_int, wipeE, lcOne_ap, ↓sTryK_ap, setO, ↓gPart_ap, ePart, eFind, eJoin, eSplit, ↓eM1_ap, ↓eLc_ap, ↓eJoined_ap, ↓jStr_ap, ↓jFmt_ap, ↓jNil_ap, ↓eDnew_ap, ↓eDic1_ap, scl, sgn, ↓gFind_ap, ↓gJoin_ap, ↓gSplitS_ap, ↓gTupOf_ap, ↓pIx_ap, ↓pVar_ap, ↓sApp_ap, ↓sClr_ap, ↓sRev_ap, ↓sSet_ap, cast_lit, ↓bind_ap, ↓toF_ap, ixD_l, ixD_t, ixD_r, ↓in_sgn, blsD_map, intsD_map, gMulS0, this]
      · unfold b__law_gcd_2
        have : (m : Int) ≠ 0 := by omega
        simp (disch := walk_at "sz") only [↓run_0, ↓run_1, ↓run_2, ↓run_3, ↓run_4, ↓run_5, ↓run_6, eq_self, entryE, endR, ↓sSeq_ap, ↓sIf_ap, ↓sRet_ap, ↓sRetN_ap, ↓sDrop_ap, ↓sAsg_ap, ↓sNext_ap, ↓sBrk_ap, ↓sCnt_ap, ↓sNever_ap, ↓sRaise_ap, ↓sPar_ap, ↓sAug_ap, ↓sFor_ap, loop_nil, loop_cons, ↓bOf_ap, ↓bAnd_ap, ↓bOr_ap, ↓bNot_ap, ↓bYes_ap, ↓eVar_ap, ↓eFz_ap, ↓eMv_ap, look, ↓eC_ap, ↓eOp_ap, ↓eAnd_ap, ↓eOr_ap, ↓eNot_ap, ↓eNeg_ap, ↓eIf_ap, ↓eTup_ap, ↓eLst_ap, ↓eCall_ap, ↓eCB_ap, ↓eSl_ap, ↓oNo_ap, ↓oSome_ap, ↓eRevL_ap, ↓eChain_ap, ↓aNil_ap, ↓aCons_ap, ↓g2_ap, ↓gOr_ap, gAdd, gMul, gAdd0, gAddS0, gSub0, gDiv0, gMod0, gMul0, gPow0, gLt0, gLe0, gGt0, gGe0, gEq0, gNe0, gIs0, gNot0, gIn0, ↓gC_ap, gLen, lenD, gAbs, gInt, gStr, gSum, gAny, gAll, gMax, gMin, ↓gDivmod_ap, ↓gList_ap, ↓gTupL_ap, ↓gSorted_ap, gSl, gRevL, gIsi, ↓gIx_ap, kPart, ↓gCat_ap, ↓gRep_ap, ↓gN_ap, ↓gF_ap, ↓gT_ap, ↓gsNil_ap, ↓gsCons_ap, withK, stb', okItem, hasK, itemsOk, isNon, listOf, lstOf, intsOf, blsOf, tyD, lstD, seqOf, ↓iLst_ap, ↓iR1_ap, ↓iR2_ap, ↓iSeq_ap, ↓iZ_ap, List.map_cons, List.map_nil, List.length_cons, List.length_nil, List.reduceReplicate, List.nil_append, List.cons_append, List.getElem?_cons_zero, List.getElem?_cons_succ, List.getElem?_nil, List.set_cons_zero, List.set_cons_succ, List.all_cons, List.all_nil, Bool.and_true, Bool.true_and, Bool.and_false, Bool.false_and, Bool.or_true, Bool.true_or, Bool.or_false, Bool.false_or, Bool.not_true, Bool.not_false, Bool.false_eq_true, if_true, if_false, ↓reduceIte, Option.map_some, Option.map_none, chk_pos, decide_eq_true_eq, flat, flat.flats, okP, okP.okPs, kit_NoneType_int, kit_NoneType_bool, kit_NoneType_str, kit_NoneType_tuple, kit_NoneType_list, kit_NoneType_dict, kit_bool_int, kit_bool_bool, kit_bool_str, kit_bool_tuple, kit_bool_list, kit_bool_dict, kit_int_int, kit_int_bool, kit_int_str, kit_int_tuple, kit_int_list, kit_int_dict, kit_str_int, kit_str_bool, kit_str_str, kit_str_tuple, kit_str_list, kit_str_dict, kit_list_int, kit_list_bool, kit_list_str, kit_list_tuple, kit_list_list, kit_list_dict, kit_tuple_int, kit_tuple_bool, kit_tuple_str, kit_tuple_tuple, kit_tuple_list, kit_tuple_dict, kit_dict_int, kit_dict_bool, kit_dict_str, kit_dict_tuple, kit_dict_list, kit_dict_dict, Nat.zero_add, Nat.reduceAdd, Nat.reduceLeDiff, Nat.reduceLT, Nat.reduceEqDiff, Nat.reduceMul, Nat.reduceSub, Nat.reducePow, Int.reduceAdd, Int.reduceSub, Int.reduceMul, Int.reduceNeg, Int.reducePow, Int.reduceLT, Int.reduceLE, Int.reduceEq, Int.reduceNe, Int.reduceToNat, beq_self_eq_true, Option.some.injEq, intsD, Nat.reduceBEq, decide_true, decide_false, ite_true, ite_false, atI_nat, atI_lit, atI_last, ixN_nat, ixN_lit, cut_nn, eqD_nn, eqD_ii, eqD_bb, eqD_ss, eqD_tt, eqD_ll, eqs_nn, eqs_cc, eqs_nc, eqs_cn, beq_str, beq_int, wipeE, lcOne_ap, ↓sTryK_ap, setO, ↓gPart_ap, ePart, eFind, eJoin, eSplit, ↓eM1_ap, ↓eLc_ap, ↓eJoined_ap, ↓jStr_ap, ↓jFmt_ap, ↓jNil_ap, ↓eDnew_ap, ↓eDic1_ap, scl, sgn, ↓gFind_ap, ↓gJoin_ap, ↓gSplitS_ap, ↓gTupOf_ap, ↓pIx_ap, ↓pVar_ap, ↓sApp_ap, ↓sClr_ap, ↓sRev_ap, ↓sSet_ap, cast_lit, ↓bind_ap, ↓toF_ap, ixD_l, ixD_t, ixD_r, ↓in_sgn, blsD_map, intsD_map, gMulS0, Int.fmod_eq_emod_of_nonneg _ (Int.natCast_nonneg m)]
        rfl) (m := min a.natAbs b.natAbs) (ρ := [.ow 0 (.int a), .ow 0 (.int b), .ow 0 (.int (min a.natAbs b.natAbs : Nat)), .ow 0 (.int (max a.natAbs b.natAbs : Nat))]) ⟨_, _, rfl, by
      rcases Nat.le_total a.natAbs b.natAbs with h | h
      · rw [Nat.min_eq_left h, Nat.max_eq_right h]; rfl
      · rw [Nat.min_eq_right h, Nat.max_eq_left h, Nat.gcd_comm]; rfl, rfl⟩
  obtain ⟨ρ', e, x, rfl, hx⟩ := h
  have es : sortI [((a.natAbs : Nat) : Int), ((b.natAbs : Nat) : Int)] = [((min a.natAbs b.natAbs : Nat) : Int), ((max a.natAbs b.natAbs : Nat) : Int)] := by
    have p := min_max_perm a.natAbs b.natAbs
    exact PySem.W.ksm_same ((sortI_perm _).trans p.1.symm) (sortI_sorted _) p.2
  unfold m__law_gcd b__law_gcd
  simp (disch := walk_at "sz") only [↓run_0, ↓run_1, ↓run_2, ↓run_3, ↓run_4, ↓run_5, ↓run_6, eq_self, entryE, endR, ↓sSeq_ap, ↓sIf_ap, ↓sRet_ap, ↓sRetN_ap, ↓sDrop_ap, ↓sAsg_ap, ↓sNext_ap, ↓sBrk_ap, ↓sCnt_ap, ↓sNever_ap, ↓sRaise_ap, ↓sPar_ap, ↓sAug_ap, ↓sFor_ap, loop_nil, loop_cons, ↓bOf_ap, ↓bAnd_ap, ↓bOr_ap, ↓bNot_ap, ↓bYes_ap, ↓eVar_ap, ↓eFz_ap, ↓eMv_ap, look, ↓eC_ap, ↓eOp_ap, ↓eAnd_ap, ↓eOr_ap, ↓eNot_ap, ↓eNeg_ap, ↓eIf_ap, ↓eTup_ap, ↓eLst_ap, ↓eCall_ap, ↓eCB_ap, ↓eSl_ap, ↓oNo_ap, ↓oSome_ap, ↓eRevL_ap, ↓eChain_ap, ↓aNil_ap, ↓aCons_ap, ↓g2_ap, ↓gOr_ap, gAdd, gMul, gAdd0, gAddS0, gSub0, gDiv0, gMod0, gMul0, gPow0, gLt0, gLe0, gGt0, gGe0, gEq0, gNe0, gIs0, gNot0, gIn0, ↓gC_ap, gLen, lenD, gAbs, gInt, gStr, gSum, gAny, gAll, gMax, gMin, ↓gDivmod_ap, ↓gList_ap, ↓gTupL_ap, ↓gSorted_ap, gSl, gRevL, gIsi, ↓gIx_ap, kPart, ↓gCat_ap, ↓gRep_ap, ↓gN_ap, ↓gF_ap, ↓gT_ap, ↓gsNil_ap, ↓gsCons_ap, withK, stb', okItem, hasK, itemsOk, isNon, listOf, lstOf, intsOf, blsOf, tyD, lstD, seqOf, ↓iLst_ap, ↓iR1_ap, ↓iR2_ap, ↓iSeq_ap, ↓iZ_ap, List.map_cons, List.map_nil, List.length_cons, List.length_nil, List.reduceReplicate, List.nil_append, List.cons_append, List.getElem?_cons_zero, List.getElem?_cons_succ, List.getElem?_nil, List.set_cons_zero, List.set_cons_succ, List.all_cons, List.all_nil, Bool.and_true, Bool.true_and, Bool.and_false, Bool.false_and, Bool.or_true, Bool.true_or, Bool.or_false, Bool.false_or, Bool.not_true, Bool.not_false, Bool.false_eq_true, if_true, if_false, ↓reduceIte, Option.map_some, Option.map_none, chk_pos, decide_eq_true_eq, flat, flat.flats, okP, okP.okPs, kit_NoneType_int, kit_NoneType_bool, kit_NoneType_str, kit_NoneType_tuple, kit_NoneType_list, kit_NoneType_dict, kit_bool_int, kit_bool_bool, kit_bool_str, kit_bool_tuple, kit_bool_list, kit_bool_dict, kit_int_int, kit_int_bool, kit_int_str, kit_int_tuple, kit_int_list, kit_int_dict, kit_str_int, kit_str_bool, kit_str_str, kit_str_tuple, kit_str_list, kit_str_dict, kit_list_int, kit_list_bool, kit_list_str, kit_list_tuple, kit_list_list, kit_list_dict, kit_tuple_int, kit_tuple_bool, kit_tuple_str, kit_tuple_tuple, kit_tuple_list, kit_tuple_dict, kit_dict_int, kit_dict_bool, kit_dict_str, kit_dict_tuple, kit_dict_list, kit_dict_dict, Nat.zero_add, Nat.reduceAdd, Nat.reduceLeDiff, Nat.reduceLT, Nat.reduceEqDiff, Nat.reduceMul, Nat.reduceSub, Nat.reducePow, Int.reduceAdd, Int.reduceSub, Int.reduceMul, Int.reduceNeg, Int.reducePow, Int.reduceLT, Int.reduceLE, Int.reduceEq, Int.reduceNe, Int.reduceToNat, beq_self_eq_true, Option.some.injEq, intsD, Nat.reduceBEq, decide_true, decide_false, ite_true, ite_false, atI_nat, atI_lit, atI_last, ixN_nat, ixN_lit, cut_nn, eqD_nn, eqD_ii, eqD_bb, eqD_ss, eqD_tt, eqD_ll, eqs_nn, eqs_cc, eqs_nc, eqs_cn, beq_str, beq_int, wipeE, lcOne_ap, ↓sTryK_ap, setO, ↓gPart_ap, ePart, eFind, eJoin, eSplit, ↓eM1_ap, ↓eLc_ap, ↓eJoined_ap, ↓jStr_ap, ↓jFmt_ap, ↓jNil_ap, ↓eDnew_ap, ↓eDic1_ap, scl, sgn, ↓gFind_ap, ↓gJoin_ap, ↓gSplitS_ap, ↓gTupOf_ap, ↓pIx_ap, ↓pVar_ap, ↓sApp_ap, ↓sClr_ap, ↓sRev_ap, ↓sSet_ap, cast_lit, ↓bind_ap, ↓toF_ap, ixD_l, ixD_t, ixD_r, ↓in_sgn, blsD_map, intsD_map, gMulS0, es, e]
  rw [hx]

theorem q_lowest {t b : Int} (h : 0 < b) (hb : b.natAbs < 2 ^ 8999) : m__law_lowest [.int t, .int b] = some (.ret 0 (fr (lowest t b))) := by
  have g := Int.gcd_pos_of_ne_zero_right t (show b ≠ 0 by omega)
  have l := gcd_le_r (t := t) (show b ≠ 0 by omega)
  have d1 : DivOk t (Int.gcd t b : Nat) := ⟨by omega, noPy (by rw [Int.natAbs_natCast]; omega)⟩
  have d2 : DivOk b (Int.gcd t b : Nat) := ⟨by omega, noPy (by rw [Int.natAbs_natCast]; omega)⟩
  unfold m__law_lowest b__law_lowest
  simp (disch := walk_at "sz") only [↓run_0, ↓run_1, ↓run_2, ↓run_3, ↓run_4, ↓run_5, ↓run_6, eq_self, entryE, endR, ↓sSeq_ap, ↓sIf_ap, ↓sRet_ap, ↓sRetN_ap, ↓sDrop_ap, ↓sAsg_ap, ↓sNext_ap, ↓sBrk_ap, ↓sCnt_ap, ↓sNever_ap, ↓sRaise_ap, ↓sPar_ap, ↓sAug_ap, ↓sFor_ap, loop_nil, loop_cons, ↓bOf_ap, ↓bAnd_ap, ↓bOr_ap, ↓bNot_ap, ↓bYes_ap, ↓eVar_ap, ↓eFz_ap, ↓eMv_ap, look, ↓eC_ap, ↓eOp_ap, ↓eAnd_ap, ↓eOr_ap, ↓eNot_ap, ↓eNeg_ap, ↓eIf_ap, ↓eTup_ap, ↓eLst_ap, ↓eCall_ap, ↓eCB_ap, ↓eSl_ap, ↓oNo_ap, ↓oSome_ap, ↓eRevL_ap, ↓eChain_ap, ↓aNil_ap, ↓aCons_ap, ↓g2_ap, ↓gOr_ap, gAdd, gMul, gAdd0, gAddS0, gSub0, gDiv0, gMod0, gMul0, gPow0, gLt0, gLe0, gGt0, gGe0, gEq0, gNe0, gIs0, gNot0, gIn0, ↓gC_ap, gLen, lenD, gAbs, gInt, gStr, gSum, gAny, gAll, gMax, gMin, ↓gDivmod_ap, ↓gList_ap, ↓gTupL_ap, ↓gSorted_ap, gSl, gRevL, gIsi, ↓gIx_ap, kPart, ↓gCat_ap, ↓gRep_ap, ↓gN_ap, ↓gF_ap, ↓gT_ap, ↓gsNil_ap, ↓gsCons_ap, withK, stb', okItem, hasK, itemsOk, isNon, listOf, lstOf, intsOf, blsOf, tyD, lstD, seqOf, ↓iLst_ap, ↓iR1_ap, ↓iR2_ap, ↓iSeq_ap, ↓iZ_ap, List.map_cons, List.map_nil, List.length_cons, List.length_nil, List.reduceReplicate, List.nil_append, List.cons_append, List.getElem?_cons_zero, List.getElem?_cons_succ, List.getElem?_nil, List.set_cons_zero, List.set_cons_succ, List.all_cons, List.all_nil, Bool.and_true, Bool.true_and, Bool.and_false, Bool.false_and, Bool.or_true, Bool.true_or, Bool.or_false, Bool.false_or, Bool.not_true, Bool.not_false, Bool.false_eq_true, if_true, if_false, ↓reduceIte, Option.map_some, Option.map_none, chk_pos, decide_eq_true_eq, flat, flat.flats, okP, okP.okPs, kit_NoneType_int, kit_NoneType_bool, kit_NoneType_str, kit_NoneType_tuple, kit_NoneType_list, kit_NoneType_dict, kit_bool_int, kit_bool_bool, kit_bool_str, kit_bool_tuple, kit_bool_list, kit_bool_dict, kit_int_int, kit_int_bool, kit_int_str, kit_int_tuple, kit_int_list, kit_int_dict, kit_str_int, kit_str_bool, kit_str_str, kit_str_tuple, kit_str_list, kit_str_dict, kit_list_int, kit_list_bool, kit_list_str, kit_list_tuple, kit_list_list, kit_list_dict, kit_tuple_int, kit_tuple_bool, kit_tuple_str, kit_tuple_tuple, kit_tuple_list, kit_tuple_dict, kit_dict_int, kit_dict_bool, kit_dict_str, kit_dict_tuple, kit_dict_list, kit_dict_dict, Nat.zero_add, Nat.reduceAdd, Nat.reduceLeDiff, Nat.reduceLT, Nat.reduceEqDiff, Nat.reduceMul, Nat.reduceSub, Nat.reducePow, Int.reduceAdd, Int.reduceSub, Int.reduceMul, Int.reduceNeg, Int.reducePow, Int.reduceLT, Int.reduceLE, Int.reduceEq, Int.reduceNe, Int.reduceToNat, beq_self_eq_true, Option.some.injEq, intsD, Nat.reduceBEq, decide_true, decide_false, ite_true, ite_false, atI_nat, atI_lit, atI_last, ixN_nat, ixN_lit, cut_nn, eqD_nn, eqD_ii, eqD_bb, eqD_ss, eqD_tt, eqD_ll, eqs_nn, eqs_cc, eqs_nc, eqs_cn, beq_str, beq_int, wipeE, lcOne_ap, ↓sTryK_ap, setO, ↓gPart_ap, ePart, eFind, eJoin, eSplit, ↓eM1_ap, ↓eLc_ap, ↓eJoined_ap, ↓jStr_ap, ↓jFmt_ap, ↓jNil_ap, ↓eDnew_ap, ↓eDic1_ap, scl, sgn, ↓gFind_ap, ↓gJoin_ap, ↓gSplitS_ap, ↓gTupOf_ap, ↓pIx_ap, ↓pVar_ap, ↓sApp_ap, ↓sClr_ap, ↓sRev_ap, ↓sSet_ap, cast_lit, ↓bind_ap, ↓toF_ap, ixD_l, ixD_t, ixD_r, ↓in_sgn, blsD_map, intsD_map, gMulS0, q_lgcd, Int.fdiv_eq_ediv_of_nonneg _ (Int.natCast_nonneg (Int.gcd t b))]
  rfl

def isI : D → Bool
  | .int _ => true | _ => false
theorem q_whole (d : D) (h : tyD d ≠ none) : m__law_whole [d] = some (.ret 0 (.bl (isI d))) := by
  unfold m__law_whole b__law_whole
  cases d <;> first | (exact absurd rfl h) | simp only [↓run_0, ↓run_1, ↓run_2, ↓run_3, ↓run_4, ↓run_5, ↓run_6, eq_self, entryE, endR, ↓sSeq_ap, ↓sIf_ap, ↓sRet_ap, ↓sRetN_ap, ↓sDrop_ap, ↓sAsg_ap, ↓sNext_ap, ↓sBrk_ap, ↓sCnt_ap, ↓sNever_ap, ↓sRaise_ap, ↓sPar_ap, ↓sAug_ap, ↓sFor_ap, loop_nil, loop_cons, ↓bOf_ap, ↓bAnd_ap, ↓bOr_ap, ↓bNot_ap, ↓bYes_ap, ↓eVar_ap, ↓eFz_ap, ↓eMv_ap, look, ↓eC_ap, ↓eOp_ap, ↓eAnd_ap, ↓eOr_ap, ↓eNot_ap, ↓eNeg_ap, ↓eIf_ap, ↓eTup_ap, ↓eLst_ap, ↓eCall_ap, ↓eCB_ap, ↓eSl_ap, ↓oNo_ap, ↓oSome_ap, ↓eRevL_ap, ↓eChain_ap, ↓aNil_ap, ↓aCons_ap, ↓g2_ap, ↓gOr_ap, gAdd, gMul, gAdd0, gAddS0, gSub0, gDiv0, gMod0, gMul0, gPow0, gLt0, gLe0, gGt0, gGe0, gEq0, gNe0, gIs0, gNot0, gIn0, ↓gC_ap, gLen, lenD, gAbs, gInt, gStr, gSum, gAny, gAll, gMax, gMin, ↓gDivmod_ap, ↓gList_ap, ↓gTupL_ap, ↓gSorted_ap, gSl, gRevL, gIsi, ↓gIx_ap, kPart, ↓gCat_ap, ↓gRep_ap, ↓gN_ap, ↓gF_ap, ↓gT_ap, ↓gsNil_ap, ↓gsCons_ap, withK, stb', okItem, hasK, itemsOk, isNon, listOf, lstOf, intsOf, blsOf, tyD, lstD, seqOf, ↓iLst_ap, ↓iR1_ap, ↓iR2_ap, ↓iSeq_ap, ↓iZ_ap, List.map_cons, List.map_nil, List.length_cons, List.length_nil, List.reduceReplicate, List.nil_append, List.cons_append, List.getElem?_cons_zero, List.getElem?_cons_succ, List.getElem?_nil, List.set_cons_zero, List.set_cons_succ, List.all_cons, List.all_nil, Bool.and_true, Bool.true_and, Bool.and_false, Bool.false_and, Bool.or_true, Bool.true_or, Bool.or_false, Bool.false_or, Bool.not_true, Bool.not_false, Bool.false_eq_true, if_true, if_false, ↓reduceIte, Option.map_some, Option.map_none, chk_pos, decide_eq_true_eq, flat, flat.flats, okP, okP.okPs, kit_NoneType_int, kit_NoneType_bool, kit_NoneType_str, kit_NoneType_tuple, kit_NoneType_list, kit_NoneType_dict, kit_bool_int, kit_bool_bool, kit_bool_str, kit_bool_tuple, kit_bool_list, kit_bool_dict, kit_int_int, kit_int_bool, kit_int_str, kit_int_tuple, kit_int_list, kit_int_dict, kit_str_int, kit_str_bool, kit_str_str, kit_str_tuple, kit_str_list, kit_str_dict, kit_list_int, kit_list_bool, kit_list_str, kit_list_tuple, kit_list_list, kit_list_dict, kit_tuple_int, kit_tuple_bool, kit_tuple_str, kit_tuple_tuple, kit_tuple_list, kit_tuple_dict, kit_dict_int, kit_dict_bool, kit_dict_str, kit_dict_tuple, kit_dict_list, kit_dict_dict, Nat.zero_add, Nat.reduceAdd, Nat.reduceLeDiff, Nat.reduceLT, Nat.reduceEqDiff, Nat.reduceMul, Nat.reduceSub, Nat.reducePow, Int.reduceAdd, Int.reduceSub, Int.reduceMul, Int.reduceNeg, Int.reducePow, Int.reduceLT, Int.reduceLE, Int.reduceEq, Int.reduceNe, Int.reduceToNat, beq_self_eq_true, Option.some.injEq, intsD, Nat.reduceBEq, decide_true, decide_false, ite_true, ite_false, atI_nat, atI_lit, atI_last, ixN_nat, ixN_lit, cut_nn, eqD_nn, eqD_ii, eqD_bb, eqD_ss, eqD_tt, eqD_ll, eqs_nn, eqs_cc, eqs_nc, eqs_cn, beq_str, beq_int, wipeE, lcOne_ap, ↓sTryK_ap, setO, ↓gPart_ap, ePart, eFind, eJoin, eSplit, ↓eM1_ap, ↓eLc_ap, ↓eJoined_ap, ↓jStr_ap, ↓jFmt_ap, ↓jNil_ap, ↓eDnew_ap, ↓eDic1_ap, scl, sgn, ↓gFind_ap, ↓gJoin_ap, ↓gSplitS_ap, ↓gTupOf_ap, ↓pIx_ap, ↓pVar_ap, ↓sApp_ap, ↓sClr_ap, ↓sRev_ap, ↓sSet_ap, cast_lit, ↓bind_ap, ↓toF_ap, ixD_l, ixD_t, ixD_r, ↓in_sgn, blsD_map, intsD_map, gMulS0, isI]
theorem q_wholeI (i : Int) : m__law_whole [.int i] = some (.ret 0 (.bl true)) := q_whole (.int i) (fun h => nomatch h)

theorem q_fraction (a b : Int) : m__law_fraction [.tup [.int a, .int b]] = some (.ret 0 (.bl (decide (0 < b) && decide (Int.gcd a b = 1)))) := by
  unfold m__law_fraction b__law_fraction
  by_cases h : 0 < b
  · by_cases h2 : ((Int.gcd a b : Nat) : Int) = 1
    · rw [decide_eq_true (show Int.gcd a b = 1 by omega)]
      simp (disch := walk_at "sz") only [↓run_0, ↓run_1, ↓run_2, ↓run_3, ↓run_4, ↓run_5, ↓run_6, eq_self, entryE, endR, ↓sSeq_ap, ↓sIf_ap, ↓sRet_ap, ↓sRetN_ap, ↓sDrop_ap, ↓sAsg_ap, ↓sNext_ap, ↓sBrk_ap, ↓sCnt_ap, ↓sNever_ap, ↓sRaise_ap, ↓sPar_ap, ↓sAug_ap, ↓sFor_ap, loop_nil, loop_cons, ↓bOf_ap, ↓bAnd_ap, ↓bOr_ap, ↓bNot_ap, ↓bYes_ap, ↓eVar_ap, ↓eFz_ap, ↓eMv_ap, look, ↓eC_ap, ↓eOp_ap, ↓eAnd_ap, ↓eOr_ap, ↓eNot_ap, ↓eNeg_ap, ↓eIf_ap, ↓eTup_ap, ↓eLst_ap, ↓eCall_ap, ↓eCB_ap, ↓eSl_ap, ↓oNo_ap, ↓oSome_ap, ↓eRevL_ap, ↓eChain_ap, ↓aNil_ap, ↓aCons_ap, ↓g2_ap, ↓gOr_ap, gAdd, gMul, gAdd0, gAddS0, gSub0, gDiv0, gMod0, gMul0, gPow0, gLt0, gLe0, gGt0, gGe0, gEq0, gNe0, gIs0, gNot0, gIn0, ↓gC_ap, gLen, lenD, gAbs, gInt, gStr, gSum, gAny, gAll, gMax, gMin, ↓gDivmod_ap, ↓gList_ap, ↓gTupL_ap, ↓gSorted_ap, gSl, gRevL, gIsi, ↓gIx_ap, kPart, ↓gCat_ap, ↓gRep_ap, ↓gN_ap, ↓gF_ap, ↓gT_ap, ↓gsNil_ap, ↓gsCons_ap, withK, stb', okItem, hasK, itemsOk, isNon, listOf, lstOf, intsOf, blsOf, tyD, lstD, seqOf, ↓iLst_ap, ↓iR1_ap, ↓iR2_ap, ↓iSeq_ap, ↓iZ_ap, List.map_cons, List.map_nil, List.length_cons, List.length_nil, List.reduceReplicate, List.nil_append, List.cons_append, List.getElem?_cons_zero, List.getElem?_cons_succ, List.getElem?_nil, List.set_cons_zero, List.set_cons_succ, List.all_cons, List.all_nil, Bool.and_true, Bool.true_and, Bool.and_false, Bool.false_and, Bool.or_true, Bool.true_or, Bool.or_false, Bool.false_or, Bool.not_true, Bool.not_false, Bool.false_eq_true, if_true, if_false, ↓reduceIte, Option.map_some, Option.map_none, chk_pos, decide_eq_true_eq, flat, flat.flats, okP, okP.okPs, kit_NoneType_int, kit_NoneType_bool, kit_NoneType_str, kit_NoneType_tuple, kit_NoneType_list, kit_NoneType_dict, kit_bool_int, kit_bool_bool, kit_bool_str, kit_bool_tuple, kit_bool_list, kit_bool_dict, kit_int_int, kit_int_bool, kit_int_str, kit_int_tuple, kit_int_list, kit_int_dict, kit_str_int, kit_str_bool, kit_str_str, kit_str_tuple, kit_str_list, kit_str_dict, kit_list_int, kit_list_bool, kit_list_str, kit_list_tuple, kit_list_list, kit_list_dict, kit_tuple_int, kit_tuple_bool, kit_tuple_str, kit_tuple_tuple, kit_tuple_list, kit_tuple_dict, kit_dict_int, kit_dict_bool, kit_dict_str, kit_dict_tuple, kit_dict_list, kit_dict_dict, Nat.zero_add, Nat.reduceAdd, Nat.reduceLeDiff, Nat.reduceLT, Nat.reduceEqDiff, Nat.reduceMul, Nat.reduceSub, Nat.reducePow, Int.reduceAdd, Int.reduceSub, Int.reduceMul, Int.reduceNeg, Int.reducePow, Int.reduceLT, Int.reduceLE, Int.reduceEq, Int.reduceNe, Int.reduceToNat, beq_self_eq_true, Option.some.injEq, intsD, Nat.reduceBEq, decide_true, decide_false, ite_true, ite_false, atI_nat, atI_lit, atI_last, ixN_nat, ixN_lit, cut_nn, eqD_nn, eqD_ii, eqD_bb, eqD_ss, eqD_tt, eqD_ll, eqs_nn, eqs_cc, eqs_nc, eqs_cn, beq_str, beq_int, wipeE, lcOne_ap, ↓sTryK_ap, setO, ↓gPart_ap, ePart, eFind, eJoin, eSplit, ↓eM1_ap, ↓eLc_ap, ↓eJoined_ap, ↓jStr_ap, ↓jFmt_ap, ↓jNil_ap, ↓eDnew_ap, ↓eDic1_ap, scl, sgn, ↓gFind_ap, ↓gJoin_ap, ↓gSplitS_ap, ↓gTupOf_ap, ↓pIx_ap, ↓pVar_ap, ↓sApp_ap, ↓sClr_ap, ↓sRev_ap, ↓sSet_ap, cast_lit, ↓bind_ap, ↓toF_ap, ixD_l, ixD_t, ixD_r, ↓in_sgn, blsD_map, intsD_map, gMulS0, q_wholeI, q_lgcd, h, h2]
    · rw [decide_eq_false (show ¬ Int.gcd a b = 1 by omega)]
      simp (disch := walk_at "sz") only [↓run_0, ↓run_1, ↓run_2, ↓run_3, ↓run_4, ↓run_5, ↓run_6, eq_self, entryE, endR, ↓sSeq_ap, ↓sIf_ap, ↓sRet_ap, ↓sRetN_ap, ↓sDrop_ap, ↓sAsg_ap, ↓sNext_ap, ↓sBrk_ap, ↓sCnt_ap, ↓sNever_ap, ↓sRaise_ap, ↓sPar_ap, ↓sAug_ap, ↓sFor_ap, loop_nil, loop_cons, ↓bOf_ap, ↓bAnd_ap, ↓bOr_ap, ↓bNot_ap, ↓bYes_ap, ↓eVar_ap, ↓eFz_ap, ↓eMv_ap, look, ↓eC_ap, ↓eOp_ap, ↓eAnd_ap, ↓eOr_ap, ↓eNot_ap, ↓eNeg_ap, ↓eIf_ap, ↓eTup_ap, ↓eLst_ap, ↓eCall_ap, ↓eCB_ap, ↓eSl_ap, ↓oNo_ap, ↓oSome_ap, ↓eRevL_ap, ↓eChain_ap, ↓aNil_ap, ↓aCons_ap, ↓g2_ap, ↓gOr_ap, gAdd, gMul, gAdd0, gAddS0, gSub0, gDiv0, gMod0, gMul0, gPow0, gLt0, gLe0, gGt0, gGe0, gEq0, gNe0, gIs0, gNot0, gIn0, ↓gC_ap, gLen, lenD, gAbs, gInt, gStr, gSum, gAny, gAll, gMax, gMin, ↓gDivmod_ap, ↓gList_ap, ↓gTupL_ap, ↓gSorted_ap, gSl, gRevL, gIsi, ↓gIx_ap, kPart, ↓gCat_ap, ↓gRep_ap, ↓gN_ap, ↓gF_ap, ↓gT_ap, ↓gsNil_ap, ↓gsCons_ap, withK, stb', okItem, hasK, itemsOk, isNon, listOf, lstOf, intsOf, blsOf, tyD, lstD, seqOf, ↓iLst_ap, ↓iR1_ap, ↓iR2_ap, ↓iSeq_ap, ↓iZ_ap, List.map_cons, List.map_nil, List.length_cons, List.length_nil, List.reduceReplicate, List.nil_append, List.cons_append, List.getElem?_cons_zero, List.getElem?_cons_succ, List.getElem?_nil, List.set_cons_zero, List.set_cons_succ, List.all_cons, List.all_nil, Bool.and_true, Bool.true_and, Bool.and_false, Bool.false_and, Bool.or_true, Bool.true_or, Bool.or_false, Bool.false_or, Bool.not_true, Bool.not_false, Bool.false_eq_true, if_true, if_false, ↓reduceIte, Option.map_some, Option.map_none, chk_pos, decide_eq_true_eq, flat, flat.flats, okP, okP.okPs, kit_NoneType_int, kit_NoneType_bool, kit_NoneType_str, kit_NoneType_tuple, kit_NoneType_list, kit_NoneType_dict, kit_bool_int, kit_bool_bool, kit_bool_str, kit_bool_tuple, kit_bool_list, kit_bool_dict, kit_int_int, kit_int_bool, kit_int_str, kit_int_tuple, kit_int_list, kit_int_dict, kit_str_int, kit_str_bool, kit_str_str, kit_str_tuple, kit_str_list, kit_str_dict, kit_list_int, kit_list_bool, kit_list_str, kit_list_tuple, kit_list_list, kit_list_dict, kit_tuple_int, kit_tuple_bool, kit_tuple_str, kit_tuple_tuple, kit_tuple_list, kit_tuple_dict, kit_dict_int, kit_dict_bool, kit_dict_str, kit_dict_tuple, kit_dict_list, kit_dict_dict, Nat.zero_add, Nat.reduceAdd, Nat.reduceLeDiff, Nat.reduceLT, Nat.reduceEqDiff, Nat.reduceMul, Nat.reduceSub, Nat.reducePow, Int.reduceAdd, Int.reduceSub, Int.reduceMul, Int.reduceNeg, Int.reducePow, Int.reduceLT, Int.reduceLE, Int.reduceEq, Int.reduceNe, Int.reduceToNat, beq_self_eq_true, Option.some.injEq, intsD, Nat.reduceBEq, decide_true, decide_false, ite_true, ite_false, atI_nat, atI_lit, atI_last, ixN_nat, ixN_lit, cut_nn, eqD_nn, eqD_ii, eqD_bb, eqD_ss, eqD_tt, eqD_ll, eqs_nn, eqs_cc, eqs_nc, eqs_cn, beq_str, beq_int, wipeE, lcOne_ap, ↓sTryK_ap, setO, ↓gPart_ap, ePart, eFind, eJoin, eSplit, ↓eM1_ap, ↓eLc_ap, ↓eJoined_ap, ↓jStr_ap, ↓jFmt_ap, ↓jNil_ap, ↓eDnew_ap, ↓eDic1_ap, scl, sgn, ↓gFind_ap, ↓gJoin_ap, ↓gSplitS_ap, ↓gTupOf_ap, ↓pIx_ap, ↓pVar_ap, ↓sApp_ap, ↓sClr_ap, ↓sRev_ap, ↓sSet_ap, cast_lit, ↓bind_ap, ↓toF_ap, ixD_l, ixD_t, ixD_r, ↓in_sgn, blsD_map, intsD_map, gMulS0, q_wholeI, q_lgcd, h, h2]
  · simp (disch := walk_at "sz") only [↓run_0, ↓run_1, ↓run_2, ↓run_3, ↓run_4, ↓run_5, ↓run_6, eq_self, entryE, endR, ↓sSeq_ap, ↓sIf_ap, ↓sRet_ap, ↓sRetN_ap, ↓sDrop_ap, ↓sAsg_ap, ↓sNext_ap, ↓sBrk_ap, ↓sCnt_ap, ↓sNever_ap, ↓sRaise_ap, ↓sPar_ap, ↓sAug_ap, ↓sFor_ap, loop_nil, loop_cons, ↓bOf_ap, ↓bAnd_ap, ↓bOr_ap, ↓bNot_ap, ↓bYes_ap, ↓eVar_ap, ↓eFz_ap, ↓eMv_ap, look, ↓eC_ap, ↓eOp_ap, ↓eAnd_ap, ↓eOr_ap, ↓eNot_ap, ↓eNeg_ap, ↓eIf_ap, ↓eTup_ap, ↓eLst_ap, ↓eCall_ap, ↓eCB_ap, ↓eSl_ap, ↓oNo_ap, ↓oSome_ap, ↓eRevL_ap, ↓eChain_ap, ↓aNil_ap, ↓aCons_ap, ↓g2_ap, ↓gOr_ap, gAdd, gMul, gAdd0, gAddS0, gSub0, gDiv0, gMod0, gMul0, gPow0, gLt0, gLe0, gGt0, gGe0, gEq0, gNe0, gIs0, gNot0, gIn0, ↓gC_ap, gLen, lenD, gAbs, gInt, gStr, gSum, gAny, gAll, gMax, gMin, ↓gDivmod_ap, ↓gList_ap, ↓gTupL_ap, ↓gSorted_ap, gSl, gRevL, gIsi, ↓gIx_ap, kPart, ↓gCat_ap, ↓gRep_ap, ↓gN_ap, ↓gF_ap, ↓gT_ap, ↓gsNil_ap, ↓gsCons_ap, withK, stb', okItem, hasK, itemsOk, isNon, listOf, lstOf, intsOf, blsOf, tyD, lstD, seqOf, ↓iLst_ap, ↓iR1_ap, ↓iR2_ap, ↓iSeq_ap, ↓iZ_ap, List.map_cons, List.map_nil, List.length_cons, List.length_nil, List.reduceReplicate, List.nil_append, List.cons_append, List.getElem?_cons_zero, List.getElem?_cons_succ, List.getElem?_nil, List.set_cons_zero, List.set_cons_succ, List.all_cons, List.all_nil, Bool.and_true, Bool.true_and, Bool.and_false, Bool.false_and, Bool.or_true, Bool.true_or, Bool.or_false, Bool.false_or, Bool.not_true, Bool.not_false, Bool.false_eq_true, if_true, if_false, ↓reduceIte, Option.map_some, Option.map_none, chk_pos, decide_eq_true_eq, flat, flat.flats, okP, okP.okPs, kit_NoneType_int, kit_NoneType_bool, kit_NoneType_str, kit_NoneType_tuple, kit_NoneType_list, kit_NoneType_dict, kit_bool_int, kit_bool_bool, kit_bool_str, kit_bool_tuple, kit_bool_list, kit_bool_dict, kit_int_int, kit_int_bool, kit_int_str, kit_int_tuple, kit_int_list, kit_int_dict, kit_str_int, kit_str_bool, kit_str_str, kit_str_tuple, kit_str_list, kit_str_dict, kit_list_int, kit_list_bool, kit_list_str, kit_list_tuple, kit_list_list, kit_list_dict, kit_tuple_int, kit_tuple_bool, kit_tuple_str, kit_tuple_tuple, kit_tuple_list, kit_tuple_dict, kit_dict_int, kit_dict_bool, kit_dict_str, kit_dict_tuple, kit_dict_list, kit_dict_dict, Nat.zero_add, Nat.reduceAdd, Nat.reduceLeDiff, Nat.reduceLT, Nat.reduceEqDiff, Nat.reduceMul, Nat.reduceSub, Nat.reducePow, Int.reduceAdd, Int.reduceSub, Int.reduceMul, Int.reduceNeg, Int.reducePow, Int.reduceLT, Int.reduceLE, Int.reduceEq, Int.reduceNe, Int.reduceToNat, beq_self_eq_true, Option.some.injEq, intsD, Nat.reduceBEq, decide_true, decide_false, ite_true, ite_false, atI_nat, atI_lit, atI_last, ixN_nat, ixN_lit, cut_nn, eqD_nn, eqD_ii, eqD_bb, eqD_ss, eqD_tt, eqD_ll, eqs_nn, eqs_cc, eqs_nc, eqs_cn, beq_str, beq_int, wipeE, lcOne_ap, ↓sTryK_ap, setO, ↓gPart_ap, ePart, eFind, eJoin, eSplit, ↓eM1_ap, ↓eLc_ap, ↓eJoined_ap, ↓jStr_ap, ↓jFmt_ap, ↓jNil_ap, ↓eDnew_ap, ↓eDic1_ap, scl, sgn, ↓gFind_ap, ↓gJoin_ap, ↓gSplitS_ap, ↓gTupOf_ap, ↓pIx_ap, ↓pVar_ap, ↓sApp_ap, ↓sClr_ap, ↓sRev_ap, ↓sSet_ap, cast_lit, ↓bind_ap, ↓toF_ap, ixD_l, ixD_t, ixD_r, ↓in_sgn, blsD_map, intsD_map, gMulS0, q_wholeI, q_lgcd, h]
theorem q_fractionF {p : Int × Int} (h : IsFr p) : m__law_fraction [fr p] = some (.ret 0 (.bl true)) := by
  rw [show fr p = .tup [.int p.1, .int p.2] from rfl, q_fraction, decide_eq_true h.1, decide_eq_true h.2]
  rfl

def NINE : List Str := ["NoNumber", "NoName", "NoChance", "NoShare", "NoText", "NoRow", "NoRoom", "NoDoor", "NoPlan"]
def isD (x y : Str) : D := .bl (ISA x y)
def kindsD (x : Str) : List D := [isD x "NoNumber", isD x "NoName", isD x "NoChance", isD x "NoShare", isD x "NoText", isD x "NoRow", isD x "NoRoom", isD x "NoDoor", isD x "NoPlan"]
theorem only_eq : ∀ x ∈ NINE, ∀ k, k < 9 → eqD.eqs (kindsD x) ((List.range 9).map fun (i : Nat) => D.bl (decide (i = k))) = decide (NINE[k]? = some x) := by decide +kernel
theorem only_ok (n : Nat) (x y : Str) : okP n (isD x y) = true := by cases n <;> rfl
theorem only_ok2 : ∀ k, k < 9 → okP.okPs 7 ((List.range 9).map fun (i : Nat) => D.bl (decide (i = k))) = true := by decide +kernel
theorem rs_nine : ∀ x ∈ RS, x ∈ NINE := by decide +kernel
theorem q_only {x : Str} (k : Nat) (hx : x ∈ RS) (hk : k < 9) : m__law_only [.xo x none, .int (k : Int)] = some (.ret 0 (.bl (decide (NINE[k]? = some x)))) := by
  have hN := rs_nine x hx
  have e := only_eq x hN k hk
  have o2 := only_ok2 k hk
  have r : RS.contains x = true := List.contains_iff_mem.mpr hx
  have is : ∀ y, CL.contains y = true → gIsC CL RS ISA [.xo x none, .cls y] = some (isD x y) := fun y hy => by
    show (if (RS.contains x && CL.contains y) = true then some (D.bl (ISA x y)) else none) = _
    rw [r, hy]
    rfl
  have lc : lcGo [3] (gN 3) bYes b__law_only_1 0 [.ow 0 (.xo x none), .ow 0 (.int (k : Int)), .ow 0 (.lst (kindsD x)), .no] ((List.range 9).map fun (i : Nat) => D.int (i : Int)) = some ((List.range 9).map fun (i : Nat) => D.bl (decide (i = k))) := lcGo_map fun i _ => by
    unfold b__law_only_1
    have : ((i : Int) = (k : Int)) = (i = k) := propext ⟨fun h => by omega, fun h => by omega⟩
    simp (disch := walk_at "sz") only [↓run_0, ↓run_1, ↓run_2, ↓run_3, ↓run_4, ↓run_5, ↓run_6, eq_self, entryE, endR, ↓sSeq_ap, ↓sIf_ap, ↓sRet_ap, ↓sRetN_ap, ↓sDrop_ap, ↓sAsg_ap, ↓sNext_ap, ↓sBrk_ap, ↓sCnt_ap, ↓sNever_ap, ↓sRaise_ap, ↓sPar_ap, ↓sAug_ap, ↓sFor_ap, loop_nil, loop_cons, ↓bOf_ap, ↓bAnd_ap, ↓bOr_ap, ↓bNot_ap, ↓bYes_ap, ↓eVar_ap, ↓eFz_ap, ↓eMv_ap, look, ↓eC_ap, ↓eOp_ap, ↓eAnd_ap, ↓eOr_ap, ↓eNot_ap, ↓eNeg_ap, ↓eIf_ap, ↓eTup_ap, ↓eLst_ap, ↓eCall_ap, ↓eCB_ap, ↓eSl_ap, ↓oNo_ap, ↓oSome_ap, ↓eRevL_ap, ↓eChain_ap, ↓aNil_ap, ↓aCons_ap, ↓g2_ap, ↓gOr_ap, gAdd, gMul, gAdd0, gAddS0, gSub0, gDiv0, gMod0, gMul0, gPow0, gLt0, gLe0, gGt0, gGe0, gEq0, gNe0, gIs0, gNot0, gIn0, ↓gC_ap, gLen, lenD, gAbs, gInt, gStr, gSum, gAny, gAll, gMax, gMin, ↓gDivmod_ap, ↓gList_ap, ↓gTupL_ap, ↓gSorted_ap, gSl, gRevL, gIsi, ↓gIx_ap, kPart, ↓gCat_ap, ↓gRep_ap, ↓gN_ap, ↓gF_ap, ↓gT_ap, ↓gsNil_ap, ↓gsCons_ap, withK, stb', okItem, hasK, itemsOk, isNon, listOf, lstOf, intsOf, blsOf, tyD, lstD, seqOf, ↓iLst_ap, ↓iR1_ap, ↓iR2_ap, ↓iSeq_ap, ↓iZ_ap, List.map_cons, List.map_nil, List.length_cons, List.length_nil, List.reduceReplicate, List.nil_append, List.cons_append, List.getElem?_cons_zero, List.getElem?_cons_succ, List.getElem?_nil, List.set_cons_zero, List.set_cons_succ, List.all_cons, List.all_nil, Bool.and_true, Bool.true_and, Bool.and_false, Bool.false_and, Bool.or_true, Bool.true_or, Bool.or_false, Bool.false_or, Bool.not_true, Bool.not_false, Bool.false_eq_true, if_true, if_false, ↓reduceIte, Option.map_some, Option.map_none, chk_pos, decide_eq_true_eq, flat, flat.flats, okP, okP.okPs, kit_NoneType_int, kit_NoneType_bool, kit_NoneType_str, kit_NoneType_tuple, kit_NoneType_list, kit_NoneType_dict, kit_bool_int, kit_bool_bool, kit_bool_str, kit_bool_tuple, kit_bool_list, kit_bool_dict, kit_int_int, kit_int_bool, kit_int_str, kit_int_tuple, kit_int_list, kit_int_dict, kit_str_int, kit_str_bool, kit_str_str, kit_str_tuple, kit_str_list, kit_str_dict, kit_list_int, kit_list_bool, kit_list_str, kit_list_tuple, kit_list_list, kit_list_dict, kit_tuple_int, kit_tuple_bool, kit_tuple_str, kit_tuple_tuple, kit_tuple_list, kit_tuple_dict, kit_dict_int, kit_dict_bool, kit_dict_str, kit_dict_tuple, kit_dict_list, kit_dict_dict, Nat.zero_add, Nat.reduceAdd, Nat.reduceLeDiff, Nat.reduceLT, Nat.reduceEqDiff, Nat.reduceMul, Nat.reduceSub, Nat.reducePow, Int.reduceAdd, Int.reduceSub, Int.reduceMul, Int.reduceNeg, Int.reducePow, Int.reduceLT, Int.reduceLE, Int.reduceEq, Int.reduceNe, Int.reduceToNat, beq_self_eq_true, Option.some.injEq, intsD, Nat.reduceBEq, decide_true, decide_false, ite_true, ite_false, atI_nat, atI_lit, atI_last, ixN_nat, ixN_lit, cut_nn, eqD_nn, eqD_ii, eqD_bb, eqD_ss, eqD_tt, eqD_ll, eqs_nn, eqs_cc, eqs_nc, eqs_cn, beq_str, beq_int, wipeE, lcOne_ap, ↓sTryK_ap, setO, ↓gPart_ap, ePart, eFind, eJoin, eSplit, ↓eM1_ap, ↓eLc_ap, ↓eJoined_ap, ↓jStr_ap, ↓jFmt_ap, ↓jNil_ap, ↓eDnew_ap, ↓eDic1_ap, scl, sgn, ↓gFind_ap, ↓gJoin_ap, ↓gSplitS_ap, ↓gTupOf_ap, ↓pIx_ap, ↓pVar_ap, ↓sApp_ap, ↓sClr_ap, ↓sRev_ap, ↓sSet_ap, cast_lit, ↓bind_ap, ↓toF_ap, ixD_l, ixD_t, ixD_r, ↓in_sgn, blsD_map, intsD_map, gMulS0, this]
  have r9 : rangeD 0 9 = (List.range 9).map fun (i : Nat) => D.int (i : Int) := rangeD_map 9
  have ve : gIsC CL RS ISA [.xo x none, .ty "ValueError"] = some (.bl true) := by
    show (if RS.contains x = true then some (D.bl true) else none) = _
    rw [r]
    rfl
  have c0 := is "NoNumber" (by decide +kernel)
  have c1 := is "NoName" (by decide +kernel)
  have c2 := is "NoChance" (by decide +kernel)
  have c3 := is "NoShare" (by decide +kernel)
  have c4 := is "NoText" (by decide +kernel)
  have c5 := is "NoRow" (by decide +kernel)
  have c6 := is "NoRoom" (by decide +kernel)
  have c7 := is "NoDoor" (by decide +kernel)
  have c8 := is "NoPlan" (by decide +kernel)
  unfold kindsD at lc e
  rw [← r9] at lc
  unfold m__law_only b__law_only
  simp (disch := walk_at "sz") only [↓run_0, ↓run_1, ↓run_2, ↓run_3, ↓run_4, ↓run_5, ↓run_6, eq_self, entryE, endR, ↓sSeq_ap, ↓sIf_ap, ↓sRet_ap, ↓sRetN_ap, ↓sDrop_ap, ↓sAsg_ap, ↓sNext_ap, ↓sBrk_ap, ↓sCnt_ap, ↓sNever_ap, ↓sRaise_ap, ↓sPar_ap, ↓sAug_ap, ↓sFor_ap, loop_nil, loop_cons, ↓bOf_ap, ↓bAnd_ap, ↓bOr_ap, ↓bNot_ap, ↓bYes_ap, ↓eVar_ap, ↓eFz_ap, ↓eMv_ap, look, ↓eC_ap, ↓eOp_ap, ↓eAnd_ap, ↓eOr_ap, ↓eNot_ap, ↓eNeg_ap, ↓eIf_ap, ↓eTup_ap, ↓eLst_ap, ↓eCall_ap, ↓eCB_ap, ↓eSl_ap, ↓oNo_ap, ↓oSome_ap, ↓eRevL_ap, ↓eChain_ap, ↓aNil_ap, ↓aCons_ap, ↓g2_ap, ↓gOr_ap, gAdd, gMul, gAdd0, gAddS0, gSub0, gDiv0, gMod0, gMul0, gPow0, gLt0, gLe0, gGt0, gGe0, gEq0, gNe0, gIs0, gNot0, gIn0, ↓gC_ap, gLen, lenD, gAbs, gInt, gStr, gSum, gAny, gAll, gMax, gMin, ↓gDivmod_ap, ↓gList_ap, ↓gTupL_ap, ↓gSorted_ap, gSl, gRevL, gIsi, ↓gIx_ap, kPart, ↓gCat_ap, ↓gRep_ap, ↓gN_ap, ↓gF_ap, ↓gT_ap, ↓gsNil_ap, ↓gsCons_ap, withK, stb', okItem, hasK, itemsOk, isNon, listOf, lstOf, intsOf, blsOf, tyD, lstD, seqOf, ↓iLst_ap, ↓iR1_ap, ↓iR2_ap, ↓iSeq_ap, ↓iZ_ap, List.map_cons, List.map_nil, List.length_cons, List.length_nil, List.reduceReplicate, List.nil_append, List.cons_append, List.getElem?_cons_zero, List.getElem?_cons_succ, List.getElem?_nil, List.set_cons_zero, List.set_cons_succ, List.all_cons, List.all_nil, Bool.and_true, Bool.true_and, Bool.and_false, Bool.false_and, Bool.or_true, Bool.true_or, Bool.or_false, Bool.false_or, Bool.not_true, Bool.not_false, Bool.false_eq_true, if_true, if_false, ↓reduceIte, Option.map_some, Option.map_none, chk_pos, decide_eq_true_eq, flat, flat.flats, okP, okP.okPs, kit_NoneType_int, kit_NoneType_bool, kit_NoneType_str, kit_NoneType_tuple, kit_NoneType_list, kit_NoneType_dict, kit_bool_int, kit_bool_bool, kit_bool_str, kit_bool_tuple, kit_bool_list, kit_bool_dict, kit_int_int, kit_int_bool, kit_int_str, kit_int_tuple, kit_int_list, kit_int_dict, kit_str_int, kit_str_bool, kit_str_str, kit_str_tuple, kit_str_list, kit_str_dict, kit_list_int, kit_list_bool, kit_list_str, kit_list_tuple, kit_list_list, kit_list_dict, kit_tuple_int, kit_tuple_bool, kit_tuple_str, kit_tuple_tuple, kit_tuple_list, kit_tuple_dict, kit_dict_int, kit_dict_bool, kit_dict_str, kit_dict_tuple, kit_dict_list, kit_dict_dict, Nat.zero_add, Nat.reduceAdd, Nat.reduceLeDiff, Nat.reduceLT, Nat.reduceEqDiff, Nat.reduceMul, Nat.reduceSub, Nat.reducePow, Int.reduceAdd, Int.reduceSub, Int.reduceMul, Int.reduceNeg, Int.reducePow, Int.reduceLT, Int.reduceLE, Int.reduceEq, Int.reduceNe, Int.reduceToNat, beq_self_eq_true, Option.some.injEq, intsD, Nat.reduceBEq, decide_true, decide_false, ite_true, ite_false, atI_nat, atI_lit, atI_last, ixN_nat, ixN_lit, cut_nn, eqD_nn, eqD_ii, eqD_bb, eqD_ss, eqD_tt, eqD_ll, eqs_nn, eqs_cc, eqs_nc, eqs_cn, beq_str, beq_int, wipeE, lcOne_ap, ↓sTryK_ap, setO, ↓gPart_ap, ePart, eFind, eJoin, eSplit, ↓eM1_ap, ↓eLc_ap, ↓eJoined_ap, ↓jStr_ap, ↓jFmt_ap, ↓jNil_ap, ↓eDnew_ap, ↓eDic1_ap, scl, sgn, ↓gFind_ap, ↓gJoin_ap, ↓gSplitS_ap, ↓gTupOf_ap, ↓pIx_ap, ↓pVar_ap, ↓sApp_ap, ↓sClr_ap, ↓sRev_ap, ↓sSet_ap, cast_lit, ↓bind_ap, ↓toF_ap, ixD_l, ixD_t, ixD_r, ↓in_sgn, blsD_map, intsD_map, gMulS0, c0, c1, c2, c3, c4, c5, c6, c7, c8, ve, lc, e, only_ok, o2]

theorem q_law_number (p : Int × Int) (h1 : p.1.natAbs.log2 < 1920) (h2 : p.2.natAbs.log2 < 1920) (hz : (decI p.1).length + (decI p.2).length + 1 ≤ sizeLine) : m__law_number [fr p] = some (.ret 0 (.str (numT p))) := by
  obtain ⟨a, b⟩ := p
  have h1 : a.natAbs.log2 < 1920 := h1
  have h2 : b.natAbs.log2 < 1920 := h2
  have hz : (decI a).length + (decI b).length + 1 ≤ sizeLine := hz
  have z1 : (decI a).length + ("/" : Str).length ≤ sizeLine := by rw [slash_len]; omega
  have z2 : (decI a ++ "/").length + (decI b).length ≤ sizeLine := by rw [str_cat, slash_len]; omega
  unfold m__law_number b__law_number numT
  rw [empty_cat]
  by_cases h : b = 1 <;> simp (disch := walk_at "sz") only [↓run_0, ↓run_1, ↓run_2, ↓run_3, ↓run_4, ↓run_5, ↓run_6, eq_self, entryE, endR, ↓sSeq_ap, ↓sIf_ap, ↓sRet_ap, ↓sRetN_ap, ↓sDrop_ap, ↓sAsg_ap, ↓sNext_ap, ↓sBrk_ap, ↓sCnt_ap, ↓sNever_ap, ↓sRaise_ap, ↓sPar_ap, ↓sAug_ap, ↓sFor_ap, loop_nil, loop_cons, ↓bOf_ap, ↓bAnd_ap, ↓bOr_ap, ↓bNot_ap, ↓bYes_ap, ↓eVar_ap, ↓eFz_ap, ↓eMv_ap, look, ↓eC_ap, ↓eOp_ap, ↓eAnd_ap, ↓eOr_ap, ↓eNot_ap, ↓eNeg_ap, ↓eIf_ap, ↓eTup_ap, ↓eLst_ap, ↓eCall_ap, ↓eCB_ap, ↓eSl_ap, ↓oNo_ap, ↓oSome_ap, ↓eRevL_ap, ↓eChain_ap, ↓aNil_ap, ↓aCons_ap, ↓g2_ap, ↓gOr_ap, gAdd, gMul, gAdd0, gAddS0, gSub0, gDiv0, gMod0, gMul0, gPow0, gLt0, gLe0, gGt0, gGe0, gEq0, gNe0, gIs0, gNot0, gIn0, ↓gC_ap, gLen, lenD, gAbs, gInt, gStr, gSum, gAny, gAll, gMax, gMin, ↓gDivmod_ap, ↓gList_ap, ↓gTupL_ap, ↓gSorted_ap, gSl, gRevL, gIsi, ↓gIx_ap, kPart, ↓gCat_ap, ↓gRep_ap, ↓gN_ap, ↓gF_ap, ↓gT_ap, ↓gsNil_ap, ↓gsCons_ap, withK, stb', okItem, hasK, itemsOk, isNon, listOf, lstOf, intsOf, blsOf, tyD, lstD, seqOf, ↓iLst_ap, ↓iR1_ap, ↓iR2_ap, ↓iSeq_ap, ↓iZ_ap, List.map_cons, List.map_nil, List.length_cons, List.length_nil, List.reduceReplicate, List.nil_append, List.cons_append, List.getElem?_cons_zero, List.getElem?_cons_succ, List.getElem?_nil, List.set_cons_zero, List.set_cons_succ, List.all_cons, List.all_nil, Bool.and_true, Bool.true_and, Bool.and_false, Bool.false_and, Bool.or_true, Bool.true_or, Bool.or_false, Bool.false_or, Bool.not_true, Bool.not_false, Bool.false_eq_true, if_true, if_false, ↓reduceIte, Option.map_some, Option.map_none, chk_pos, decide_eq_true_eq, flat, flat.flats, okP, okP.okPs, kit_NoneType_int, kit_NoneType_bool, kit_NoneType_str, kit_NoneType_tuple, kit_NoneType_list, kit_NoneType_dict, kit_bool_int, kit_bool_bool, kit_bool_str, kit_bool_tuple, kit_bool_list, kit_bool_dict, kit_int_int, kit_int_bool, kit_int_str, kit_int_tuple, kit_int_list, kit_int_dict, kit_str_int, kit_str_bool, kit_str_str, kit_str_tuple, kit_str_list, kit_str_dict, kit_list_int, kit_list_bool, kit_list_str, kit_list_tuple, kit_list_list, kit_list_dict, kit_tuple_int, kit_tuple_bool, kit_tuple_str, kit_tuple_tuple, kit_tuple_list, kit_tuple_dict, kit_dict_int, kit_dict_bool, kit_dict_str, kit_dict_tuple, kit_dict_list, kit_dict_dict, Nat.zero_add, Nat.reduceAdd, Nat.reduceLeDiff, Nat.reduceLT, Nat.reduceEqDiff, Nat.reduceMul, Nat.reduceSub, Nat.reducePow, Int.reduceAdd, Int.reduceSub, Int.reduceMul, Int.reduceNeg, Int.reducePow, Int.reduceLT, Int.reduceLE, Int.reduceEq, Int.reduceNe, Int.reduceToNat, beq_self_eq_true, Option.some.injEq, intsD, Nat.reduceBEq, decide_true, decide_false, ite_true, ite_false, atI_nat, atI_lit, atI_last, ixN_nat, ixN_lit, cut_nn, eqD_nn, eqD_ii, eqD_bb, eqD_ss, eqD_tt, eqD_ll, eqs_nn, eqs_cc, eqs_nc, eqs_cn, beq_str, beq_int, wipeE, lcOne_ap, ↓sTryK_ap, setO, ↓gPart_ap, ePart, eFind, eJoin, eSplit, ↓eM1_ap, ↓eLc_ap, ↓eJoined_ap, ↓jStr_ap, ↓jFmt_ap, ↓jNil_ap, ↓eDnew_ap, ↓eDic1_ap, scl, sgn, ↓gFind_ap, ↓gJoin_ap, ↓gSplitS_ap, ↓gTupOf_ap, ↓pIx_ap, ↓pVar_ap, ↓sApp_ap, ↓sClr_ap, ↓sRev_ap, ↓sSet_ap, cast_lit, ↓bind_ap, ↓toF_ap, ixD_l, ixD_t, ixD_r, ↓in_sgn, blsD_map, intsD_map, gMulS0, h]

theorem fig_loop (z : Str) : ∀ (l : List Nat) (x : Sl), ∃ y, loop (gF 1) b__law_figures_1 (l.map sgn) [.ow 0 (.str z), x] = if (l.all fun c => decide (c ∈ FIGS.cps.toList)) = true then some (.nxt [.ow 0 (.str z), y]) else some (.ret 0 (.int (-1)))
  | [], x => ⟨x, rfl⟩
  | c :: l, x => by
    obtain ⟨y, e⟩ := fig_loop z l (.ow 0 (sgn c))
    refine ⟨y, ?_⟩
    rw [List.map_cons, loop_cons]
    have ne : (Str.ofString "0123456789") = FIGS := rfl
    by_cases h : c ∈ FIGS.cps.toList
    · have e1 : b__law_figures_1 [.ow 0 (.str z), .ow 0 (sgn c)] = some (.nxt [.ow 0 (.str z), .ow 0 (sgn c)]) := by
        unfold b__law_figures_1
        rw [ne]
        simp (disch := walk_at "sz") only [↓run_0, ↓run_1, ↓run_2, ↓run_3, ↓run_4, ↓run_5, ↓run_6, eq_self, entryE, endR, ↓sSeq_ap, ↓sIf_ap, ↓sRet_ap, ↓sRetN_ap, ↓sDrop_ap, ↓sAsg_ap, ↓sNext_ap, ↓sBrk_ap, ↓sCnt_ap, ↓sNever_ap, ↓sRaise_ap, ↓sPar_ap, ↓sAug_ap, ↓sFor_ap, loop_nil, loop_cons, ↓bOf_ap, ↓bAnd_ap, ↓bOr_ap, ↓bNot_ap, ↓bYes_ap, ↓eVar_ap, ↓eFz_ap, ↓eMv_ap, look, ↓eC_ap, ↓eOp_ap, ↓eAnd_ap, ↓eOr_ap, ↓eNot_ap, ↓eNeg_ap, ↓eIf_ap, ↓eTup_ap, ↓eLst_ap, ↓eCall_ap, ↓eCB_ap, ↓eSl_ap, ↓oNo_ap, ↓oSome_ap, ↓eRevL_ap, ↓eChain_ap, ↓aNil_ap, ↓aCons_ap, ↓g2_ap, ↓gOr_ap, gAdd, gMul, gAdd0, gAddS0, gSub0, gDiv0, gMod0, gMul0, gPow0, gLt0, gLe0, gGt0, gGe0, gEq0, gNe0, gIs0, gNot0, gIn0, ↓gC_ap, gLen, lenD, gAbs, gInt, gStr, gSum, gAny, gAll, gMax, gMin, ↓gDivmod_ap, ↓gList_ap, ↓gTupL_ap, ↓gSorted_ap, gSl, gRevL, gIsi, ↓gIx_ap, kPart, ↓gCat_ap, ↓gRep_ap, ↓gN_ap, ↓gF_ap, ↓gT_ap, ↓gsNil_ap, ↓gsCons_ap, withK, stb', okItem, hasK, itemsOk, isNon, listOf, lstOf, intsOf, blsOf, tyD, lstD, seqOf, ↓iLst_ap, ↓iR1_ap, ↓iR2_ap, ↓iSeq_ap, ↓iZ_ap, List.map_cons, List.map_nil, List.length_cons, List.length_nil, List.reduceReplicate, List.nil_append, List.cons_append, List.getElem?_cons_zero, List.getElem?_cons_succ, List.getElem?_nil, List.set_cons_zero, List.set_cons_succ, List.all_cons, List.all_nil, Bool.and_true, Bool.true_and, Bool.and_false, Bool.false_and, Bool.or_true, Bool.true_or, Bool.or_false, Bool.false_or, Bool.not_true, Bool.not_false, Bool.false_eq_true, if_true, if_false, ↓reduceIte, Option.map_some, Option.map_none, chk_pos, decide_eq_true_eq, flat, flat.flats, okP, okP.okPs, kit_NoneType_int, kit_NoneType_bool, kit_NoneType_str, kit_NoneType_tuple, kit_NoneType_list, kit_NoneType_dict, kit_bool_int, kit_bool_bool, kit_bool_str, kit_bool_tuple, kit_bool_list, kit_bool_dict, kit_int_int, kit_int_bool, kit_int_str, kit_int_tuple, kit_int_list, kit_int_dict, kit_str_int, kit_str_bool, kit_str_str, kit_str_tuple, kit_str_list, kit_str_dict, kit_list_int, kit_list_bool, kit_list_str, kit_list_tuple, kit_list_list, kit_list_dict, kit_tuple_int, kit_tuple_bool, kit_tuple_str, kit_tuple_tuple, kit_tuple_list, kit_tuple_dict, kit_dict_int, kit_dict_bool, kit_dict_str, kit_dict_tuple, kit_dict_list, kit_dict_dict, Nat.zero_add, Nat.reduceAdd, Nat.reduceLeDiff, Nat.reduceLT, Nat.reduceEqDiff, Nat.reduceMul, Nat.reduceSub, Nat.reducePow, Int.reduceAdd, Int.reduceSub, Int.reduceMul, Int.reduceNeg, Int.reducePow, Int.reduceLT, Int.reduceLE, Int.reduceEq, Int.reduceNe, Int.reduceToNat, beq_self_eq_true, Option.some.injEq, intsD, Nat.reduceBEq, decide_true, decide_false, ite_true, ite_false, atI_nat, atI_lit, atI_last, ixN_nat, ixN_lit, cut_nn, eqD_nn, eqD_ii, eqD_bb, eqD_ss, eqD_tt, eqD_ll, eqs_nn, eqs_cc, eqs_nc, eqs_cn, beq_str, beq_int, wipeE, lcOne_ap, ↓sTryK_ap, setO, ↓gPart_ap, ePart, eFind, eJoin, eSplit, ↓eM1_ap, ↓eLc_ap, ↓eJoined_ap, ↓jStr_ap, ↓jFmt_ap, ↓jNil_ap, ↓eDnew_ap, ↓eDic1_ap, scl, sgn, ↓gFind_ap, ↓gJoin_ap, ↓gSplitS_ap, ↓gTupOf_ap, ↓pIx_ap, ↓pVar_ap, ↓sApp_ap, ↓sClr_ap, ↓sRev_ap, ↓sSet_ap, cast_lit, ↓bind_ap, ↓toF_ap, ixD_l, ixD_t, ixD_r, ↓in_sgn, blsD_map, intsD_map, gMulS0, h]
      show (match b__law_figures_1 [.ow 0 (.str z), .ow 0 (sgn c)] with
        | none => none
        | some (.nxt ρ2) => loop (gF 1) b__law_figures_1 (l.map sgn) ρ2
        | some (.cnt ρ2) => loop (gF 1) b__law_figures_1 (l.map sgn) ρ2
        | some (.brk ρ2) => some (.nxt ρ2)
        | some r => some r) = _
      rw [e1]
      show loop (gF 1) b__law_figures_1 (l.map sgn) [.ow 0 (.str z), .ow 0 (sgn c)] = _
      rw [e, List.all_cons, decide_eq_true h, Bool.true_and]
    · have e1 : b__law_figures_1 [.ow 0 (.str z), .ow 0 (sgn c)] = some (.ret 0 (.int (-1))) := by
        unfold b__law_figures_1
        rw [ne]
        simp (disch := walk_at "sz") only [↓run_0, ↓run_1, ↓run_2, ↓run_3, ↓run_4, ↓run_5, ↓run_6, eq_self, entryE, endR, ↓sSeq_ap, ↓sIf_ap, ↓sRet_ap, ↓sRetN_ap, ↓sDrop_ap, ↓sAsg_ap, ↓sNext_ap, ↓sBrk_ap, ↓sCnt_ap, ↓sNever_ap, ↓sRaise_ap, ↓sPar_ap, ↓sAug_ap, ↓sFor_ap, loop_nil, loop_cons, ↓bOf_ap, ↓bAnd_ap, ↓bOr_ap, ↓bNot_ap, ↓bYes_ap, ↓eVar_ap, ↓eFz_ap, ↓eMv_ap, look, ↓eC_ap, ↓eOp_ap, ↓eAnd_ap, ↓eOr_ap, ↓eNot_ap, ↓eNeg_ap, ↓eIf_ap, ↓eTup_ap, ↓eLst_ap, ↓eCall_ap, ↓eCB_ap, ↓eSl_ap, ↓oNo_ap, ↓oSome_ap, ↓eRevL_ap, ↓eChain_ap, ↓aNil_ap, ↓aCons_ap, ↓g2_ap, ↓gOr_ap, gAdd, gMul, gAdd0, gAddS0, gSub0, gDiv0, gMod0, gMul0, gPow0, gLt0, gLe0, gGt0, gGe0, gEq0, gNe0, gIs0, gNot0, gIn0, ↓gC_ap, gLen, lenD, gAbs, gInt, gStr, gSum, gAny, gAll, gMax, gMin, ↓gDivmod_ap, ↓gList_ap, ↓gTupL_ap, ↓gSorted_ap, gSl, gRevL, gIsi, ↓gIx_ap, kPart, ↓gCat_ap, ↓gRep_ap, ↓gN_ap, ↓gF_ap, ↓gT_ap, ↓gsNil_ap, ↓gsCons_ap, withK, stb', okItem, hasK, itemsOk, isNon, listOf, lstOf, intsOf, blsOf, tyD, lstD, seqOf, ↓iLst_ap, ↓iR1_ap, ↓iR2_ap, ↓iSeq_ap, ↓iZ_ap, List.map_cons, List.map_nil, List.length_cons, List.length_nil, List.reduceReplicate, List.nil_append, List.cons_append, List.getElem?_cons_zero, List.getElem?_cons_succ, List.getElem?_nil, List.set_cons_zero, List.set_cons_succ, List.all_cons, List.all_nil, Bool.and_true, Bool.true_and, Bool.and_false, Bool.false_and, Bool.or_true, Bool.true_or, Bool.or_false, Bool.false_or, Bool.not_true, Bool.not_false, Bool.false_eq_true, if_true, if_false, ↓reduceIte, Option.map_some, Option.map_none, chk_pos, decide_eq_true_eq, flat, flat.flats, okP, okP.okPs, kit_NoneType_int, kit_NoneType_bool, kit_NoneType_str, kit_NoneType_tuple, kit_NoneType_list, kit_NoneType_dict, kit_bool_int, kit_bool_bool, kit_bool_str, kit_bool_tuple, kit_bool_list, kit_bool_dict, kit_int_int, kit_int_bool, kit_int_str, kit_int_tuple, kit_int_list, kit_int_dict, kit_str_int, kit_str_bool, kit_str_str, kit_str_tuple, kit_str_list, kit_str_dict, kit_list_int, kit_list_bool, kit_list_str, kit_list_tuple, kit_list_list, kit_list_dict, kit_tuple_int, kit_tuple_bool, kit_tuple_str, kit_tuple_tuple, kit_tuple_list, kit_tuple_dict, kit_dict_int, kit_dict_bool, kit_dict_str, kit_dict_tuple, kit_dict_list, kit_dict_dict, Nat.zero_add, Nat.reduceAdd, Nat.reduceLeDiff, Nat.reduceLT, Nat.reduceEqDiff, Nat.reduceMul, Nat.reduceSub, Nat.reducePow, Int.reduceAdd, Int.reduceSub, Int.reduceMul, Int.reduceNeg, Int.reducePow, Int.reduceLT, Int.reduceLE, Int.reduceEq, Int.reduceNe, Int.reduceToNat, beq_self_eq_true, Option.some.injEq, intsD, Nat.reduceBEq, decide_true, decide_false, ite_true, ite_false, atI_nat, atI_lit, atI_last, ixN_nat, ixN_lit, cut_nn, eqD_nn, eqD_ii, eqD_bb, eqD_ss, eqD_tt, eqD_ll, eqs_nn, eqs_cc, eqs_nc, eqs_cn, beq_str, beq_int, wipeE, lcOne_ap, ↓sTryK_ap, setO, ↓gPart_ap, ePart, eFind, eJoin, eSplit, ↓eM1_ap, ↓eLc_ap, ↓eJoined_ap, ↓jStr_ap, ↓jFmt_ap, ↓jNil_ap, ↓eDnew_ap, ↓eDic1_ap, scl, sgn, ↓gFind_ap, ↓gJoin_ap, ↓gSplitS_ap, ↓gTupOf_ap, ↓pIx_ap, ↓pVar_ap, ↓sApp_ap, ↓sClr_ap, ↓sRev_ap, ↓sSet_ap, cast_lit, ↓bind_ap, ↓toF_ap, ixD_l, ixD_t, ixD_r, ↓in_sgn, blsD_map, intsD_map, gMulS0, h]
      show (match b__law_figures_1 [.ow 0 (.str z), .ow 0 (sgn c)] with
        | none => none
        | some (.nxt ρ2) => loop (gF 1) b__law_figures_1 (l.map sgn) ρ2
        | some (.cnt ρ2) => loop (gF 1) b__law_figures_1 (l.map sgn) ρ2
        | some (.brk ρ2) => some (.nxt ρ2)
        | some r => some r) = _
      rw [e1, List.all_cons, decide_eq_false h, Bool.false_and]
      rfl
theorem q_figures (z : Str) (h : z.length ≤ 1000) : m__law_figures [.str z] = some (.ret 0 (.int (figD (wholeOf z)))) := by
  have hz : z.length ≤ sizeLine := Nat.le_trans h (by decide)
  unfold m__law_figures b__law_figures wholeOf
  by_cases h1 : z.length = 0
  · rw [if_pos (by omega)]
    simp (disch := walk_at "sz") only [↓run_0, ↓run_1, ↓run_2, ↓run_3, ↓run_4, ↓run_5, ↓run_6, eq_self, entryE, endR, ↓sSeq_ap, ↓sIf_ap, ↓sRet_ap, ↓sRetN_ap, ↓sDrop_ap, ↓sAsg_ap, ↓sNext_ap, ↓sBrk_ap, ↓sCnt_ap, ↓sNever_ap, ↓sRaise_ap, ↓sPar_ap, ↓sAug_ap, ↓sFor_ap, loop_nil, loop_cons, ↓bOf_ap, ↓bAnd_ap, ↓bOr_ap, ↓bNot_ap, ↓bYes_ap, ↓eVar_ap, ↓eFz_ap, ↓eMv_ap, look, ↓eC_ap, ↓eOp_ap, ↓eAnd_ap, ↓eOr_ap, ↓eNot_ap, ↓eNeg_ap, ↓eIf_ap, ↓eTup_ap, ↓eLst_ap, ↓eCall_ap, ↓eCB_ap, ↓eSl_ap, ↓oNo_ap, ↓oSome_ap, ↓eRevL_ap, ↓eChain_ap, ↓aNil_ap, ↓aCons_ap, ↓g2_ap, ↓gOr_ap, gAdd, gMul, gAdd0, gAddS0, gSub0, gDiv0, gMod0, gMul0, gPow0, gLt0, gLe0, gGt0, gGe0, gEq0, gNe0, gIs0, gNot0, gIn0, ↓gC_ap, gLen, lenD, gAbs, gInt, gStr, gSum, gAny, gAll, gMax, gMin, ↓gDivmod_ap, ↓gList_ap, ↓gTupL_ap, ↓gSorted_ap, gSl, gRevL, gIsi, ↓gIx_ap, kPart, ↓gCat_ap, ↓gRep_ap, ↓gN_ap, ↓gF_ap, ↓gT_ap, ↓gsNil_ap, ↓gsCons_ap, withK, stb', okItem, hasK, itemsOk, isNon, listOf, lstOf, intsOf, blsOf, tyD, lstD, seqOf, ↓iLst_ap, ↓iR1_ap, ↓iR2_ap, ↓iSeq_ap, ↓iZ_ap, List.map_cons, List.map_nil, List.length_cons, List.length_nil, List.reduceReplicate, List.nil_append, List.cons_append, List.getElem?_cons_zero, List.getElem?_cons_succ, List.getElem?_nil, List.set_cons_zero, List.set_cons_succ, List.all_cons, List.all_nil, Bool.and_true, Bool.true_and, Bool.and_false, Bool.false_and, Bool.or_true, Bool.true_or, Bool.or_false, Bool.false_or, Bool.not_true, Bool.not_false, Bool.false_eq_true, if_true, if_false, ↓reduceIte, Option.map_some, Option.map_none, chk_pos, decide_eq_true_eq, flat, flat.flats, okP, okP.okPs, kit_NoneType_int, kit_NoneType_bool, kit_NoneType_str, kit_NoneType_tuple, kit_NoneType_list, kit_NoneType_dict, kit_bool_int, kit_bool_bool, kit_bool_str, kit_bool_tuple, kit_bool_list, kit_bool_dict, kit_int_int, kit_int_bool, kit_int_str, kit_int_tuple, kit_int_list, kit_int_dict, kit_str_int, kit_str_bool, kit_str_str, kit_str_tuple, kit_str_list, kit_str_dict, kit_list_int, kit_list_bool, kit_list_str, kit_list_tuple, kit_list_list, kit_list_dict, kit_tuple_int, kit_tuple_bool, kit_tuple_str, kit_tuple_tuple, kit_tuple_list, kit_tuple_dict, kit_dict_int, kit_dict_bool, kit_dict_str, kit_dict_tuple, kit_dict_list, kit_dict_dict, Nat.zero_add, Nat.reduceAdd, Nat.reduceLeDiff, Nat.reduceLT, Nat.reduceEqDiff, Nat.reduceMul, Nat.reduceSub, Nat.reducePow, Int.reduceAdd, Int.reduceSub, Int.reduceMul, Int.reduceNeg, Int.reducePow, Int.reduceLT, Int.reduceLE, Int.reduceEq, Int.reduceNe, Int.reduceToNat, beq_self_eq_true, Option.some.injEq, intsD, Nat.reduceBEq, decide_true, decide_false, ite_true, ite_false, atI_nat, atI_lit, atI_last, ixN_nat, ixN_lit, cut_nn, eqD_nn, eqD_ii, eqD_bb, eqD_ss, eqD_tt, eqD_ll, eqs_nn, eqs_cc, eqs_nc, eqs_cn, beq_str, beq_int, wipeE, lcOne_ap, ↓sTryK_ap, setO, ↓gPart_ap, ePart, eFind, eJoin, eSplit, ↓eM1_ap, ↓eLc_ap, ↓eJoined_ap, ↓jStr_ap, ↓jFmt_ap, ↓jNil_ap, ↓eDnew_ap, ↓eDic1_ap, scl, sgn, ↓gFind_ap, ↓gJoin_ap, ↓gSplitS_ap, ↓gTupOf_ap, ↓pIx_ap, ↓pVar_ap, ↓sApp_ap, ↓sClr_ap, ↓sRev_ap, ↓sSet_ap, cast_lit, ↓bind_ap, ↓toF_ap, ixD_l, ixD_t, ixD_r, ↓in_sgn, blsD_map, intsD_map, gMulS0, len_zero, h1, figD]
  by_cases h3 : (40 : Int) < z.length
  · rw [if_pos (by omega)]
    simp (disch := walk_at "sz") only [↓run_0, ↓run_1, ↓run_2, ↓run_3, ↓run_4, ↓run_5, ↓run_6, eq_self, entryE, endR, ↓sSeq_ap, ↓sIf_ap, ↓sRet_ap, ↓sRetN_ap, ↓sDrop_ap, ↓sAsg_ap, ↓sNext_ap, ↓sBrk_ap, ↓sCnt_ap, ↓sNever_ap, ↓sRaise_ap, ↓sPar_ap, ↓sAug_ap, ↓sFor_ap, loop_nil, loop_cons, ↓bOf_ap, ↓bAnd_ap, ↓bOr_ap, ↓bNot_ap, ↓bYes_ap, ↓eVar_ap, ↓eFz_ap, ↓eMv_ap, look, ↓eC_ap, ↓eOp_ap, ↓eAnd_ap, ↓eOr_ap, ↓eNot_ap, ↓eNeg_ap, ↓eIf_ap, ↓eTup_ap, ↓eLst_ap, ↓eCall_ap, ↓eCB_ap, ↓eSl_ap, ↓oNo_ap, ↓oSome_ap, ↓eRevL_ap, ↓eChain_ap, ↓aNil_ap, ↓aCons_ap, ↓g2_ap, ↓gOr_ap, gAdd, gMul, gAdd0, gAddS0, gSub0, gDiv0, gMod0, gMul0, gPow0, gLt0, gLe0, gGt0, gGe0, gEq0, gNe0, gIs0, gNot0, gIn0, ↓gC_ap, gLen, lenD, gAbs, gInt, gStr, gSum, gAny, gAll, gMax, gMin, ↓gDivmod_ap, ↓gList_ap, ↓gTupL_ap, ↓gSorted_ap, gSl, gRevL, gIsi, ↓gIx_ap, kPart, ↓gCat_ap, ↓gRep_ap, ↓gN_ap, ↓gF_ap, ↓gT_ap, ↓gsNil_ap, ↓gsCons_ap, withK, stb', okItem, hasK, itemsOk, isNon, listOf, lstOf, intsOf, blsOf, tyD, lstD, seqOf, ↓iLst_ap, ↓iR1_ap, ↓iR2_ap, ↓iSeq_ap, ↓iZ_ap, List.map_cons, List.map_nil, List.length_cons, List.length_nil, List.reduceReplicate, List.nil_append, List.cons_append, List.getElem?_cons_zero, List.getElem?_cons_succ, List.getElem?_nil, List.set_cons_zero, List.set_cons_succ, List.all_cons, List.all_nil, Bool.and_true, Bool.true_and, Bool.and_false, Bool.false_and, Bool.or_true, Bool.true_or, Bool.or_false, Bool.false_or, Bool.not_true, Bool.not_false, Bool.false_eq_true, if_true, if_false, ↓reduceIte, Option.map_some, Option.map_none, chk_pos, decide_eq_true_eq, flat, flat.flats, okP, okP.okPs, kit_NoneType_int, kit_NoneType_bool, kit_NoneType_str, kit_NoneType_tuple, kit_NoneType_list, kit_NoneType_dict, kit_bool_int, kit_bool_bool, kit_bool_str, kit_bool_tuple, kit_bool_list, kit_bool_dict, kit_int_int, kit_int_bool, kit_int_str, kit_int_tuple, kit_int_list, kit_int_dict, kit_str_int, kit_str_bool, kit_str_str, kit_str_tuple, kit_str_list, kit_str_dict, kit_list_int, kit_list_bool, kit_list_str, kit_list_tuple, kit_list_list, kit_list_dict, kit_tuple_int, kit_tuple_bool, kit_tuple_str, kit_tuple_tuple, kit_tuple_list, kit_tuple_dict, kit_dict_int, kit_dict_bool, kit_dict_str, kit_dict_tuple, kit_dict_list, kit_dict_dict, Nat.zero_add, Nat.reduceAdd, Nat.reduceLeDiff, Nat.reduceLT, Nat.reduceEqDiff, Nat.reduceMul, Nat.reduceSub, Nat.reducePow, Int.reduceAdd, Int.reduceSub, Int.reduceMul, Int.reduceNeg, Int.reducePow, Int.reduceLT, Int.reduceLE, Int.reduceEq, Int.reduceNe, Int.reduceToNat, beq_self_eq_true, Option.some.injEq, intsD, Nat.reduceBEq, decide_true, decide_false, ite_true, ite_false, atI_nat, atI_lit, atI_last, ixN_nat, ixN_lit, cut_nn, eqD_nn, eqD_ii, eqD_bb, eqD_ss, eqD_tt, eqD_ll, eqs_nn, eqs_cc, eqs_nc, eqs_cn, beq_str, beq_int, wipeE, lcOne_ap, ↓sTryK_ap, setO, ↓gPart_ap, ePart, eFind, eJoin, eSplit, ↓eM1_ap, ↓eLc_ap, ↓eJoined_ap, ↓jStr_ap, ↓jFmt_ap, ↓jNil_ap, ↓eDnew_ap, ↓eDic1_ap, scl, sgn, ↓gFind_ap, ↓gJoin_ap, ↓gSplitS_ap, ↓gTupOf_ap, ↓pIx_ap, ↓pVar_ap, ↓sApp_ap, ↓sClr_ap, ↓sRev_ap, ↓sSet_ap, cast_lit, ↓bind_ap, ↓toF_ap, ixD_l, ixD_t, ixD_r, ↓in_sgn, blsD_map, intsD_map, gMulS0, len_zero, h1, h3, figD]
  rw [if_neg (by omega)]
  have hl : z.cps.toList.length = z.length := Array.length_toList
  obtain ⟨c, r, ez⟩ : ∃ c r, z.cps.toList = c :: r := by
    cases e : z.cps.toList with
    | nil =>
      rw [e] at hl
      exact absurd hl (by show ¬ 0 = _; omega)
    | cons c r => exact ⟨c, r, rfl⟩
  have hx : ixD (.str z) 0 = some (.str ⟨#[c]⟩) := by
    show (if z.length ≤ sizeLine then (atI z.cps.toList ((0 : Nat) : Int)).map _ else none) = _
    rw [if_pos hz, atI_nat, ez]
    rfl
  have hd : z.cps.toList.headD 0 = c := by rw [ez]; rfl
  have e48 : ((⟨#[c]⟩ : Str) = "0") = (c = 48) := by
    apply propext
    constructor
    · intro q
      have q2 : (⟨#[c]⟩ : Str).cps.toList = ("0" : Str).cps.toList := by rw [q]
      have q3 : ("0" : Str).cps.toList = [48] := by decide +kernel
      rw [q3] at q2
      exact (List.cons.inj q2).1
    · rintro rfl
      decide +kernel
  rw [hd]
  obtain ⟨y, el⟩ := fig_loop z z.cps.toList .no
  by_cases h4 : (allIn FIGS z = true)
  · have it : PySem.intText? z = some (NumText.digitsVal z.cps.toList : Int) := intText_digits (figs_dig h4) (by rw [ez]; exact List.cons_ne_nil _ _) (by omega)
    have l640 : z.length ≤ 640 := by omega
    rw [if_neg (by rw [h4]; simp)]
    rw [show (z.cps.toList.all fun c => decide (c ∈ FIGS.cps.toList)) = true from h4, if_pos rfl] at el
    by_cases h6 : (1 : Int) < z.length
    · by_cases h5 : c = 48
      · subst h5
        rw [if_pos ⟨rfl, by omega⟩]
        simp (disch := walk_at "sz") only [↓run_0, ↓run_1, ↓run_2, ↓run_3, ↓run_4, ↓run_5, ↓run_6, eq_self, entryE, endR, ↓sSeq_ap, ↓sIf_ap, ↓sRet_ap, ↓sRetN_ap, ↓sDrop_ap, ↓sAsg_ap, ↓sNext_ap, ↓sBrk_ap, ↓sCnt_ap, ↓sNever_ap, ↓sRaise_ap, ↓sPar_ap, ↓sAug_ap, ↓sFor_ap, loop_nil, loop_cons, ↓bOf_ap, ↓bAnd_ap, ↓bOr_ap, ↓bNot_ap, ↓bYes_ap, ↓eVar_ap, ↓eFz_ap, ↓eMv_ap, look, ↓eC_ap, ↓eOp_ap, ↓eAnd_ap, ↓eOr_ap, ↓eNot_ap, ↓eNeg_ap, ↓eIf_ap, ↓eTup_ap, ↓eLst_ap, ↓eCall_ap, ↓eCB_ap, ↓eSl_ap, ↓oNo_ap, ↓oSome_ap, ↓eRevL_ap, ↓eChain_ap, ↓aNil_ap, ↓aCons_ap, ↓g2_ap, ↓gOr_ap, gAdd, gMul, gAdd0, gAddS0, gSub0, gDiv0, gMod0, gMul0, gPow0, gLt0, gLe0, gGt0, gGe0, gEq0, gNe0, gIs0, gNot0, gIn0, ↓gC_ap, gLen, lenD, gAbs, gInt, gStr, gSum, gAny, gAll, gMax, gMin, ↓gDivmod_ap, ↓gList_ap, ↓gTupL_ap, ↓gSorted_ap, gSl, gRevL, gIsi, ↓gIx_ap, kPart, ↓gCat_ap, ↓gRep_ap, ↓gN_ap, ↓gF_ap, ↓gT_ap, ↓gsNil_ap, ↓gsCons_ap, withK, stb', okItem, hasK, itemsOk, isNon, listOf, lstOf, intsOf, blsOf, tyD, lstD, seqOf, ↓iLst_ap, ↓iR1_ap, ↓iR2_ap, ↓iSeq_ap, ↓iZ_ap, List.map_cons, List.map_nil, List.length_cons, List.length_nil, List.reduceReplicate, List.nil_append, List.cons_append, List.getElem?_cons_zero, List.getElem?_cons_succ, List.getElem?_nil, List.set_cons_zero, List.set_cons_succ, List.all_cons, List.all_nil, Bool.and_true, Bool.true_and, Bool.and_false, Bool.false_and, Bool.or_true, Bool.true_or, Bool.or_false, Bool.false_or, Bool.not_true, Bool.not_false, Bool.false_eq_true, if_true, if_false, ↓reduceIte, Option.map_some, Option.map_none, chk_pos, decide_eq_true_eq, flat, flat.flats, okP, okP.okPs, kit_NoneType_int, kit_NoneType_bool, kit_NoneType_str, kit_NoneType_tuple, kit_NoneType_list, kit_NoneType_dict, kit_bool_int, kit_bool_bool, kit_bool_str, kit_bool_tuple, kit_bool_list, kit_bool_dict, kit_int_int, kit_int_bool, kit_int_str, kit_int_tuple, kit_int_list, kit_int_dict, kit_str_int, kit_str_bool, kit_str_str, kit_str_tuple, kit_str_list, kit_str_dict, kit_list_int, kit_list_bool, kit_list_str, kit_list_tuple, kit_list_list, kit_list_dict, kit_tuple_int, kit_tuple_bool, kit_tuple_str, kit_tuple_tuple, kit_tuple_list, kit_tuple_dict, kit_dict_int, kit_dict_bool, kit_dict_str, kit_dict_tuple, kit_dict_list, kit_dict_dict, Nat.zero_add, Nat.reduceAdd, Nat.reduceLeDiff, Nat.reduceLT, Nat.reduceEqDiff, Nat.reduceMul, Nat.reduceSub, Nat.reducePow, Int.reduceAdd, Int.reduceSub, Int.reduceMul, Int.reduceNeg, Int.reducePow, Int.reduceLT, Int.reduceLE, Int.reduceEq, Int.reduceNe, Int.reduceToNat, beq_self_eq_true, Option.some.injEq, intsD, Nat.reduceBEq, decide_true, decide_false, ite_true, ite_false, atI_nat, atI_lit, atI_last, ixN_nat, ixN_lit, cut_nn, eqD_nn, eqD_ii, eqD_bb, eqD_ss, eqD_tt, eqD_ll, eqs_nn, eqs_cc, eqs_nc, eqs_cn, beq_str, beq_int, wipeE, lcOne_ap, ↓sTryK_ap, setO, ↓gPart_ap, ePart, eFind, eJoin, eSplit, ↓eM1_ap, ↓eLc_ap, ↓eJoined_ap, ↓jStr_ap, ↓jFmt_ap, ↓jNil_ap, ↓eDnew_ap, ↓eDic1_ap, scl, sgn, ↓gFind_ap, ↓gJoin_ap, ↓gSplitS_ap, ↓gTupOf_ap, ↓pIx_ap, ↓pVar_ap, ↓sApp_ap, ↓sClr_ap, ↓sRev_ap, ↓sSet_ap, cast_lit, ↓bind_ap, ↓toF_ap, ixD_l, ixD_t, ixD_r, ↓in_sgn, blsD_map, intsD_map, gMulS0, len_zero, h1, h3, h6, hx, e48, figD]
      · rw [if_neg (fun z => h5 z.1)]
        simp (disch := walk_at "sz") only [↓run_0, ↓run_1, ↓run_2, ↓run_3, ↓run_4, ↓run_5, ↓run_6, eq_self, entryE, endR, ↓sSeq_ap, ↓sIf_ap, ↓sRet_ap, ↓sRetN_ap, ↓sDrop_ap, ↓sAsg_ap, ↓sNext_ap, ↓sBrk_ap, ↓sCnt_ap, ↓sNever_ap, ↓sRaise_ap, ↓sPar_ap, ↓sAug_ap, ↓sFor_ap, loop_nil, loop_cons, ↓bOf_ap, ↓bAnd_ap, ↓bOr_ap, ↓bNot_ap, ↓bYes_ap, ↓eVar_ap, ↓eFz_ap, ↓eMv_ap, look, ↓eC_ap, ↓eOp_ap, ↓eAnd_ap, ↓eOr_ap, ↓eNot_ap, ↓eNeg_ap, ↓eIf_ap, ↓eTup_ap, ↓eLst_ap, ↓eCall_ap, ↓eCB_ap, ↓eSl_ap, ↓oNo_ap, ↓oSome_ap, ↓eRevL_ap, ↓eChain_ap, ↓aNil_ap, ↓aCons_ap, ↓g2_ap, ↓gOr_ap, gAdd, gMul, gAdd0, gAddS0, gSub0, gDiv0, gMod0, gMul0, gPow0, gLt0, gLe0, gGt0, gGe0, gEq0, gNe0, gIs0, gNot0, gIn0, ↓gC_ap, gLen, lenD, gAbs, gInt, gStr, gSum, gAny, gAll, gMax, gMin, ↓gDivmod_ap, ↓gList_ap, ↓gTupL_ap, ↓gSorted_ap, gSl, gRevL, gIsi, ↓gIx_ap, kPart, ↓gCat_ap, ↓gRep_ap, ↓gN_ap, ↓gF_ap, ↓gT_ap, ↓gsNil_ap, ↓gsCons_ap, withK, stb', okItem, hasK, itemsOk, isNon, listOf, lstOf, intsOf, blsOf, tyD, lstD, seqOf, ↓iLst_ap, ↓iR1_ap, ↓iR2_ap, ↓iSeq_ap, ↓iZ_ap, List.map_cons, List.map_nil, List.length_cons, List.length_nil, List.reduceReplicate, List.nil_append, List.cons_append, List.getElem?_cons_zero, List.getElem?_cons_succ, List.getElem?_nil, List.set_cons_zero, List.set_cons_succ, List.all_cons, List.all_nil, Bool.and_true, Bool.true_and, Bool.and_false, Bool.false_and, Bool.or_true, Bool.true_or, Bool.or_false, Bool.false_or, Bool.not_true, Bool.not_false, Bool.false_eq_true, if_true, if_false, ↓reduceIte, Option.map_some, Option.map_none, chk_pos, decide_eq_true_eq, flat, flat.flats, okP, okP.okPs, kit_NoneType_int, kit_NoneType_bool, kit_NoneType_str, kit_NoneType_tuple, kit_NoneType_list, kit_NoneType_dict, kit_bool_int, kit_bool_bool, kit_bool_str, kit_bool_tuple, kit_bool_list, kit_bool_dict, kit_int_int, kit_int_bool, kit_int_str, kit_int_tuple, kit_int_list, kit_int_dict, kit_str_int, kit_str_bool, kit_str_str, kit_str_tuple, kit_str_list, kit_str_dict, kit_list_int, kit_list_bool, kit_list_str, kit_list_tuple, kit_list_list, kit_list_dict, kit_tuple_int, kit_tuple_bool, kit_tuple_str, kit_tuple_tuple, kit_tuple_list, kit_tuple_dict, kit_dict_int, kit_dict_bool, kit_dict_str, kit_dict_tuple, kit_dict_list, kit_dict_dict, Nat.zero_add, Nat.reduceAdd, Nat.reduceLeDiff, Nat.reduceLT, Nat.reduceEqDiff, Nat.reduceMul, Nat.reduceSub, Nat.reducePow, Int.reduceAdd, Int.reduceSub, Int.reduceMul, Int.reduceNeg, Int.reducePow, Int.reduceLT, Int.reduceLE, Int.reduceEq, Int.reduceNe, Int.reduceToNat, beq_self_eq_true, Option.some.injEq, intsD, Nat.reduceBEq, decide_true, decide_false, ite_true, ite_false, atI_nat, atI_lit, atI_last, ixN_nat, ixN_lit, cut_nn, eqD_nn, eqD_ii, eqD_bb, eqD_ss, eqD_tt, eqD_ll, eqs_nn, eqs_cc, eqs_nc, eqs_cn, beq_str, beq_int, wipeE, lcOne_ap, ↓sTryK_ap, setO, ↓gPart_ap, ePart, eFind, eJoin, eSplit, ↓eM1_ap, ↓eLc_ap, ↓eJoined_ap, ↓jStr_ap, ↓jFmt_ap, ↓jNil_ap, ↓eDnew_ap, ↓eDic1_ap, scl, sgn, ↓gFind_ap, ↓gJoin_ap, ↓gSplitS_ap, ↓gTupOf_ap, ↓pIx_ap, ↓pVar_ap, ↓sApp_ap, ↓sClr_ap, ↓sRev_ap, ↓sSet_ap, cast_lit, ↓bind_ap, ↓toF_ap, ixD_l, ixD_t, ixD_r, ↓in_sgn, blsD_map, intsD_map, gMulS0, len_zero, h1, h3, h6, hx, e48, h5, el, it, figD]
    · rw [if_neg (fun z => by omega)]
      simp (disch := walk_at "sz") only [↓run_0, ↓run_1, ↓run_2, ↓run_3, ↓run_4, ↓run_5, ↓run_6, eq_self, entryE, endR, ↓sSeq_ap, ↓sIf_ap, ↓sRet_ap, ↓sRetN_ap, ↓sDrop_ap, ↓sAsg_ap, ↓sNext_ap, ↓sBrk_ap, ↓sCnt_ap, ↓sNever_ap, ↓sRaise_ap, ↓sPar_ap, ↓sAug_ap, ↓sFor_ap, loop_nil, loop_cons, ↓bOf_ap, ↓bAnd_ap, ↓bOr_ap, ↓bNot_ap, ↓bYes_ap, ↓eVar_ap, ↓eFz_ap, ↓eMv_ap, look, ↓eC_ap, ↓eOp_ap, ↓eAnd_ap, ↓eOr_ap, ↓eNot_ap, ↓eNeg_ap, ↓eIf_ap, ↓eTup_ap, ↓eLst_ap, ↓eCall_ap, ↓eCB_ap, ↓eSl_ap, ↓oNo_ap, ↓oSome_ap, ↓eRevL_ap, ↓eChain_ap, ↓aNil_ap, ↓aCons_ap, ↓g2_ap, ↓gOr_ap, gAdd, gMul, gAdd0, gAddS0, gSub0, gDiv0, gMod0, gMul0, gPow0, gLt0, gLe0, gGt0, gGe0, gEq0, gNe0, gIs0, gNot0, gIn0, ↓gC_ap, gLen, lenD, gAbs, gInt, gStr, gSum, gAny, gAll, gMax, gMin, ↓gDivmod_ap, ↓gList_ap, ↓gTupL_ap, ↓gSorted_ap, gSl, gRevL, gIsi, ↓gIx_ap, kPart, ↓gCat_ap, ↓gRep_ap, ↓gN_ap, ↓gF_ap, ↓gT_ap, ↓gsNil_ap, ↓gsCons_ap, withK, stb', okItem, hasK, itemsOk, isNon, listOf, lstOf, intsOf, blsOf, tyD, lstD, seqOf, ↓iLst_ap, ↓iR1_ap, ↓iR2_ap, ↓iSeq_ap, ↓iZ_ap, List.map_cons, List.map_nil, List.length_cons, List.length_nil, List.reduceReplicate, List.nil_append, List.cons_append, List.getElem?_cons_zero, List.getElem?_cons_succ, List.getElem?_nil, List.set_cons_zero, List.set_cons_succ, List.all_cons, List.all_nil, Bool.and_true, Bool.true_and, Bool.and_false, Bool.false_and, Bool.or_true, Bool.true_or, Bool.or_false, Bool.false_or, Bool.not_true, Bool.not_false, Bool.false_eq_true, if_true, if_false, ↓reduceIte, Option.map_some, Option.map_none, chk_pos, decide_eq_true_eq, flat, flat.flats, okP, okP.okPs, kit_NoneType_int, kit_NoneType_bool, kit_NoneType_str, kit_NoneType_tuple, kit_NoneType_list, kit_NoneType_dict, kit_bool_int, kit_bool_bool, kit_bool_str, kit_bool_tuple, kit_bool_list, kit_bool_dict, kit_int_int, kit_int_bool, kit_int_str, kit_int_tuple, kit_int_list, kit_int_dict, kit_str_int, kit_str_bool, kit_str_str, kit_str_tuple, kit_str_list, kit_str_dict, kit_list_int, kit_list_bool, kit_list_str, kit_list_tuple, kit_list_list, kit_list_dict, kit_tuple_int, kit_tuple_bool, kit_tuple_str, kit_tuple_tuple, kit_tuple_list, kit_tuple_dict, kit_dict_int, kit_dict_bool, kit_dict_str, kit_dict_tuple, kit_dict_list, kit_dict_dict, Nat.zero_add, Nat.reduceAdd, Nat.reduceLeDiff, Nat.reduceLT, Nat.reduceEqDiff, Nat.reduceMul, Nat.reduceSub, Nat.reducePow, Int.reduceAdd, Int.reduceSub, Int.reduceMul, Int.reduceNeg, Int.reducePow, Int.reduceLT, Int.reduceLE, Int.reduceEq, Int.reduceNe, Int.reduceToNat, beq_self_eq_true, Option.some.injEq, intsD, Nat.reduceBEq, decide_true, decide_false, ite_true, ite_false, atI_nat, atI_lit, atI_last, ixN_nat, ixN_lit, cut_nn, eqD_nn, eqD_ii, eqD_bb, eqD_ss, eqD_tt, eqD_ll, eqs_nn, eqs_cc, eqs_nc, eqs_cn, beq_str, beq_int, wipeE, lcOne_ap, ↓sTryK_ap, setO, ↓gPart_ap, ePart, eFind, eJoin, eSplit, ↓eM1_ap, ↓eLc_ap, ↓eJoined_ap, ↓jStr_ap, ↓jFmt_ap, ↓jNil_ap, ↓eDnew_ap, ↓eDic1_ap, scl, sgn, ↓gFind_ap, ↓gJoin_ap, ↓gSplitS_ap, ↓gTupOf_ap, ↓pIx_ap, ↓pVar_ap, ↓sApp_ap, ↓sClr_ap, ↓sRev_ap, ↓sSet_ap, cast_lit, ↓bind_ap, ↓toF_ap, ixD_l, ixD_t, ixD_r, ↓in_sgn, blsD_map, intsD_map, gMulS0, len_zero, h1, h3, h6, hx, e48, el, it, figD]
  · rw [if_pos (by simpa using h4)]
    have h4' : ¬ (z.cps.toList.all fun c => decide (c ∈ FIGS.cps.toList)) = true := h4
    rw [if_neg h4'] at el
    by_cases h6 : (1 : Int) < z.length
    · by_cases h5 : c = 48
      · subst h5
        simp (disch := walk_at "sz") only [↓run_0, ↓run_1, ↓run_2, ↓run_3, ↓run_4, ↓run_5, ↓run_6, eq_self, entryE, endR, ↓sSeq_ap, ↓sIf_ap, ↓sRet_ap, ↓sRetN_ap, ↓sDrop_ap, ↓sAsg_ap, ↓sNext_ap, ↓sBrk_ap, ↓sCnt_ap, ↓sNever_ap, ↓sRaise_ap, ↓sPar_ap, ↓sAug_ap, ↓sFor_ap, loop_nil, loop_cons, ↓bOf_ap, ↓bAnd_ap, ↓bOr_ap, ↓bNot_ap, ↓bYes_ap, ↓eVar_ap, ↓eFz_ap, ↓eMv_ap, look, ↓eC_ap, ↓eOp_ap, ↓eAnd_ap, ↓eOr_ap, ↓eNot_ap, ↓eNeg_ap, ↓eIf_ap, ↓eTup_ap, ↓eLst_ap, ↓eCall_ap, ↓eCB_ap, ↓eSl_ap, ↓oNo_ap, ↓oSome_ap, ↓eRevL_ap, ↓eChain_ap, ↓aNil_ap, ↓aCons_ap, ↓g2_ap, ↓gOr_ap, gAdd, gMul, gAdd0, gAddS0, gSub0, gDiv0, gMod0, gMul0, gPow0, gLt0, gLe0, gGt0, gGe0, gEq0, gNe0, gIs0, gNot0, gIn0, ↓gC_ap, gLen, lenD, gAbs, gInt, gStr, gSum, gAny, gAll, gMax, gMin, ↓gDivmod_ap, ↓gList_ap, ↓gTupL_ap, ↓gSorted_ap, gSl, gRevL, gIsi, ↓gIx_ap, kPart, ↓gCat_ap, ↓gRep_ap, ↓gN_ap, ↓gF_ap, ↓gT_ap, ↓gsNil_ap, ↓gsCons_ap, withK, stb', okItem, hasK, itemsOk, isNon, listOf, lstOf, intsOf, blsOf, tyD, lstD, seqOf, ↓iLst_ap, ↓iR1_ap, ↓iR2_ap, ↓iSeq_ap, ↓iZ_ap, List.map_cons, List.map_nil, List.length_cons, List.length_nil, List.reduceReplicate, List.nil_append, List.cons_append, List.getElem?_cons_zero, List.getElem?_cons_succ, List.getElem?_nil, List.set_cons_zero, List.set_cons_succ, List.all_cons, List.all_nil, Bool.and_true, Bool.true_and, Bool.and_false, Bool.false_and, Bool.or_true, Bool.true_or, Bool.or_false, Bool.false_or, Bool.not_true, Bool.not_false, Bool.false_eq_true, if_true, if_false, ↓reduceIte, Option.map_some, Option.map_none, chk_pos, decide_eq_true_eq, flat, flat.flats, okP, okP.okPs, kit_NoneType_int, kit_NoneType_bool, kit_NoneType_str, kit_NoneType_tuple, kit_NoneType_list, kit_NoneType_dict, kit_bool_int, kit_bool_bool, kit_bool_str, kit_bool_tuple, kit_bool_list, kit_bool_dict, kit_int_int, kit_int_bool, kit_int_str, kit_int_tuple, kit_int_list, kit_int_dict, kit_str_int, kit_str_bool, kit_str_str, kit_str_tuple, kit_str_list, kit_str_dict, kit_list_int, kit_list_bool, kit_list_str, kit_list_tuple, kit_list_list, kit_list_dict, kit_tuple_int, kit_tuple_bool, kit_tuple_str, kit_tuple_tuple, kit_tuple_list, kit_tuple_dict, kit_dict_int, kit_dict_bool, kit_dict_str, kit_dict_tuple, kit_dict_list, kit_dict_dict, Nat.zero_add, Nat.reduceAdd, Nat.reduceLeDiff, Nat.reduceLT, Nat.reduceEqDiff, Nat.reduceMul, Nat.reduceSub, Nat.reducePow, Int.reduceAdd, Int.reduceSub, Int.reduceMul, Int.reduceNeg, Int.reducePow, Int.reduceLT, Int.reduceLE, Int.reduceEq, Int.reduceNe, Int.reduceToNat, beq_self_eq_true, Option.some.injEq, intsD, Nat.reduceBEq, decide_true, decide_false, ite_true, ite_false, atI_nat, atI_lit, atI_last, ixN_nat, ixN_lit, cut_nn, eqD_nn, eqD_ii, eqD_bb, eqD_ss, eqD_tt, eqD_ll, eqs_nn, eqs_cc, eqs_nc, eqs_cn, beq_str, beq_int, wipeE, lcOne_ap, ↓sTryK_ap, setO, ↓gPart_ap, ePart, eFind, eJoin, eSplit, ↓eM1_ap, ↓eLc_ap, ↓eJoined_ap, ↓jStr_ap, ↓jFmt_ap, ↓jNil_ap, ↓eDnew_ap, ↓eDic1_ap, scl, sgn, ↓gFind_ap, ↓gJoin_ap, ↓gSplitS_ap, ↓gTupOf_ap, ↓pIx_ap, ↓pVar_ap, ↓sApp_ap, ↓sClr_ap, ↓sRev_ap, ↓sSet_ap, cast_lit, ↓bind_ap, ↓toF_ap, ixD_l, ixD_t, ixD_r, ↓in_sgn, blsD_map, intsD_map, gMulS0, len_zero, h1, h3, h6, hx, e48, figD]
      · simp (disch := walk_at "sz") only [↓run_0, ↓run_1, ↓run_2, ↓run_3, ↓run_4, ↓run_5, ↓run_6, eq_self, entryE, endR, ↓sSeq_ap, ↓sIf_ap, ↓sRet_ap, ↓sRetN_ap, ↓sDrop_ap, ↓sAsg_ap, ↓sNext_ap, ↓sBrk_ap, ↓sCnt_ap, ↓sNever_ap, ↓sRaise_ap, ↓sPar_ap, ↓sAug_ap, ↓sFor_ap, loop_nil, loop_cons, ↓bOf_ap, ↓bAnd_ap, ↓bOr_ap, ↓bNot_ap, ↓bYes_ap, ↓eVar_ap, ↓eFz_ap, ↓eMv_ap, look, ↓eC_ap, ↓eOp_ap, ↓eAnd_ap, ↓eOr_ap, ↓eNot_ap, ↓eNeg_ap, ↓eIf_ap, ↓eTup_ap, ↓eLst_ap, ↓eCall_ap, ↓eCB_ap, ↓eSl_ap, ↓oNo_ap, ↓oSome_ap, ↓eRevL_ap, ↓eChain_ap, ↓aNil_ap, ↓aCons_ap, ↓g2_ap, ↓gOr_ap, gAdd, gMul, gAdd0, gAddS0, gSub0, gDiv0, gMod0, gMul0, gPow0, gLt0, gLe0, gGt0, gGe0, gEq0, gNe0, gIs0, gNot0, gIn0, ↓gC_ap, gLen, lenD, gAbs, gInt, gStr, gSum, gAny, gAll, gMax, gMin, ↓gDivmod_ap, ↓gList_ap, ↓gTupL_ap, ↓gSorted_ap, gSl, gRevL, gIsi, ↓gIx_ap, kPart, ↓gCat_ap, ↓gRep_ap, ↓gN_ap, ↓gF_ap, ↓gT_ap, ↓gsNil_ap, ↓gsCons_ap, withK, stb', okItem, hasK, itemsOk, isNon, listOf, lstOf, intsOf, blsOf, tyD, lstD, seqOf, ↓iLst_ap, ↓iR1_ap, ↓iR2_ap, ↓iSeq_ap, ↓iZ_ap, List.map_cons, List.map_nil, List.length_cons, List.length_nil, List.reduceReplicate, List.nil_append, List.cons_append, List.getElem?_cons_zero, List.getElem?_cons_succ, List.getElem?_nil, List.set_cons_zero, List.set_cons_succ, List.all_cons, List.all_nil, Bool.and_true, Bool.true_and, Bool.and_false, Bool.false_and, Bool.or_true, Bool.true_or, Bool.or_false, Bool.false_or, Bool.not_true, Bool.not_false, Bool.false_eq_true, if_true, if_false, ↓reduceIte, Option.map_some, Option.map_none, chk_pos, decide_eq_true_eq, flat, flat.flats, okP, okP.okPs, kit_NoneType_int, kit_NoneType_bool, kit_NoneType_str, kit_NoneType_tuple, kit_NoneType_list, kit_NoneType_dict, kit_bool_int, kit_bool_bool, kit_bool_str, kit_bool_tuple, kit_bool_list, kit_bool_dict, kit_int_int, kit_int_bool, kit_int_str, kit_int_tuple, kit_int_list, kit_int_dict, kit_str_int, kit_str_bool, kit_str_str, kit_str_tuple, kit_str_list, kit_str_dict, kit_list_int, kit_list_bool, kit_list_str, kit_list_tuple, kit_list_list, kit_list_dict, kit_tuple_int, kit_tuple_bool, kit_tuple_str, kit_tuple_tuple, kit_tuple_list, kit_tuple_dict, kit_dict_int, kit_dict_bool, kit_dict_str, kit_dict_tuple, kit_dict_list, kit_dict_dict, Nat.zero_add, Nat.reduceAdd, Nat.reduceLeDiff, Nat.reduceLT, Nat.reduceEqDiff, Nat.reduceMul, Nat.reduceSub, Nat.reducePow, Int.reduceAdd, Int.reduceSub, Int.reduceMul, Int.reduceNeg, Int.reducePow, Int.reduceLT, Int.reduceLE, Int.reduceEq, Int.reduceNe, Int.reduceToNat, beq_self_eq_true, Option.some.injEq, intsD, Nat.reduceBEq, decide_true, decide_false, ite_true, ite_false, atI_nat, atI_lit, atI_last, ixN_nat, ixN_lit, cut_nn, eqD_nn, eqD_ii, eqD_bb, eqD_ss, eqD_tt, eqD_ll, eqs_nn, eqs_cc, eqs_nc, eqs_cn, beq_str, beq_int, wipeE, lcOne_ap, ↓sTryK_ap, setO, ↓gPart_ap, ePart, eFind, eJoin, eSplit, ↓eM1_ap, ↓eLc_ap, ↓eJoined_ap, ↓jStr_ap, ↓jFmt_ap, ↓jNil_ap, ↓eDnew_ap, ↓eDic1_ap, scl, sgn, ↓gFind_ap, ↓gJoin_ap, ↓gSplitS_ap, ↓gTupOf_ap, ↓pIx_ap, ↓pVar_ap, ↓sApp_ap, ↓sClr_ap, ↓sRev_ap, ↓sSet_ap, cast_lit, ↓bind_ap, ↓toF_ap, ixD_l, ixD_t, ixD_r, ↓in_sgn, blsD_map, intsD_map, gMulS0, len_zero, h1, h3, h6, hx, e48, h5, el, figD]
    · simp (disch := walk_at "sz") only [↓run_0, ↓run_1, ↓run_2, ↓run_3, ↓run_4, ↓run_5, ↓run_6, eq_self, entryE, endR, ↓sSeq_ap, ↓sIf_ap, ↓sRet_ap, ↓sRetN_ap, ↓sDrop_ap, ↓sAsg_ap, ↓sNext_ap, ↓sBrk_ap, ↓sCnt_ap, ↓sNever_ap, ↓sRaise_ap, ↓sPar_ap, ↓sAug_ap, ↓sFor_ap, loop_nil, loop_cons, ↓bOf_ap, ↓bAnd_ap, ↓bOr_ap, ↓bNot_ap, ↓bYes_ap, ↓eVar_ap, ↓eFz_ap, ↓eMv_ap, look, ↓eC_ap, ↓eOp_ap, ↓eAnd_ap, ↓eOr_ap, ↓eNot_ap, ↓eNeg_ap, ↓eIf_ap, ↓eTup_ap, ↓eLst_ap, ↓eCall_ap, ↓eCB_ap, ↓eSl_ap, ↓oNo_ap, ↓oSome_ap, ↓eRevL_ap, ↓eChain_ap, ↓aNil_ap, ↓aCons_ap, ↓g2_ap, ↓gOr_ap, gAdd, gMul, gAdd0, gAddS0, gSub0, gDiv0, gMod0, gMul0, gPow0, gLt0, gLe0, gGt0, gGe0, gEq0, gNe0, gIs0, gNot0, gIn0, ↓gC_ap, gLen, lenD, gAbs, gInt, gStr, gSum, gAny, gAll, gMax, gMin, ↓gDivmod_ap, ↓gList_ap, ↓gTupL_ap, ↓gSorted_ap, gSl, gRevL, gIsi, ↓gIx_ap, kPart, ↓gCat_ap, ↓gRep_ap, ↓gN_ap, ↓gF_ap, ↓gT_ap, ↓gsNil_ap, ↓gsCons_ap, withK, stb', okItem, hasK, itemsOk, isNon, listOf, lstOf, intsOf, blsOf, tyD, lstD, seqOf, ↓iLst_ap, ↓iR1_ap, ↓iR2_ap, ↓iSeq_ap, ↓iZ_ap, List.map_cons, List.map_nil, List.length_cons, List.length_nil, List.reduceReplicate, List.nil_append, List.cons_append, List.getElem?_cons_zero, List.getElem?_cons_succ, List.getElem?_nil, List.set_cons_zero, List.set_cons_succ, List.all_cons, List.all_nil, Bool.and_true, Bool.true_and, Bool.and_false, Bool.false_and, Bool.or_true, Bool.true_or, Bool.or_false, Bool.false_or, Bool.not_true, Bool.not_false, Bool.false_eq_true, if_true, if_false, ↓reduceIte, Option.map_some, Option.map_none, chk_pos, decide_eq_true_eq, flat, flat.flats, okP, okP.okPs, kit_NoneType_int, kit_NoneType_bool, kit_NoneType_str, kit_NoneType_tuple, kit_NoneType_list, kit_NoneType_dict, kit_bool_int, kit_bool_bool, kit_bool_str, kit_bool_tuple, kit_bool_list, kit_bool_dict, kit_int_int, kit_int_bool, kit_int_str, kit_int_tuple, kit_int_list, kit_int_dict, kit_str_int, kit_str_bool, kit_str_str, kit_str_tuple, kit_str_list, kit_str_dict, kit_list_int, kit_list_bool, kit_list_str, kit_list_tuple, kit_list_list, kit_list_dict, kit_tuple_int, kit_tuple_bool, kit_tuple_str, kit_tuple_tuple, kit_tuple_list, kit_tuple_dict, kit_dict_int, kit_dict_bool, kit_dict_str, kit_dict_tuple, kit_dict_list, kit_dict_dict, Nat.zero_add, Nat.reduceAdd, Nat.reduceLeDiff, Nat.reduceLT, Nat.reduceEqDiff, Nat.reduceMul, Nat.reduceSub, Nat.reducePow, Int.reduceAdd, Int.reduceSub, Int.reduceMul, Int.reduceNeg, Int.reducePow, Int.reduceLT, Int.reduceLE, Int.reduceEq, Int.reduceNe, Int.reduceToNat, beq_self_eq_true, Option.some.injEq, intsD, Nat.reduceBEq, decide_true, decide_false, ite_true, ite_false, atI_nat, atI_lit, atI_last, ixN_nat, ixN_lit, cut_nn, eqD_nn, eqD_ii, eqD_bb, eqD_ss, eqD_tt, eqD_ll, eqs_nn, eqs_cc, eqs_nc, eqs_cn, beq_str, beq_int, wipeE, lcOne_ap, ↓sTryK_ap, setO, ↓gPart_ap, ePart, eFind, eJoin, eSplit, ↓eM1_ap, ↓eLc_ap, ↓eJoined_ap, ↓jStr_ap, ↓jFmt_ap, ↓jNil_ap, ↓eDnew_ap, ↓eDic1_ap, scl, sgn, ↓gFind_ap, ↓gJoin_ap, ↓gSplitS_ap, ↓gTupOf_ap, ↓pIx_ap, ↓pVar_ap, ↓sApp_ap, ↓sClr_ap, ↓sRev_ap, ↓sSet_ap, cast_lit, ↓bind_ap, ↓toF_ap, ixD_l, ixD_t, ixD_r, ↓in_sgn, blsD_map, intsD_map, gMulS0, len_zero, h1, h3, h6, hx, e48, el, figD]

theorem due_1 {x y : Str} {v : Int} (hl : x.length ≤ sizeLine) (hd : cutS x none (some 1) = dash) (hc : cutS x (some 1) none = y) (ho : Txt.find y stroke = -1) (ne : ¬ y = x) (f0 : m__law_figures [.str y] = some (.ret 0 (.int v))) :
    m__law_due [.str x] = some (.ret 0 (if v < 0 then .non else if v = 0 then .non else .tup [.int (0 - v), .int 1])) := by
  unfold m__law_due b__law_due
  rw [show (D.str "-" : D) = D.str dash from rfl, show (D.str "/" : D) = D.str stroke from rfl]
  by_cases h1 : v < 0
  · simp (disch := walk_at "sz") only [↓run_0, ↓run_1, ↓run_2, ↓run_3, ↓run_4, ↓run_5, ↓run_6, eq_self, entryE, endR, ↓sSeq_ap, ↓sIf_ap, ↓sRet_ap, ↓sRetN_ap, ↓sDrop_ap, ↓sAsg_ap, ↓sNext_ap, ↓sBrk_ap, ↓sCnt_ap, ↓sNever_ap, ↓sRaise_ap, ↓sPar_ap, ↓sAug_ap, ↓sFor_ap, loop_nil, loop_cons, ↓bOf_ap, ↓bAnd_ap, ↓bOr_ap, ↓bNot_ap, ↓bYes_ap, ↓eVar_ap, ↓eFz_ap, ↓eMv_ap, look, ↓eC_ap, ↓eOp_ap, ↓eAnd_ap, ↓eOr_ap, ↓eNot_ap, ↓eNeg_ap, ↓eIf_ap, ↓eTup_ap, ↓eLst_ap, ↓eCall_ap, ↓eCB_ap, ↓eSl_ap, ↓oNo_ap, ↓oSome_ap, ↓eRevL_ap, ↓eChain_ap, ↓aNil_ap, ↓aCons_ap, ↓g2_ap, ↓gOr_ap, gAdd, gMul, gAdd0, gAddS0, gSub0, gDiv0, gMod0, gMul0, gPow0, gLt0, gLe0, gGt0, gGe0, gEq0, gNe0, gIs0, gNot0, gIn0, ↓gC_ap, gLen, lenD, gAbs, gInt, gStr, gSum, gAny, gAll, gMax, gMin, ↓gDivmod_ap, ↓gList_ap, ↓gTupL_ap, ↓gSorted_ap, gSl, gRevL, gIsi, ↓gIx_ap, kPart, ↓gCat_ap, ↓gRep_ap, ↓gN_ap, ↓gF_ap, ↓gT_ap, ↓gsNil_ap, ↓gsCons_ap, withK, stb', okItem, hasK, itemsOk, isNon, listOf, lstOf, intsOf, blsOf, tyD, lstD, seqOf, ↓iLst_ap, ↓iR1_ap, ↓iR2_ap, ↓iSeq_ap, ↓iZ_ap, List.map_cons, List.map_nil, List.length_cons, List.length_nil, List.reduceReplicate, List.nil_append, List.cons_append, List.getElem?_cons_zero, List.getElem?_cons_succ, List.getElem?_nil, List.set_cons_zero, List.set_cons_succ, List.all_cons, List.all_nil, Bool.and_true, Bool.true_and, Bool.and_false, Bool.false_and, Bool.or_true, Bool.true_or, Bool.or_false, Bool.false_or, Bool.not_true, Bool.not_false, Bool.false_eq_true, if_true, if_false, ↓reduceIte, Option.map_some, Option.map_none, chk_pos, decide_eq_true_eq, flat, flat.flats, okP, okP.okPs, kit_NoneType_int, kit_NoneType_bool, kit_NoneType_str, kit_NoneType_tuple, kit_NoneType_list, kit_NoneType_dict, kit_bool_int, kit_bool_bool, kit_bool_str, kit_bool_tuple, kit_bool_list, kit_bool_dict, kit_int_int, kit_int_bool, kit_int_str, kit_int_tuple, kit_int_list, kit_int_dict, kit_str_int, kit_str_bool, kit_str_str, kit_str_tuple, kit_str_list, kit_str_dict, kit_list_int, kit_list_bool, kit_list_str, kit_list_tuple, kit_list_list, kit_list_dict, kit_tuple_int, kit_tuple_bool, kit_tuple_str, kit_tuple_tuple, kit_tuple_list, kit_tuple_dict, kit_dict_int, kit_dict_bool, kit_dict_str, kit_dict_tuple, kit_dict_list, kit_dict_dict, Nat.zero_add, Nat.reduceAdd, Nat.reduceLeDiff, Nat.reduceLT, Nat.reduceEqDiff, Nat.reduceMul, Nat.reduceSub, Nat.reducePow, Int.reduceAdd, Int.reduceSub, Int.reduceMul, Int.reduceNeg, Int.reducePow, Int.reduceLT, Int.reduceLE, Int.reduceEq, Int.reduceNe, Int.reduceToNat, beq_self_eq_true, Option.some.injEq, intsD, Nat.reduceBEq, decide_true, decide_false, ite_true, ite_false, atI_nat, atI_lit, atI_last, ixN_nat, ixN_lit, cut_nn, eqD_nn, eqD_ii, eqD_bb, eqD_ss, eqD_tt, eqD_ll, eqs_nn, eqs_cc, eqs_nc, eqs_cn, beq_str, beq_int, wipeE, lcOne_ap, ↓sTryK_ap, setO, ↓gPart_ap, ePart, eFind, eJoin, eSplit, ↓eM1_ap, ↓eLc_ap, ↓eJoined_ap, ↓jStr_ap, ↓jFmt_ap, ↓jNil_ap, ↓eDnew_ap, ↓eDic1_ap, scl, sgn, ↓gFind_ap, ↓gJoin_ap, ↓gSplitS_ap, ↓gTupOf_ap, ↓pIx_ap, ↓pVar_ap, ↓sApp_ap, ↓sClr_ap, ↓sRev_ap, ↓sSet_ap, cast_lit, ↓bind_ap, ↓toF_ap, ixD_l, ixD_t, ixD_r, ↓in_sgn, blsD_map, intsD_map, gMulS0, hd, hc, ho, f0, ne, h1]
  · by_cases h2 : v = 0 <;> simp (disch := walk_at "sz") only [↓run_0, ↓run_1, ↓run_2, ↓run_3, ↓run_4, ↓run_5, ↓run_6, eq_self, entryE, endR, ↓sSeq_ap, ↓sIf_ap, ↓sRet_ap, ↓sRetN_ap, ↓sDrop_ap, ↓sAsg_ap, ↓sNext_ap, ↓sBrk_ap, ↓sCnt_ap, ↓sNever_ap, ↓sRaise_ap, ↓sPar_ap, ↓sAug_ap, ↓sFor_ap, loop_nil, loop_cons, ↓bOf_ap, ↓bAnd_ap, ↓bOr_ap, ↓bNot_ap, ↓bYes_ap, ↓eVar_ap, ↓eFz_ap, ↓eMv_ap, look, ↓eC_ap, ↓eOp_ap, ↓eAnd_ap, ↓eOr_ap, ↓eNot_ap, ↓eNeg_ap, ↓eIf_ap, ↓eTup_ap, ↓eLst_ap, ↓eCall_ap, ↓eCB_ap, ↓eSl_ap, ↓oNo_ap, ↓oSome_ap, ↓eRevL_ap, ↓eChain_ap, ↓aNil_ap, ↓aCons_ap, ↓g2_ap, ↓gOr_ap, gAdd, gMul, gAdd0, gAddS0, gSub0, gDiv0, gMod0, gMul0, gPow0, gLt0, gLe0, gGt0, gGe0, gEq0, gNe0, gIs0, gNot0, gIn0, ↓gC_ap, gLen, lenD, gAbs, gInt, gStr, gSum, gAny, gAll, gMax, gMin, ↓gDivmod_ap, ↓gList_ap, ↓gTupL_ap, ↓gSorted_ap, gSl, gRevL, gIsi, ↓gIx_ap, kPart, ↓gCat_ap, ↓gRep_ap, ↓gN_ap, ↓gF_ap, ↓gT_ap, ↓gsNil_ap, ↓gsCons_ap, withK, stb', okItem, hasK, itemsOk, isNon, listOf, lstOf, intsOf, blsOf, tyD, lstD, seqOf, ↓iLst_ap, ↓iR1_ap, ↓iR2_ap, ↓iSeq_ap, ↓iZ_ap, List.map_cons, List.map_nil, List.length_cons, List.length_nil, List.reduceReplicate, List.nil_append, List.cons_append, List.getElem?_cons_zero, List.getElem?_cons_succ, List.getElem?_nil, List.set_cons_zero, List.set_cons_succ, List.all_cons, List.all_nil, Bool.and_true, Bool.true_and, Bool.and_false, Bool.false_and, Bool.or_true, Bool.true_or, Bool.or_false, Bool.false_or, Bool.not_true, Bool.not_false, Bool.false_eq_true, if_true, if_false, ↓reduceIte, Option.map_some, Option.map_none, chk_pos, decide_eq_true_eq, flat, flat.flats, okP, okP.okPs, kit_NoneType_int, kit_NoneType_bool, kit_NoneType_str, kit_NoneType_tuple, kit_NoneType_list, kit_NoneType_dict, kit_bool_int, kit_bool_bool, kit_bool_str, kit_bool_tuple, kit_bool_list, kit_bool_dict, kit_int_int, kit_int_bool, kit_int_str, kit_int_tuple, kit_int_list, kit_int_dict, kit_str_int, kit_str_bool, kit_str_str, kit_str_tuple, kit_str_list, kit_str_dict, kit_list_int, kit_list_bool, kit_list_str, kit_list_tuple, kit_list_list, kit_list_dict, kit_tuple_int, kit_tuple_bool, kit_tuple_str, kit_tuple_tuple, kit_tuple_list, kit_tuple_dict, kit_dict_int, kit_dict_bool, kit_dict_str, kit_dict_tuple, kit_dict_list, kit_dict_dict, Nat.zero_add, Nat.reduceAdd, Nat.reduceLeDiff, Nat.reduceLT, Nat.reduceEqDiff, Nat.reduceMul, Nat.reduceSub, Nat.reducePow, Int.reduceAdd, Int.reduceSub, Int.reduceMul, Int.reduceNeg, Int.reducePow, Int.reduceLT, Int.reduceLE, Int.reduceEq, Int.reduceNe, Int.reduceToNat, beq_self_eq_true, Option.some.injEq, intsD, Nat.reduceBEq, decide_true, decide_false, ite_true, ite_false, atI_nat, atI_lit, atI_last, ixN_nat, ixN_lit, cut_nn, eqD_nn, eqD_ii, eqD_bb, eqD_ss, eqD_tt, eqD_ll, eqs_nn, eqs_cc, eqs_nc, eqs_cn, beq_str, beq_int, wipeE, lcOne_ap, ↓sTryK_ap, setO, ↓gPart_ap, ePart, eFind, eJoin, eSplit, ↓eM1_ap, ↓eLc_ap, ↓eJoined_ap, ↓jStr_ap, ↓jFmt_ap, ↓jNil_ap, ↓eDnew_ap, ↓eDic1_ap, scl, sgn, ↓gFind_ap, ↓gJoin_ap, ↓gSplitS_ap, ↓gTupOf_ap, ↓pIx_ap, ↓pVar_ap, ↓sApp_ap, ↓sClr_ap, ↓sRev_ap, ↓sSet_ap, cast_lit, ↓bind_ap, ↓toF_ap, ixD_l, ixD_t, ixD_r, ↓in_sgn, blsD_map, intsD_map, gMulS0, hd, hc, ho, f0, ne, h1, h2]
theorem due_3 {x : Str} {v : Int} (hl : x.length ≤ sizeLine) (hd : ¬ cutS x none (some 1) = dash) (ho : Txt.find x stroke = -1) (f0 : m__law_figures [.str x] = some (.ret 0 (.int v))) :
    m__law_due [.str x] = some (.ret 0 (if v < 0 then .non else .tup [.int v, .int 1])) := by
  unfold m__law_due b__law_due
  rw [show (D.str "-" : D) = D.str dash from rfl, show (D.str "/" : D) = D.str stroke from rfl]
  by_cases h1 : v < 0
  · simp (disch := walk_at "sz") only [↓run_0, ↓run_1, ↓run_2, ↓run_3, ↓run_4, ↓run_5, ↓run_6, eq_self, entryE, endR, ↓sSeq_ap, ↓sIf_ap, ↓sRet_ap, ↓sRetN_ap, ↓sDrop_ap, ↓sAsg_ap, ↓sNext_ap, ↓sBrk_ap, ↓sCnt_ap, ↓sNever_ap, ↓sRaise_ap, ↓sPar_ap, ↓sAug_ap, ↓sFor_ap, loop_nil, loop_cons, ↓bOf_ap, ↓bAnd_ap, ↓bOr_ap, ↓bNot_ap, ↓bYes_ap, ↓eVar_ap, ↓eFz_ap, ↓eMv_ap, look, ↓eC_ap, ↓eOp_ap, ↓eAnd_ap, ↓eOr_ap, ↓eNot_ap, ↓eNeg_ap, ↓eIf_ap, ↓eTup_ap, ↓eLst_ap, ↓eCall_ap, ↓eCB_ap, ↓eSl_ap, ↓oNo_ap, ↓oSome_ap, ↓eRevL_ap, ↓eChain_ap, ↓aNil_ap, ↓aCons_ap, ↓g2_ap, ↓gOr_ap, gAdd, gMul, gAdd0, gAddS0, gSub0, gDiv0, gMod0, gMul0, gPow0, gLt0, gLe0, gGt0, gGe0, gEq0, gNe0, gIs0, gNot0, gIn0, ↓gC_ap, gLen, lenD, gAbs, gInt, gStr, gSum, gAny, gAll, gMax, gMin, ↓gDivmod_ap, ↓gList_ap, ↓gTupL_ap, ↓gSorted_ap, gSl, gRevL, gIsi, ↓gIx_ap, kPart, ↓gCat_ap, ↓gRep_ap, ↓gN_ap, ↓gF_ap, ↓gT_ap, ↓gsNil_ap, ↓gsCons_ap, withK, stb', okItem, hasK, itemsOk, isNon, listOf, lstOf, intsOf, blsOf, tyD, lstD, seqOf, ↓iLst_ap, ↓iR1_ap, ↓iR2_ap, ↓iSeq_ap, ↓iZ_ap, List.map_cons, List.map_nil, List.length_cons, List.length_nil, List.reduceReplicate, List.nil_append, List.cons_append, List.getElem?_cons_zero, List.getElem?_cons_succ, List.getElem?_nil, List.set_cons_zero, List.set_cons_succ, List.all_cons, List.all_nil, Bool.and_true, Bool.true_and, Bool.and_false, Bool.false_and, Bool.or_true, Bool.true_or, Bool.or_false, Bool.false_or, Bool.not_true, Bool.not_false, Bool.false_eq_true, if_true, if_false, ↓reduceIte, Option.map_some, Option.map_none, chk_pos, decide_eq_true_eq, flat, flat.flats, okP, okP.okPs, kit_NoneType_int, kit_NoneType_bool, kit_NoneType_str, kit_NoneType_tuple, kit_NoneType_list, kit_NoneType_dict, kit_bool_int, kit_bool_bool, kit_bool_str, kit_bool_tuple, kit_bool_list, kit_bool_dict, kit_int_int, kit_int_bool, kit_int_str, kit_int_tuple, kit_int_list, kit_int_dict, kit_str_int, kit_str_bool, kit_str_str, kit_str_tuple, kit_str_list, kit_str_dict, kit_list_int, kit_list_bool, kit_list_str, kit_list_tuple, kit_list_list, kit_list_dict, kit_tuple_int, kit_tuple_bool, kit_tuple_str, kit_tuple_tuple, kit_tuple_list, kit_tuple_dict, kit_dict_int, kit_dict_bool, kit_dict_str, kit_dict_tuple, kit_dict_list, kit_dict_dict, Nat.zero_add, Nat.reduceAdd, Nat.reduceLeDiff, Nat.reduceLT, Nat.reduceEqDiff, Nat.reduceMul, Nat.reduceSub, Nat.reducePow, Int.reduceAdd, Int.reduceSub, Int.reduceMul, Int.reduceNeg, Int.reducePow, Int.reduceLT, Int.reduceLE, Int.reduceEq, Int.reduceNe, Int.reduceToNat, beq_self_eq_true, Option.some.injEq, intsD, Nat.reduceBEq, decide_true, decide_false, ite_true, ite_false, atI_nat, atI_lit, atI_last, ixN_nat, ixN_lit, cut_nn, eqD_nn, eqD_ii, eqD_bb, eqD_ss, eqD_tt, eqD_ll, eqs_nn, eqs_cc, eqs_nc, eqs_cn, beq_str, beq_int, wipeE, lcOne_ap, ↓sTryK_ap, setO, ↓gPart_ap, ePart, eFind, eJoin, eSplit, ↓eM1_ap, ↓eLc_ap, ↓eJoined_ap, ↓jStr_ap, ↓jFmt_ap, ↓jNil_ap, ↓eDnew_ap, ↓eDic1_ap, scl, sgn, ↓gFind_ap, ↓gJoin_ap, ↓gSplitS_ap, ↓gTupOf_ap, ↓pIx_ap, ↓pVar_ap, ↓sApp_ap, ↓sClr_ap, ↓sRev_ap, ↓sSet_ap, cast_lit, ↓bind_ap, ↓toF_ap, ixD_l, ixD_t, ixD_r, ↓in_sgn, blsD_map, intsD_map, gMulS0, hd, ho, f0, h1]
  · by_cases h2 : v = 0 <;> simp (disch := walk_at "sz") only [↓run_0, ↓run_1, ↓run_2, ↓run_3, ↓run_4, ↓run_5, ↓run_6, eq_self, entryE, endR, ↓sSeq_ap, ↓sIf_ap, ↓sRet_ap, ↓sRetN_ap, ↓sDrop_ap, ↓sAsg_ap, ↓sNext_ap, ↓sBrk_ap, ↓sCnt_ap, ↓sNever_ap, ↓sRaise_ap, ↓sPar_ap, ↓sAug_ap, ↓sFor_ap, loop_nil, loop_cons, ↓bOf_ap, ↓bAnd_ap, ↓bOr_ap, ↓bNot_ap, ↓bYes_ap, ↓eVar_ap, ↓eFz_ap, ↓eMv_ap, look, ↓eC_ap, ↓eOp_ap, ↓eAnd_ap, ↓eOr_ap, ↓eNot_ap, ↓eNeg_ap, ↓eIf_ap, ↓eTup_ap, ↓eLst_ap, ↓eCall_ap, ↓eCB_ap, ↓eSl_ap, ↓oNo_ap, ↓oSome_ap, ↓eRevL_ap, ↓eChain_ap, ↓aNil_ap, ↓aCons_ap, ↓g2_ap, ↓gOr_ap, gAdd, gMul, gAdd0, gAddS0, gSub0, gDiv0, gMod0, gMul0, gPow0, gLt0, gLe0, gGt0, gGe0, gEq0, gNe0, gIs0, gNot0, gIn0, ↓gC_ap, gLen, lenD, gAbs, gInt, gStr, gSum, gAny, gAll, gMax, gMin, ↓gDivmod_ap, ↓gList_ap, ↓gTupL_ap, ↓gSorted_ap, gSl, gRevL, gIsi, ↓gIx_ap, kPart, ↓gCat_ap, ↓gRep_ap, ↓gN_ap, ↓gF_ap, ↓gT_ap, ↓gsNil_ap, ↓gsCons_ap, withK, stb', okItem, hasK, itemsOk, isNon, listOf, lstOf, intsOf, blsOf, tyD, lstD, seqOf, ↓iLst_ap, ↓iR1_ap, ↓iR2_ap, ↓iSeq_ap, ↓iZ_ap, List.map_cons, List.map_nil, List.length_cons, List.length_nil, List.reduceReplicate, List.nil_append, List.cons_append, List.getElem?_cons_zero, List.getElem?_cons_succ, List.getElem?_nil, List.set_cons_zero, List.set_cons_succ, List.all_cons, List.all_nil, Bool.and_true, Bool.true_and, Bool.and_false, Bool.false_and, Bool.or_true, Bool.true_or, Bool.or_false, Bool.false_or, Bool.not_true, Bool.not_false, Bool.false_eq_true, if_true, if_false, ↓reduceIte, Option.map_some, Option.map_none, chk_pos, decide_eq_true_eq, flat, flat.flats, okP, okP.okPs, kit_NoneType_int, kit_NoneType_bool, kit_NoneType_str, kit_NoneType_tuple, kit_NoneType_list, kit_NoneType_dict, kit_bool_int, kit_bool_bool, kit_bool_str, kit_bool_tuple, kit_bool_list, kit_bool_dict, kit_int_int, kit_int_bool, kit_int_str, kit_int_tuple, kit_int_list, kit_int_dict, kit_str_int, kit_str_bool, kit_str_str, kit_str_tuple, kit_str_list, kit_str_dict, kit_list_int, kit_list_bool, kit_list_str, kit_list_tuple, kit_list_list, kit_list_dict, kit_tuple_int, kit_tuple_bool, kit_tuple_str, kit_tuple_tuple, kit_tuple_list, kit_tuple_dict, kit_dict_int, kit_dict_bool, kit_dict_str, kit_dict_tuple, kit_dict_list, kit_dict_dict, Nat.zero_add, Nat.reduceAdd, Nat.reduceLeDiff, Nat.reduceLT, Nat.reduceEqDiff, Nat.reduceMul, Nat.reduceSub, Nat.reducePow, Int.reduceAdd, Int.reduceSub, Int.reduceMul, Int.reduceNeg, Int.reducePow, Int.reduceLT, Int.reduceLE, Int.reduceEq, Int.reduceNe, Int.reduceToNat, beq_self_eq_true, Option.some.injEq, intsD, Nat.reduceBEq, decide_true, decide_false, ite_true, ite_false, atI_nat, atI_lit, atI_last, ixN_nat, ixN_lit, cut_nn, eqD_nn, eqD_ii, eqD_bb, eqD_ss, eqD_tt, eqD_ll, eqs_nn, eqs_cc, eqs_nc, eqs_cn, beq_str, beq_int, wipeE, lcOne_ap, ↓sTryK_ap, setO, ↓gPart_ap, ePart, eFind, eJoin, eSplit, ↓eM1_ap, ↓eLc_ap, ↓eJoined_ap, ↓jStr_ap, ↓jFmt_ap, ↓jNil_ap, ↓eDnew_ap, ↓eDic1_ap, scl, sgn, ↓gFind_ap, ↓gJoin_ap, ↓gSplitS_ap, ↓gTupOf_ap, ↓pIx_ap, ↓pVar_ap, ↓sApp_ap, ↓sClr_ap, ↓sRev_ap, ↓sSet_ap, cast_lit, ↓bind_ap, ↓toF_ap, ixD_l, ixD_t, ixD_r, ↓in_sgn, blsD_map, intsD_map, gMulS0, hd, ho, f0, h1, h2]
theorem due_2 {x y A B : Str} {a v0 v w : Int} (hl : x.length ≤ sizeLine) (hl2 : y.length ≤ sizeLine) (hd : cutS x none (some 1) = dash) (hc : cutS x (some 1) none = y) (ho : Txt.find y stroke = a) (ha : 0 ≤ a) (ne : ¬ y = x) (f0 : m__law_figures [.str y] = some (.ret 0 (.int v0)))
    (c1 : cutS y none (some a) = A) (c2 : cutS y (some (a + 1)) none = B) (f1 : m__law_figures [.str A] = some (.ret 0 (.int v))) (f2 : m__law_figures [.str B] = some (.ret 0 (.int w))) :
    m__law_due [.str x] = some (.ret 0 (if w < 2 then .non else if v < 0 then .non else if ((Int.gcd v w : Nat) : Int) = 1 then (if v = 0 then .non else .tup [.int (0 - v), .int w]) else .non)) := by
  unfold m__law_due b__law_due
  rw [show (D.str "-" : D) = D.str dash from rfl, show (D.str "/" : D) = D.str stroke from rfl]
  by_cases h1 : w < 2
  · simp (disch := walk_at "sz") only [↓run_0, ↓run_1, ↓run_2, ↓run_3, ↓run_4, ↓run_5, ↓run_6, eq_self, entryE, endR, ↓sSeq_ap, ↓sIf_ap, ↓sRet_ap, ↓sRetN_ap, ↓sDrop_ap, ↓sAsg_ap, ↓sNext_ap, ↓sBrk_ap, ↓sCnt_ap, ↓sNever_ap, ↓sRaise_ap, ↓sPar_ap, ↓sAug_ap, ↓sFor_ap, loop_nil, loop_cons, ↓bOf_ap, ↓bAnd_ap, ↓bOr_ap, ↓bNot_ap, ↓bYes_ap, ↓eVar_ap, ↓eFz_ap, ↓eMv_ap, look, ↓eC_ap, ↓eOp_ap, ↓eAnd_ap, ↓eOr_ap, ↓eNot_ap, ↓eNeg_ap, ↓eIf_ap, ↓eTup_ap, ↓eLst_ap, ↓eCall_ap, ↓eCB_ap, ↓eSl_ap, ↓oNo_ap, ↓oSome_ap, ↓eRevL_ap, ↓eChain_ap, ↓aNil_ap, ↓aCons_ap, ↓g2_ap, ↓gOr_ap, gAdd, gMul, gAdd0, gAddS0, gSub0, gDiv0, gMod0, gMul0, gPow0, gLt0, gLe0, gGt0, gGe0, gEq0, gNe0, gIs0, gNot0, gIn0, ↓gC_ap, gLen, lenD, gAbs, gInt, gStr, gSum, gAny, gAll, gMax, gMin, ↓gDivmod_ap, ↓gList_ap, ↓gTupL_ap, ↓gSorted_ap, gSl, gRevL, gIsi, ↓gIx_ap, kPart, ↓gCat_ap, ↓gRep_ap, ↓gN_ap, ↓gF_ap, ↓gT_ap, ↓gsNil_ap, ↓gsCons_ap, withK, stb', okItem, hasK, itemsOk, isNon, listOf, lstOf, intsOf, blsOf, tyD, lstD, seqOf, ↓iLst_ap, ↓iR1_ap, ↓iR2_ap, ↓iSeq_ap, ↓iZ_ap, List.map_cons, List.map_nil, List.length_cons, List.length_nil, List.reduceReplicate, List.nil_append, List.cons_append, List.getElem?_cons_zero, List.getElem?_cons_succ, List.getElem?_nil, List.set_cons_zero, List.set_cons_succ, List.all_cons, List.all_nil, Bool.and_true, Bool.true_and, Bool.and_false, Bool.false_and, Bool.or_true, Bool.true_or, Bool.or_false, Bool.false_or, Bool.not_true, Bool.not_false, Bool.false_eq_true, if_true, if_false, ↓reduceIte, Option.map_some, Option.map_none, chk_pos, decide_eq_true_eq, flat, flat.flats, okP, okP.okPs, kit_NoneType_int, kit_NoneType_bool, kit_NoneType_str, kit_NoneType_tuple, kit_NoneType_list, kit_NoneType_dict, kit_bool_int, kit_bool_bool, kit_bool_str, kit_bool_tuple, kit_bool_list, kit_bool_dict, kit_int_int, kit_int_bool, kit_int_str, kit_int_tuple, kit_int_list, kit_int_dict, kit_str_int, kit_str_bool, kit_str_str, kit_str_tuple, kit_str_list, kit_str_dict, kit_list_int, kit_list_bool, kit_list_str, kit_list_tuple, kit_list_list, kit_list_dict, kit_tuple_int, kit_tuple_bool, kit_tuple_str, kit_tuple_tuple, kit_tuple_list, kit_tuple_dict, kit_dict_int, kit_dict_bool, kit_dict_str, kit_dict_tuple, kit_dict_list, kit_dict_dict, Nat.zero_add, Nat.reduceAdd, Nat.reduceLeDiff, Nat.reduceLT, Nat.reduceEqDiff, Nat.reduceMul, Nat.reduceSub, Nat.reducePow, Int.reduceAdd, Int.reduceSub, Int.reduceMul, Int.reduceNeg, Int.reducePow, Int.reduceLT, Int.reduceLE, Int.reduceEq, Int.reduceNe, Int.reduceToNat, beq_self_eq_true, Option.some.injEq, intsD, Nat.reduceBEq, decide_true, decide_false, ite_true, ite_false, atI_nat, atI_lit, atI_last, ixN_nat, ixN_lit, cut_nn, eqD_nn, eqD_ii, eqD_bb, eqD_ss, eqD_tt, eqD_ll, eqs_nn, eqs_cc, eqs_nc, eqs_cn, beq_str, beq_int, wipeE, lcOne_ap, ↓sTryK_ap, setO, ↓gPart_ap, ePart, eFind, eJoin, eSplit, ↓eM1_ap, ↓eLc_ap, ↓eJoined_ap, ↓jStr_ap, ↓jFmt_ap, ↓jNil_ap, ↓eDnew_ap, ↓eDic1_ap, scl, sgn, ↓gFind_ap, ↓gJoin_ap, ↓gSplitS_ap, ↓gTupOf_ap, ↓pIx_ap, ↓pVar_ap, ↓sApp_ap, ↓sClr_ap, ↓sRev_ap, ↓sSet_ap, cast_lit, ↓bind_ap, ↓toF_ap, ixD_l, ixD_t, ixD_r, ↓in_sgn, blsD_map, intsD_map, gMulS0, hd, hc, ho, f0, f1, f2, ha, c1, c2, ne, h1]
  by_cases h2 : v < 0
  · simp (disch := walk_at "sz") only [↓run_0, ↓run_1, ↓run_2, ↓run_3, ↓run_4, ↓run_5, ↓run_6, eq_self, entryE, endR, ↓sSeq_ap, ↓sIf_ap, ↓sRet_ap, ↓sRetN_ap, ↓sDrop_ap, ↓sAsg_ap, ↓sNext_ap, ↓sBrk_ap, ↓sCnt_ap, ↓sNever_ap, ↓sRaise_ap, ↓sPar_ap, ↓sAug_ap, ↓sFor_ap, loop_nil, loop_cons, ↓bOf_ap, ↓bAnd_ap, ↓bOr_ap, ↓bNot_ap, ↓bYes_ap, ↓eVar_ap, ↓eFz_ap, ↓eMv_ap, look, ↓eC_ap, ↓eOp_ap, ↓eAnd_ap, ↓eOr_ap, ↓eNot_ap, ↓eNeg_ap, ↓eIf_ap, ↓eTup_ap, ↓eLst_ap, ↓eCall_ap, ↓eCB_ap, ↓eSl_ap, ↓oNo_ap, ↓oSome_ap, ↓eRevL_ap, ↓eChain_ap, ↓aNil_ap, ↓aCons_ap, ↓g2_ap, ↓gOr_ap, gAdd, gMul, gAdd0, gAddS0, gSub0, gDiv0, gMod0, gMul0, gPow0, gLt0, gLe0, gGt0, gGe0, gEq0, gNe0, gIs0, gNot0, gIn0, ↓gC_ap, gLen, lenD, gAbs, gInt, gStr, gSum, gAny, gAll, gMax, gMin, ↓gDivmod_ap, ↓gList_ap, ↓gTupL_ap, ↓gSorted_ap, gSl, gRevL, gIsi, ↓gIx_ap, kPart, ↓gCat_ap, ↓gRep_ap, ↓gN_ap, ↓gF_ap, ↓gT_ap, ↓gsNil_ap, ↓gsCons_ap, withK, stb', okItem, hasK, itemsOk, isNon, listOf, lstOf, intsOf, blsOf, tyD, lstD, seqOf, ↓iLst_ap, ↓iR1_ap, ↓iR2_ap, ↓iSeq_ap, ↓iZ_ap, List.map_cons, List.map_nil, List.length_cons, List.length_nil, List.reduceReplicate, List.nil_append, List.cons_append, List.getElem?_cons_zero, List.getElem?_cons_succ, List.getElem?_nil, List.set_cons_zero, List.set_cons_succ, List.all_cons, List.all_nil, Bool.and_true, Bool.true_and, Bool.and_false, Bool.false_and, Bool.or_true, Bool.true_or, Bool.or_false, Bool.false_or, Bool.not_true, Bool.not_false, Bool.false_eq_true, if_true, if_false, ↓reduceIte, Option.map_some, Option.map_none, chk_pos, decide_eq_true_eq, flat, flat.flats, okP, okP.okPs, kit_NoneType_int, kit_NoneType_bool, kit_NoneType_str, kit_NoneType_tuple, kit_NoneType_list, kit_NoneType_dict, kit_bool_int, kit_bool_bool, kit_bool_str, kit_bool_tuple, kit_bool_list, kit_bool_dict, kit_int_int, kit_int_bool, kit_int_str, kit_int_tuple, kit_int_list, kit_int_dict, kit_str_int, kit_str_bool, kit_str_str, kit_str_tuple, kit_str_list, kit_str_dict, kit_list_int, kit_list_bool, kit_list_str, kit_list_tuple, kit_list_list, kit_list_dict, kit_tuple_int, kit_tuple_bool, kit_tuple_str, kit_tuple_tuple, kit_tuple_list, kit_tuple_dict, kit_dict_int, kit_dict_bool, kit_dict_str, kit_dict_tuple, kit_dict_list, kit_dict_dict, Nat.zero_add, Nat.reduceAdd, Nat.reduceLeDiff, Nat.reduceLT, Nat.reduceEqDiff, Nat.reduceMul, Nat.reduceSub, Nat.reducePow, Int.reduceAdd, Int.reduceSub, Int.reduceMul, Int.reduceNeg, Int.reducePow, Int.reduceLT, Int.reduceLE, Int.reduceEq, Int.reduceNe, Int.reduceToNat, beq_self_eq_true, Option.some.injEq, intsD, Nat.reduceBEq, decide_true, decide_false, ite_true, ite_false, atI_nat, atI_lit, atI_last, ixN_nat, ixN_lit, cut_nn, eqD_nn, eqD_ii, eqD_bb, eqD_ss, eqD_tt, eqD_ll, eqs_nn, eqs_cc, eqs_nc, eqs_cn, beq_str, beq_int, wipeE, lcOne_ap, ↓sTryK_ap, setO, ↓gPart_ap, ePart, eFind, eJoin, eSplit, ↓eM1_ap, ↓eLc_ap, ↓eJoined_ap, ↓jStr_ap, ↓jFmt_ap, ↓jNil_ap, ↓eDnew_ap, ↓eDic1_ap, scl, sgn, ↓gFind_ap, ↓gJoin_ap, ↓gSplitS_ap, ↓gTupOf_ap, ↓pIx_ap, ↓pVar_ap, ↓sApp_ap, ↓sClr_ap, ↓sRev_ap, ↓sSet_ap, cast_lit, ↓bind_ap, ↓toF_ap, ixD_l, ixD_t, ixD_r, ↓in_sgn, blsD_map, intsD_map, gMulS0, hd, hc, ho, f0, f1, f2, ha, c1, c2, ne, h1, h2]
  by_cases h3 : ((Int.gcd v w : Nat) : Int) = 1
  · by_cases h4 : v = 0
    · subst h4
      simp (disch := walk_at "sz") only [↓run_0, ↓run_1, ↓run_2, ↓run_3, ↓run_4, ↓run_5, ↓run_6, eq_self, entryE, endR, ↓sSeq_ap, ↓sIf_ap, ↓sRet_ap, ↓sRetN_ap, ↓sDrop_ap, ↓sAsg_ap, ↓sNext_ap, ↓sBrk_ap, ↓sCnt_ap, ↓sNever_ap, ↓sRaise_ap, ↓sPar_ap, ↓sAug_ap, ↓sFor_ap, loop_nil, loop_cons, ↓bOf_ap, ↓bAnd_ap, ↓bOr_ap, ↓bNot_ap, ↓bYes_ap, ↓eVar_ap, ↓eFz_ap, ↓eMv_ap, look, ↓eC_ap, ↓eOp_ap, ↓eAnd_ap, ↓eOr_ap, ↓eNot_ap, ↓eNeg_ap, ↓eIf_ap, ↓eTup_ap, ↓eLst_ap, ↓eCall_ap, ↓eCB_ap, ↓eSl_ap, ↓oNo_ap, ↓oSome_ap, ↓eRevL_ap, ↓eChain_ap, ↓aNil_ap, ↓aCons_ap, ↓g2_ap, ↓gOr_ap, gAdd, gMul, gAdd0, gAddS0, gSub0, gDiv0, gMod0, gMul0, gPow0, gLt0, gLe0, gGt0, gGe0, gEq0, gNe0, gIs0, gNot0, gIn0, ↓gC_ap, gLen, lenD, gAbs, gInt, gStr, gSum, gAny, gAll, gMax, gMin, ↓gDivmod_ap, ↓gList_ap, ↓gTupL_ap, ↓gSorted_ap, gSl, gRevL, gIsi, ↓gIx_ap, kPart, ↓gCat_ap, ↓gRep_ap, ↓gN_ap, ↓gF_ap, ↓gT_ap, ↓gsNil_ap, ↓gsCons_ap, withK, stb', okItem, hasK, itemsOk, isNon, listOf, lstOf, intsOf, blsOf, tyD, lstD, seqOf, ↓iLst_ap, ↓iR1_ap, ↓iR2_ap, ↓iSeq_ap, ↓iZ_ap, List.map_cons, List.map_nil, List.length_cons, List.length_nil, List.reduceReplicate, List.nil_append, List.cons_append, List.getElem?_cons_zero, List.getElem?_cons_succ, List.getElem?_nil, List.set_cons_zero, List.set_cons_succ, List.all_cons, List.all_nil, Bool.and_true, Bool.true_and, Bool.and_false, Bool.false_and, Bool.or_true, Bool.true_or, Bool.or_false, Bool.false_or, Bool.not_true, Bool.not_false, Bool.false_eq_true, if_true, if_false, ↓reduceIte, Option.map_some, Option.map_none, chk_pos, decide_eq_true_eq, flat, flat.flats, okP, okP.okPs, kit_NoneType_int, kit_NoneType_bool, kit_NoneType_str, kit_NoneType_tuple, kit_NoneType_list, kit_NoneType_dict, kit_bool_int, kit_bool_bool, kit_bool_str, kit_bool_tuple, kit_bool_list, kit_bool_dict, kit_int_int, kit_int_bool, kit_int_str, kit_int_tuple, kit_int_list, kit_int_dict, kit_str_int, kit_str_bool, kit_str_str, kit_str_tuple, kit_str_list, kit_str_dict, kit_list_int, kit_list_bool, kit_list_str, kit_list_tuple, kit_list_list, kit_list_dict, kit_tuple_int, kit_tuple_bool, kit_tuple_str, kit_tuple_tuple, kit_tuple_list, kit_tuple_dict, kit_dict_int, kit_dict_bool, kit_dict_str, kit_dict_tuple, kit_dict_list, kit_dict_dict, Nat.zero_add, Nat.reduceAdd, Nat.reduceLeDiff, Nat.reduceLT, Nat.reduceEqDiff, Nat.reduceMul, Nat.reduceSub, Nat.reducePow, Int.reduceAdd, Int.reduceSub, Int.reduceMul, Int.reduceNeg, Int.reducePow, Int.reduceLT, Int.reduceLE, Int.reduceEq, Int.reduceNe, Int.reduceToNat, beq_self_eq_true, Option.some.injEq, intsD, Nat.reduceBEq, decide_true, decide_false, ite_true, ite_false, atI_nat, atI_lit, atI_last, ixN_nat, ixN_lit, cut_nn, eqD_nn, eqD_ii, eqD_bb, eqD_ss, eqD_tt, eqD_ll, eqs_nn, eqs_cc, eqs_nc, eqs_cn, beq_str, beq_int, wipeE, lcOne_ap, ↓sTryK_ap, setO, ↓gPart_ap, ePart, eFind, eJoin, eSplit, ↓eM1_ap, ↓eLc_ap, ↓eJoined_ap, ↓jStr_ap, ↓jFmt_ap, ↓jNil_ap, ↓eDnew_ap, ↓eDic1_ap, scl, sgn, ↓gFind_ap, ↓gJoin_ap, ↓gSplitS_ap, ↓gTupOf_ap, ↓pIx_ap, ↓pVar_ap, ↓sApp_ap, ↓sClr_ap, ↓sRev_ap, ↓sSet_ap, cast_lit, ↓bind_ap, ↓toF_ap, ixD_l, ixD_t, ixD_r, ↓in_sgn, blsD_map, intsD_map, gMulS0, hd, hc, ho, f0, f1, f2, ha, c1, c2, ne, h1, h3, q_lgcd]
    · simp (disch := walk_at "sz") only [↓run_0, ↓run_1, ↓run_2, ↓run_3, ↓run_4, ↓run_5, ↓run_6, eq_self, entryE, endR, ↓sSeq_ap, ↓sIf_ap, ↓sRet_ap, ↓sRetN_ap, ↓sDrop_ap, ↓sAsg_ap, ↓sNext_ap, ↓sBrk_ap, ↓sCnt_ap, ↓sNever_ap, ↓sRaise_ap, ↓sPar_ap, ↓sAug_ap, ↓sFor_ap, loop_nil, loop_cons, ↓bOf_ap, ↓bAnd_ap, ↓bOr_ap, ↓bNot_ap, ↓bYes_ap, ↓eVar_ap, ↓eFz_ap, ↓eMv_ap, look, ↓eC_ap, ↓eOp_ap, ↓eAnd_ap, ↓eOr_ap, ↓eNot_ap, ↓eNeg_ap, ↓eIf_ap, ↓eTup_ap, ↓eLst_ap, ↓eCall_ap, ↓eCB_ap, ↓eSl_ap, ↓oNo_ap, ↓oSome_ap, ↓eRevL_ap, ↓eChain_ap, ↓aNil_ap, ↓aCons_ap, ↓g2_ap, ↓gOr_ap, gAdd, gMul, gAdd0, gAddS0, gSub0, gDiv0, gMod0, gMul0, gPow0, gLt0, gLe0, gGt0, gGe0, gEq0, gNe0, gIs0, gNot0, gIn0, ↓gC_ap, gLen, lenD, gAbs, gInt, gStr, gSum, gAny, gAll, gMax, gMin, ↓gDivmod_ap, ↓gList_ap, ↓gTupL_ap, ↓gSorted_ap, gSl, gRevL, gIsi, ↓gIx_ap, kPart, ↓gCat_ap, ↓gRep_ap, ↓gN_ap, ↓gF_ap, ↓gT_ap, ↓gsNil_ap, ↓gsCons_ap, withK, stb', okItem, hasK, itemsOk, isNon, listOf, lstOf, intsOf, blsOf, tyD, lstD, seqOf, ↓iLst_ap, ↓iR1_ap, ↓iR2_ap, ↓iSeq_ap, ↓iZ_ap, List.map_cons, List.map_nil, List.length_cons, List.length_nil, List.reduceReplicate, List.nil_append, List.cons_append, List.getElem?_cons_zero, List.getElem?_cons_succ, List.getElem?_nil, List.set_cons_zero, List.set_cons_succ, List.all_cons, List.all_nil, Bool.and_true, Bool.true_and, Bool.and_false, Bool.false_and, Bool.or_true, Bool.true_or, Bool.or_false, Bool.false_or, Bool.not_true, Bool.not_false, Bool.false_eq_true, if_true, if_false, ↓reduceIte, Option.map_some, Option.map_none, chk_pos, decide_eq_true_eq, flat, flat.flats, okP, okP.okPs, kit_NoneType_int, kit_NoneType_bool, kit_NoneType_str, kit_NoneType_tuple, kit_NoneType_list, kit_NoneType_dict, kit_bool_int, kit_bool_bool, kit_bool_str, kit_bool_tuple, kit_bool_list, kit_bool_dict, kit_int_int, kit_int_bool, kit_int_str, kit_int_tuple, kit_int_list, kit_int_dict, kit_str_int, kit_str_bool, kit_str_str, kit_str_tuple, kit_str_list, kit_str_dict, kit_list_int, kit_list_bool, kit_list_str, kit_list_tuple, kit_list_list, kit_list_dict, kit_tuple_int, kit_tuple_bool, kit_tuple_str, kit_tuple_tuple, kit_tuple_list, kit_tuple_dict, kit_dict_int, kit_dict_bool, kit_dict_str, kit_dict_tuple, kit_dict_list, kit_dict_dict, Nat.zero_add, Nat.reduceAdd, Nat.reduceLeDiff, Nat.reduceLT, Nat.reduceEqDiff, Nat.reduceMul, Nat.reduceSub, Nat.reducePow, Int.reduceAdd, Int.reduceSub, Int.reduceMul, Int.reduceNeg, Int.reducePow, Int.reduceLT, Int.reduceLE, Int.reduceEq, Int.reduceNe, Int.reduceToNat, beq_self_eq_true, Option.some.injEq, intsD, Nat.reduceBEq, decide_true, decide_false, ite_true, ite_false, atI_nat, atI_lit, atI_last, ixN_nat, ixN_lit, cut_nn, eqD_nn, eqD_ii, eqD_bb, eqD_ss, eqD_tt, eqD_ll, eqs_nn, eqs_cc, eqs_nc, eqs_cn, beq_str, beq_int, wipeE, lcOne_ap, ↓sTryK_ap, setO, ↓gPart_ap, ePart, eFind, eJoin, eSplit, ↓eM1_ap, ↓eLc_ap, ↓eJoined_ap, ↓jStr_ap, ↓jFmt_ap, ↓jNil_ap, ↓eDnew_ap, ↓eDic1_ap, scl, sgn, ↓gFind_ap, ↓gJoin_ap, ↓gSplitS_ap, ↓gTupOf_ap, ↓pIx_ap, ↓pVar_ap, ↓sApp_ap, ↓sClr_ap, ↓sRev_ap, ↓sSet_ap, cast_lit, ↓bind_ap, ↓toF_ap, ixD_l, ixD_t, ixD_r, ↓in_sgn, blsD_map, intsD_map, gMulS0, hd, hc, ho, f0, f1, f2, ha, c1, c2, ne, h1, h2, h3, h4, q_lgcd]
  · simp (disch := walk_at "sz") only [↓run_0, ↓run_1, ↓run_2, ↓run_3, ↓run_4, ↓run_5, ↓run_6, eq_self, entryE, endR, ↓sSeq_ap, ↓sIf_ap, ↓sRet_ap, ↓sRetN_ap, ↓sDrop_ap, ↓sAsg_ap, ↓sNext_ap, ↓sBrk_ap, ↓sCnt_ap, ↓sNever_ap, ↓sRaise_ap, ↓sPar_ap, ↓sAug_ap, ↓sFor_ap, loop_nil, loop_cons, ↓bOf_ap, ↓bAnd_ap, ↓bOr_ap, ↓bNot_ap, ↓bYes_ap, ↓eVar_ap, ↓eFz_ap, ↓eMv_ap, look, ↓eC_ap, ↓eOp_ap, ↓eAnd_ap, ↓eOr_ap, ↓eNot_ap, ↓eNeg_ap, ↓eIf_ap, ↓eTup_ap, ↓eLst_ap, ↓eCall_ap, ↓eCB_ap, ↓eSl_ap, ↓oNo_ap, ↓oSome_ap, ↓eRevL_ap, ↓eChain_ap, ↓aNil_ap, ↓aCons_ap, ↓g2_ap, ↓gOr_ap, gAdd, gMul, gAdd0, gAddS0, gSub0, gDiv0, gMod0, gMul0, gPow0, gLt0, gLe0, gGt0, gGe0, gEq0, gNe0, gIs0, gNot0, gIn0, ↓gC_ap, gLen, lenD, gAbs, gInt, gStr, gSum, gAny, gAll, gMax, gMin, ↓gDivmod_ap, ↓gList_ap, ↓gTupL_ap, ↓gSorted_ap, gSl, gRevL, gIsi, ↓gIx_ap, kPart, ↓gCat_ap, ↓gRep_ap, ↓gN_ap, ↓gF_ap, ↓gT_ap, ↓gsNil_ap, ↓gsCons_ap, withK, stb', okItem, hasK, itemsOk, isNon, listOf, lstOf, intsOf, blsOf, tyD, lstD, seqOf, ↓iLst_ap, ↓iR1_ap, ↓iR2_ap, ↓iSeq_ap, ↓iZ_ap, List.map_cons, List.map_nil, List.length_cons, List.length_nil, List.reduceReplicate, List.nil_append, List.cons_append, List.getElem?_cons_zero, List.getElem?_cons_succ, List.getElem?_nil, List.set_cons_zero, List.set_cons_succ, List.all_cons, List.all_nil, Bool.and_true, Bool.true_and, Bool.and_false, Bool.false_and, Bool.or_true, Bool.true_or, Bool.or_false, Bool.false_or, Bool.not_true, Bool.not_false, Bool.false_eq_true, if_true, if_false, ↓reduceIte, Option.map_some, Option.map_none, chk_pos, decide_eq_true_eq, flat, flat.flats, okP, okP.okPs, kit_NoneType_int, kit_NoneType_bool, kit_NoneType_str, kit_NoneType_tuple, kit_NoneType_list, kit_NoneType_dict, kit_bool_int, kit_bool_bool, kit_bool_str, kit_bool_tuple, kit_bool_list, kit_bool_dict, kit_int_int, kit_int_bool, kit_int_str, kit_int_tuple, kit_int_list, kit_int_dict, kit_str_int, kit_str_bool, kit_str_str, kit_str_tuple, kit_str_list, kit_str_dict, kit_list_int, kit_list_bool, kit_list_str, kit_list_tuple, kit_list_list, kit_list_dict, kit_tuple_int, kit_tuple_bool, kit_tuple_str, kit_tuple_tuple, kit_tuple_list, kit_tuple_dict, kit_dict_int, kit_dict_bool, kit_dict_str, kit_dict_tuple, kit_dict_list, kit_dict_dict, Nat.zero_add, Nat.reduceAdd, Nat.reduceLeDiff, Nat.reduceLT, Nat.reduceEqDiff, Nat.reduceMul, Nat.reduceSub, Nat.reducePow, Int.reduceAdd, Int.reduceSub, Int.reduceMul, Int.reduceNeg, Int.reducePow, Int.reduceLT, Int.reduceLE, Int.reduceEq, Int.reduceNe, Int.reduceToNat, beq_self_eq_true, Option.some.injEq, intsD, Nat.reduceBEq, decide_true, decide_false, ite_true, ite_false, atI_nat, atI_lit, atI_last, ixN_nat, ixN_lit, cut_nn, eqD_nn, eqD_ii, eqD_bb, eqD_ss, eqD_tt, eqD_ll, eqs_nn, eqs_cc, eqs_nc, eqs_cn, beq_str, beq_int, wipeE, lcOne_ap, ↓sTryK_ap, setO, ↓gPart_ap, ePart, eFind, eJoin, eSplit, ↓eM1_ap, ↓eLc_ap, ↓eJoined_ap, ↓jStr_ap, ↓jFmt_ap, ↓jNil_ap, ↓eDnew_ap, ↓eDic1_ap, scl, sgn, ↓gFind_ap, ↓gJoin_ap, ↓gSplitS_ap, ↓gTupOf_ap, ↓pIx_ap, ↓pVar_ap, ↓sApp_ap, ↓sClr_ap, ↓sRev_ap, ↓sSet_ap, cast_lit, ↓bind_ap, ↓toF_ap, ixD_l, ixD_t, ixD_r, ↓in_sgn, blsD_map, intsD_map, gMulS0, hd, hc, ho, f0, f1, f2, ha, c1, c2, ne, h1, h2, h3, q_lgcd]
theorem due_4 {x A B : Str} {a v0 v w : Int} (hl : x.length ≤ sizeLine) (hd : ¬ cutS x none (some 1) = dash) (ho : Txt.find x stroke = a) (ha : 0 ≤ a) (f0 : m__law_figures [.str x] = some (.ret 0 (.int v0)))
    (c1 : cutS x none (some a) = A) (c2 : cutS x (some (a + 1)) none = B) (f1 : m__law_figures [.str A] = some (.ret 0 (.int v))) (f2 : m__law_figures [.str B] = some (.ret 0 (.int w))) :
    m__law_due [.str x] = some (.ret 0 (if w < 2 then .non else if v < 0 then .non else if ((Int.gcd v w : Nat) : Int) = 1 then .tup [.int v, .int w] else .non)) := by
  unfold m__law_due b__law_due
  rw [show (D.str "-" : D) = D.str dash from rfl, show (D.str "/" : D) = D.str stroke from rfl]
  by_cases h1 : w < 2
  · simp (disch := walk_at "sz") only [↓run_0, ↓run_1, ↓run_2, ↓run_3, ↓run_4, ↓run_5, ↓run_6, eq_self, entryE, endR, ↓sSeq_ap, ↓sIf_ap, ↓sRet_ap, ↓sRetN_ap, ↓sDrop_ap, ↓sAsg_ap, ↓sNext_ap, ↓sBrk_ap, ↓sCnt_ap, ↓sNever_ap, ↓sRaise_ap, ↓sPar_ap, ↓sAug_ap, ↓sFor_ap, loop_nil, loop_cons, ↓bOf_ap, ↓bAnd_ap, ↓bOr_ap, ↓bNot_ap, ↓bYes_ap, ↓eVar_ap, ↓eFz_ap, ↓eMv_ap, look, ↓eC_ap, ↓eOp_ap, ↓eAnd_ap, ↓eOr_ap, ↓eNot_ap, ↓eNeg_ap, ↓eIf_ap, ↓eTup_ap, ↓eLst_ap, ↓eCall_ap, ↓eCB_ap, ↓eSl_ap, ↓oNo_ap, ↓oSome_ap, ↓eRevL_ap, ↓eChain_ap, ↓aNil_ap, ↓aCons_ap, ↓g2_ap, ↓gOr_ap, gAdd, gMul, gAdd0, gAddS0, gSub0, gDiv0, gMod0, gMul0, gPow0, gLt0, gLe0, gGt0, gGe0, gEq0, gNe0, gIs0, gNot0, gIn0, ↓gC_ap, gLen, lenD, gAbs, gInt, gStr, gSum, gAny, gAll, gMax, gMin, ↓gDivmod_ap, ↓gList_ap, ↓gTupL_ap, ↓gSorted_ap, gSl, gRevL, gIsi, ↓gIx_ap, kPart, ↓gCat_ap, ↓gRep_ap, ↓gN_ap, ↓gF_ap, ↓gT_ap, ↓gsNil_ap, ↓gsCons_ap, withK, stb', okItem, hasK, itemsOk, isNon, listOf, lstOf, intsOf, blsOf, tyD, lstD, seqOf, ↓iLst_ap, ↓iR1_ap, ↓iR2_ap, ↓iSeq_ap, ↓iZ_ap, List.map_cons, List.map_nil, List.length_cons, List.length_nil, List.reduceReplicate, List.nil_append, List.cons_append, List.getElem?_cons_zero, List.getElem?_cons_succ, List.getElem?_nil, List.set_cons_zero, List.set_cons_succ, List.all_cons, List.all_nil, Bool.and_true, Bool.true_and, Bool.and_false, Bool.false_and, Bool.or_true, Bool.true_or, Bool.or_false, Bool.false_or, Bool.not_true, Bool.not_false, Bool.false_eq_true, if_true, if_false, ↓reduceIte, Option.map_some, Option.map_none, chk_pos, decide_eq_true_eq, flat, flat.flats, okP, okP.okPs, kit_NoneType_int, kit_NoneType_bool, kit_NoneType_str, kit_NoneType_tuple, kit_NoneType_list, kit_NoneType_dict, kit_bool_int, kit_bool_bool, kit_bool_str, kit_bool_tuple, kit_bool_list, kit_bool_dict, kit_int_int, kit_int_bool, kit_int_str, kit_int_tuple, kit_int_list, kit_int_dict, kit_str_int, kit_str_bool, kit_str_str, kit_str_tuple, kit_str_list, kit_str_dict, kit_list_int, kit_list_bool, kit_list_str, kit_list_tuple, kit_list_list, kit_list_dict, kit_tuple_int, kit_tuple_bool, kit_tuple_str, kit_tuple_tuple, kit_tuple_list, kit_tuple_dict, kit_dict_int, kit_dict_bool, kit_dict_str, kit_dict_tuple, kit_dict_list, kit_dict_dict, Nat.zero_add, Nat.reduceAdd, Nat.reduceLeDiff, Nat.reduceLT, Nat.reduceEqDiff, Nat.reduceMul, Nat.reduceSub, Nat.reducePow, Int.reduceAdd, Int.reduceSub, Int.reduceMul, Int.reduceNeg, Int.reducePow, Int.reduceLT, Int.reduceLE, Int.reduceEq, Int.reduceNe, Int.reduceToNat, beq_self_eq_true, Option.some.injEq, intsD, Nat.reduceBEq, decide_true, decide_false, ite_true, ite_false, atI_nat, atI_lit, atI_last, ixN_nat, ixN_lit, cut_nn, eqD_nn, eqD_ii, eqD_bb, eqD_ss, eqD_tt, eqD_ll, eqs_nn, eqs_cc, eqs_nc, eqs_cn, beq_str, beq_int, wipeE, lcOne_ap, ↓sTryK_ap, setO, ↓gPart_ap, ePart, eFind, eJoin, eSplit, ↓eM1_ap, ↓eLc_ap, ↓eJoined_ap, ↓jStr_ap, ↓jFmt_ap, ↓jNil_ap, ↓eDnew_ap, ↓eDic1_ap, scl, sgn, ↓gFind_ap, ↓gJoin_ap, ↓gSplitS_ap, ↓gTupOf_ap, ↓pIx_ap, ↓pVar_ap, ↓sApp_ap, ↓sClr_ap, ↓sRev_ap, ↓sSet_ap, cast_lit, ↓bind_ap, ↓toF_ap, ixD_l, ixD_t, ixD_r, ↓in_sgn, blsD_map, intsD_map, gMulS0, hd, ho, f0, f1, f2, ha, c1, c2, h1]
  by_cases h2 : v < 0
  · simp (disch := walk_at "sz") only [↓run_0, ↓run_1, ↓run_2, ↓run_3, ↓run_4, ↓run_5, ↓run_6, eq_self, entryE, endR, ↓sSeq_ap, ↓sIf_ap, ↓sRet_ap, ↓sRetN_ap, ↓sDrop_ap, ↓sAsg_ap, ↓sNext_ap, ↓sBrk_ap, ↓sCnt_ap, ↓sNever_ap, ↓sRaise_ap, ↓sPar_ap, ↓sAug_ap, ↓sFor_ap, loop_nil, loop_cons, ↓bOf_ap, ↓bAnd_ap, ↓bOr_ap, ↓bNot_ap, ↓bYes_ap, ↓eVar_ap, ↓eFz_ap, ↓eMv_ap, look, ↓eC_ap, ↓eOp_ap, ↓eAnd_ap, ↓eOr_ap, ↓eNot_ap, ↓eNeg_ap, ↓eIf_ap, ↓eTup_ap, ↓eLst_ap, ↓eCall_ap, ↓eCB_ap, ↓eSl_ap, ↓oNo_ap, ↓oSome_ap, ↓eRevL_ap, ↓eChain_ap, ↓aNil_ap, ↓aCons_ap, ↓g2_ap, ↓gOr_ap, gAdd, gMul, gAdd0, gAddS0, gSub0, gDiv0, gMod0, gMul0, gPow0, gLt0, gLe0, gGt0, gGe0, gEq0, gNe0, gIs0, gNot0, gIn0, ↓gC_ap, gLen, lenD, gAbs, gInt, gStr, gSum, gAny, gAll, gMax, gMin, ↓gDivmod_ap, ↓gList_ap, ↓gTupL_ap, ↓gSorted_ap, gSl, gRevL, gIsi, ↓gIx_ap, kPart, ↓gCat_ap, ↓gRep_ap, ↓gN_ap, ↓gF_ap, ↓gT_ap, ↓gsNil_ap, ↓gsCons_ap, withK, stb', okItem, hasK, itemsOk, isNon, listOf, lstOf, intsOf, blsOf, tyD, lstD, seqOf, ↓iLst_ap, ↓iR1_ap, ↓iR2_ap, ↓iSeq_ap, ↓iZ_ap, List.map_cons, List.map_nil, List.length_cons, List.length_nil, List.reduceReplicate, List.nil_append, List.cons_append, List.getElem?_cons_zero, List.getElem?_cons_succ, List.getElem?_nil, List.set_cons_zero, List.set_cons_succ, List.all_cons, List.all_nil, Bool.and_true, Bool.true_and, Bool.and_false, Bool.false_and, Bool.or_true, Bool.true_or, Bool.or_false, Bool.false_or, Bool.not_true, Bool.not_false, Bool.false_eq_true, if_true, if_false, ↓reduceIte, Option.map_some, Option.map_none, chk_pos, decide_eq_true_eq, flat, flat.flats, okP, okP.okPs, kit_NoneType_int, kit_NoneType_bool, kit_NoneType_str, kit_NoneType_tuple, kit_NoneType_list, kit_NoneType_dict, kit_bool_int, kit_bool_bool, kit_bool_str, kit_bool_tuple, kit_bool_list, kit_bool_dict, kit_int_int, kit_int_bool, kit_int_str, kit_int_tuple, kit_int_list, kit_int_dict, kit_str_int, kit_str_bool, kit_str_str, kit_str_tuple, kit_str_list, kit_str_dict, kit_list_int, kit_list_bool, kit_list_str, kit_list_tuple, kit_list_list, kit_list_dict, kit_tuple_int, kit_tuple_bool, kit_tuple_str, kit_tuple_tuple, kit_tuple_list, kit_tuple_dict, kit_dict_int, kit_dict_bool, kit_dict_str, kit_dict_tuple, kit_dict_list, kit_dict_dict, Nat.zero_add, Nat.reduceAdd, Nat.reduceLeDiff, Nat.reduceLT, Nat.reduceEqDiff, Nat.reduceMul, Nat.reduceSub, Nat.reducePow, Int.reduceAdd, Int.reduceSub, Int.reduceMul, Int.reduceNeg, Int.reducePow, Int.reduceLT, Int.reduceLE, Int.reduceEq, Int.reduceNe, Int.reduceToNat, beq_self_eq_true, Option.some.injEq, intsD, Nat.reduceBEq, decide_true, decide_false, ite_true, ite_false, atI_nat, atI_lit, atI_last, ixN_nat, ixN_lit, cut_nn, eqD_nn, eqD_ii, eqD_bb, eqD_ss, eqD_tt, eqD_ll, eqs_nn, eqs_cc, eqs_nc, eqs_cn, beq_str, beq_int, wipeE, lcOne_ap, ↓sTryK_ap, setO, ↓gPart_ap, ePart, eFind, eJoin, eSplit, ↓eM1_ap, ↓eLc_ap, ↓eJoined_ap, ↓jStr_ap, ↓jFmt_ap, ↓jNil_ap, ↓eDnew_ap, ↓eDic1_ap, scl, sgn, ↓gFind_ap, ↓gJoin_ap, ↓gSplitS_ap, ↓gTupOf_ap, ↓pIx_ap, ↓pVar_ap, ↓sApp_ap, ↓sClr_ap, ↓sRev_ap, ↓sSet_ap, cast_lit, ↓bind_ap, ↓toF_ap, ixD_l, ixD_t, ixD_r, ↓in_sgn, blsD_map, intsD_map, gMulS0, hd, ho, f0, f1, f2, ha, c1, c2, h1, h2]
  by_cases h3 : ((Int.gcd v w : Nat) : Int) = 1
  · by_cases h4 : v = 0
    · subst h4
      simp (disch := walk_at "sz") only [↓run_0, ↓run_1, ↓run_2, ↓run_3, ↓run_4, ↓run_5, ↓run_6, eq_self, entryE, endR, ↓sSeq_ap, ↓sIf_ap, ↓sRet_ap, ↓sRetN_ap, ↓sDrop_ap, ↓sAsg_ap, ↓sNext_ap, ↓sBrk_ap, ↓sCnt_ap, ↓sNever_ap, ↓sRaise_ap, ↓sPar_ap, ↓sAug_ap, ↓sFor_ap, loop_nil, loop_cons, ↓bOf_ap, ↓bAnd_ap, ↓bOr_ap, ↓bNot_ap, ↓bYes_ap, ↓eVar_ap, ↓eFz_ap, ↓eMv_ap, look, ↓eC_ap, ↓eOp_ap, ↓eAnd_ap, ↓eOr_ap, ↓eNot_ap, ↓eNeg_ap, ↓eIf_ap, ↓eTup_ap, ↓eLst_ap, ↓eCall_ap, ↓eCB_ap, ↓eSl_ap, ↓oNo_ap, ↓oSome_ap, ↓eRevL_ap, ↓eChain_ap, ↓aNil_ap, ↓aCons_ap, ↓g2_ap, ↓gOr_ap, gAdd, gMul, gAdd0, gAddS0, gSub0, gDiv0, gMod0, gMul0, gPow0, gLt0, gLe0, gGt0, gGe0, gEq0, gNe0, gIs0, gNot0, gIn0, ↓gC_ap, gLen, lenD, gAbs, gInt, gStr, gSum, gAny, gAll, gMax, gMin, ↓gDivmod_ap, ↓gList_ap, ↓gTupL_ap, ↓gSorted_ap, gSl, gRevL, gIsi, ↓gIx_ap, kPart, ↓gCat_ap, ↓gRep_ap, ↓gN_ap, ↓gF_ap, ↓gT_ap, ↓gsNil_ap, ↓gsCons_ap, withK, stb', okItem, hasK, itemsOk, isNon, listOf, lstOf, intsOf, blsOf, tyD, lstD, seqOf, ↓iLst_ap, ↓iR1_ap, ↓iR2_ap, ↓iSeq_ap, ↓iZ_ap, List.map_cons, List.map_nil, List.length_cons, List.length_nil, List.reduceReplicate, List.nil_append, List.cons_append, List.getElem?_cons_zero, List.getElem?_cons_succ, List.getElem?_nil, List.set_cons_zero, List.set_cons_succ, List.all_cons, List.all_nil, Bool.and_true, Bool.true_and, Bool.and_false, Bool.false_and, Bool.or_true, Bool.true_or, Bool.or_false, Bool.false_or, Bool.not_true, Bool.not_false, Bool.false_eq_true, if_true, if_false, ↓reduceIte, Option.map_some, Option.map_none, chk_pos, decide_eq_true_eq, flat, flat.flats, okP, okP.okPs, kit_NoneType_int, kit_NoneType_bool, kit_NoneType_str, kit_NoneType_tuple, kit_NoneType_list, kit_NoneType_dict, kit_bool_int, kit_bool_bool, kit_bool_str, kit_bool_tuple, kit_bool_list, kit_bool_dict, kit_int_int, kit_int_bool, kit_int_str, kit_int_tuple, kit_int_list, kit_int_dict, kit_str_int, kit_str_bool, kit_str_str, kit_str_tuple, kit_str_list, kit_str_dict, kit_list_int, kit_list_bool, kit_list_str, kit_list_tuple, kit_list_list, kit_list_dict, kit_tuple_int, kit_tuple_bool, kit_tuple_str, kit_tuple_tuple, kit_tuple_list, kit_tuple_dict, kit_dict_int, kit_dict_bool, kit_dict_str, kit_dict_tuple, kit_dict_list, kit_dict_dict, Nat.zero_add, Nat.reduceAdd, Nat.reduceLeDiff, Nat.reduceLT, Nat.reduceEqDiff, Nat.reduceMul, Nat.reduceSub, Nat.reducePow, Int.reduceAdd, Int.reduceSub, Int.reduceMul, Int.reduceNeg, Int.reducePow, Int.reduceLT, Int.reduceLE, Int.reduceEq, Int.reduceNe, Int.reduceToNat, beq_self_eq_true, Option.some.injEq, intsD, Nat.reduceBEq, decide_true, decide_false, ite_true, ite_false, atI_nat, atI_lit, atI_last, ixN_nat, ixN_lit, cut_nn, eqD_nn, eqD_ii, eqD_bb, eqD_ss, eqD_tt, eqD_ll, eqs_nn, eqs_cc, eqs_nc, eqs_cn, beq_str, beq_int, wipeE, lcOne_ap, ↓sTryK_ap, setO, ↓gPart_ap, ePart, eFind, eJoin, eSplit, ↓eM1_ap, ↓eLc_ap, ↓eJoined_ap, ↓jStr_ap, ↓jFmt_ap, ↓jNil_ap, ↓eDnew_ap, ↓eDic1_ap, scl, sgn, ↓gFind_ap, ↓gJoin_ap, ↓gSplitS_ap, ↓gTupOf_ap, ↓pIx_ap, ↓pVar_ap, ↓sApp_ap, ↓sClr_ap, ↓sRev_ap, ↓sSet_ap, cast_lit, ↓bind_ap, ↓toF_ap, ixD_l, ixD_t, ixD_r, ↓in_sgn, blsD_map, intsD_map, gMulS0, hd, ho, f0, f1, f2, ha, c1, c2, h1, h3, q_lgcd]
    · simp (disch := walk_at "sz") only [↓run_0, ↓run_1, ↓run_2, ↓run_3, ↓run_4, ↓run_5, ↓run_6, eq_self, entryE, endR, ↓sSeq_ap, ↓sIf_ap, ↓sRet_ap, ↓sRetN_ap, ↓sDrop_ap, ↓sAsg_ap, ↓sNext_ap, ↓sBrk_ap, ↓sCnt_ap, ↓sNever_ap, ↓sRaise_ap, ↓sPar_ap, ↓sAug_ap, ↓sFor_ap, loop_nil, loop_cons, ↓bOf_ap, ↓bAnd_ap, ↓bOr_ap, ↓bNot_ap, ↓bYes_ap, ↓eVar_ap, ↓eFz_ap, ↓eMv_ap, look, ↓eC_ap, ↓eOp_ap, ↓eAnd_ap, ↓eOr_ap, ↓eNot_ap, ↓eNeg_ap, ↓eIf_ap, ↓eTup_ap, ↓eLst_ap, ↓eCall_ap, ↓eCB_ap, ↓eSl_ap, ↓oNo_ap, ↓oSome_ap, ↓eRevL_ap, ↓eChain_ap, ↓aNil_ap, ↓aCons_ap, ↓g2_ap, ↓gOr_ap, gAdd, gMul, gAdd0, gAddS0, gSub0, gDiv0, gMod0, gMul0, gPow0, gLt0, gLe0, gGt0, gGe0, gEq0, gNe0, gIs0, gNot0, gIn0, ↓gC_ap, gLen, lenD, gAbs, gInt, gStr, gSum, gAny, gAll, gMax, gMin, ↓gDivmod_ap, ↓gList_ap, ↓gTupL_ap, ↓gSorted_ap, gSl, gRevL, gIsi, ↓gIx_ap, kPart, ↓gCat_ap, ↓gRep_ap, ↓gN_ap, ↓gF_ap, ↓gT_ap, ↓gsNil_ap, ↓gsCons_ap, withK, stb', okItem, hasK, itemsOk, isNon, listOf, lstOf, intsOf, blsOf, tyD, lstD, seqOf, ↓iLst_ap, ↓iR1_ap, ↓iR2_ap, ↓iSeq_ap, ↓iZ_ap, List.map_cons, List.map_nil, List.length_cons, List.length_nil, List.reduceReplicate, List.nil_append, List.cons_append, List.getElem?_cons_zero, List.getElem?_cons_succ, List.getElem?_nil, List.set_cons_zero, List.set_cons_succ, List.all_cons, List.all_nil, Bool.and_true, Bool.true_and, Bool.and_false, Bool.false_and, Bool.or_true, Bool.true_or, Bool.or_false, Bool.false_or, Bool.not_true, Bool.not_false, Bool.false_eq_true, if_true, if_false, ↓reduceIte, Option.map_some, Option.map_none, chk_pos, decide_eq_true_eq, flat, flat.flats, okP, okP.okPs, kit_NoneType_int, kit_NoneType_bool, kit_NoneType_str, kit_NoneType_tuple, kit_NoneType_list, kit_NoneType_dict, kit_bool_int, kit_bool_bool, kit_bool_str, kit_bool_tuple, kit_bool_list, kit_bool_dict, kit_int_int, kit_int_bool, kit_int_str, kit_int_tuple, kit_int_list, kit_int_dict, kit_str_int, kit_str_bool, kit_str_str, kit_str_tuple, kit_str_list, kit_str_dict, kit_list_int, kit_list_bool, kit_list_str, kit_list_tuple, kit_list_list, kit_list_dict, kit_tuple_int, kit_tuple_bool, kit_tuple_str, kit_tuple_tuple, kit_tuple_list, kit_tuple_dict, kit_dict_int, kit_dict_bool, kit_dict_str, kit_dict_tuple, kit_dict_list, kit_dict_dict, Nat.zero_add, Nat.reduceAdd, Nat.reduceLeDiff, Nat.reduceLT, Nat.reduceEqDiff, Nat.reduceMul, Nat.reduceSub, Nat.reducePow, Int.reduceAdd, Int.reduceSub, Int.reduceMul, Int.reduceNeg, Int.reducePow, Int.reduceLT, Int.reduceLE, Int.reduceEq, Int.reduceNe, Int.reduceToNat, beq_self_eq_true, Option.some.injEq, intsD, Nat.reduceBEq, decide_true, decide_false, ite_true, ite_false, atI_nat, atI_lit, atI_last, ixN_nat, ixN_lit, cut_nn, eqD_nn, eqD_ii, eqD_bb, eqD_ss, eqD_tt, eqD_ll, eqs_nn, eqs_cc, eqs_nc, eqs_cn, beq_str, beq_int, wipeE, lcOne_ap, ↓sTryK_ap, setO, ↓gPart_ap, ePart, eFind, eJoin, eSplit, ↓eM1_ap, ↓eLc_ap, ↓eJoined_ap, ↓jStr_ap, ↓jFmt_ap, ↓jNil_ap, ↓eDnew_ap, ↓eDic1_ap, scl, sgn, ↓gFind_ap, ↓gJoin_ap, ↓gSplitS_ap, ↓gTupOf_ap, ↓pIx_ap, ↓pVar_ap, ↓sApp_ap, ↓sClr_ap, ↓sRev_ap, ↓sSet_ap, cast_lit, ↓bind_ap, ↓toF_ap, ixD_l, ixD_t, ixD_r, ↓in_sgn, blsD_map, intsD_map, gMulS0, hd, ho, f0, f1, f2, ha, c1, c2, h1, h2, h3, h4, q_lgcd]
  · simp (disch := walk_at "sz") only [↓run_0, ↓run_1, ↓run_2, ↓run_3, ↓run_4, ↓run_5, ↓run_6, eq_self, entryE, endR, ↓sSeq_ap, ↓sIf_ap, ↓sRet_ap, ↓sRetN_ap, ↓sDrop_ap, ↓sAsg_ap, ↓sNext_ap, ↓sBrk_ap, ↓sCnt_ap, ↓sNever_ap, ↓sRaise_ap, ↓sPar_ap, ↓sAug_ap, ↓sFor_ap, loop_nil, loop_cons, ↓bOf_ap, ↓bAnd_ap, ↓bOr_ap, ↓bNot_ap, ↓bYes_ap, ↓eVar_ap, ↓eFz_ap, ↓eMv_ap, look, ↓eC_ap, ↓eOp_ap, ↓eAnd_ap, ↓eOr_ap, ↓eNot_ap, ↓eNeg_ap, ↓eIf_ap, ↓eTup_ap, ↓eLst_ap, ↓eCall_ap, ↓eCB_ap, ↓eSl_ap, ↓oNo_ap, ↓oSome_ap, ↓eRevL_ap, ↓eChain_ap, ↓aNil_ap, ↓aCons_ap, ↓g2_ap, ↓gOr_ap, gAdd, gMul, gAdd0, gAddS0, gSub0, gDiv0, gMod0, gMul0, gPow0, gLt0, gLe0, gGt0, gGe0, gEq0, gNe0, gIs0, gNot0, gIn0, ↓gC_ap, gLen, lenD, gAbs, gInt, gStr, gSum, gAny, gAll, gMax, gMin, ↓gDivmod_ap, ↓gList_ap, ↓gTupL_ap, ↓gSorted_ap, gSl, gRevL, gIsi, ↓gIx_ap, kPart, ↓gCat_ap, ↓gRep_ap, ↓gN_ap, ↓gF_ap, ↓gT_ap, ↓gsNil_ap, ↓gsCons_ap, withK, stb', okItem, hasK, itemsOk, isNon, listOf, lstOf, intsOf, blsOf, tyD, lstD, seqOf, ↓iLst_ap, ↓iR1_ap, ↓iR2_ap, ↓iSeq_ap, ↓iZ_ap, List.map_cons, List.map_nil, List.length_cons, List.length_nil, List.reduceReplicate, List.nil_append, List.cons_append, List.getElem?_cons_zero, List.getElem?_cons_succ, List.getElem?_nil, List.set_cons_zero, List.set_cons_succ, List.all_cons, List.all_nil, Bool.and_true, Bool.true_and, Bool.and_false, Bool.false_and, Bool.or_true, Bool.true_or, Bool.or_false, Bool.false_or, Bool.not_true, Bool.not_false, Bool.false_eq_true, if_true, if_false, ↓reduceIte, Option.map_some, Option.map_none, chk_pos, decide_eq_true_eq, flat, flat.flats, okP, okP.okPs, kit_NoneType_int, kit_NoneType_bool, kit_NoneType_str, kit_NoneType_tuple, kit_NoneType_list, kit_NoneType_dict, kit_bool_int, kit_bool_bool, kit_bool_str, kit_bool_tuple, kit_bool_list, kit_bool_dict, kit_int_int, kit_int_bool, kit_int_str, kit_int_tuple, kit_int_list, kit_int_dict, kit_str_int, kit_str_bool, kit_str_str, kit_str_tuple, kit_str_list, kit_str_dict, kit_list_int, kit_list_bool, kit_list_str, kit_list_tuple, kit_list_list, kit_list_dict, kit_tuple_int, kit_tuple_bool, kit_tuple_str, kit_tuple_tuple, kit_tuple_list, kit_tuple_dict, kit_dict_int, kit_dict_bool, kit_dict_str, kit_dict_tuple, kit_dict_list, kit_dict_dict, Nat.zero_add, Nat.reduceAdd, Nat.reduceLeDiff, Nat.reduceLT, Nat.reduceEqDiff, Nat.reduceMul, Nat.reduceSub, Nat.reducePow, Int.reduceAdd, Int.reduceSub, Int.reduceMul, Int.reduceNeg, Int.reducePow, Int.reduceLT, Int.reduceLE, Int.reduceEq, Int.reduceNe, Int.reduceToNat, beq_self_eq_true, Option.some.injEq, intsD, Nat.reduceBEq, decide_true, decide_false, ite_true, ite_false, atI_nat, atI_lit, atI_last, ixN_nat, ixN_lit, cut_nn, eqD_nn, eqD_ii, eqD_bb, eqD_ss, eqD_tt, eqD_ll, eqs_nn, eqs_cc, eqs_nc, eqs_cn, beq_str, beq_int, wipeE, lcOne_ap, ↓sTryK_ap, setO, ↓gPart_ap, ePart, eFind, eJoin, eSplit, ↓eM1_ap, ↓eLc_ap, ↓eJoined_ap, ↓jStr_ap, ↓jFmt_ap, ↓jNil_ap, ↓eDnew_ap, ↓eDic1_ap, scl, sgn, ↓gFind_ap, ↓gJoin_ap, ↓gSplitS_ap, ↓gTupOf_ap, ↓pIx_ap, ↓pVar_ap, ↓sApp_ap, ↓sClr_ap, ↓sRev_ap, ↓sSet_ap, cast_lit, ↓bind_ap, ↓toF_ap, ixD_l, ixD_t, ixD_r, ↓in_sgn, blsD_map, intsD_map, gMulS0, hd, ho, f0, f1, f2, ha, c1, c2, h1, h2, h3, q_lgcd]
theorem q_due (x : Str) (h : x.length ≤ 900) : m__law_due [.str x] = some (.ret 0 (dueD (numOf x))) := by
  have hk : 1000 ≤ sizeLine := by decide
  have l0 : x.length ≤ sizeLine := by omega
  rcases dash_split x with ⟨y, e, hd, hc⟩ | ⟨hd, hn⟩
  · have ly : y.length + 1 = x.length := by rw [e, str_cat, dash_len]; omega
    have ne : ¬ y = x := by rw [e]; exact dash_ne y
    have f0 := q_figures y (by omega)
    rcases slash_split y with hs | ⟨A, B, ey, hA⟩
    · have h47 : 47 ∉ TL.tl x := by
        rw [e, TL.tl_append]
        intro z
        rcases List.mem_append.mp z with z | z
        · rw [show TL.tl dash = [45] from dash_tl] at z
          simp at z
        · exact hs z
      rw [due_1 l0 hd hc (occ_none y hs) ne f0, numOf_none h47, nBelow_none h47, decide_eq_true hd, if_pos rfl, hc]
      cases wholeOf y with
      | none => rfl
      | some t =>
        show some (Out.ret 0 (if (t : Int) < 0 then D.non else if (t : Int) = 0 then .non else _)) = some (Out.ret 0 (dueD (if true = true ∧ t = 0 then none else _)))
        rw [if_neg (show ¬ (t : Int) < 0 by omega)]
        by_cases h0 : t = 0
        · rw [if_pos (by omega), if_pos ⟨rfl, h0⟩]
          rfl
        · rw [if_neg (show ¬ (t : Int) = 0 by omega), if_neg (fun z => h0 z.2), if_pos rfl]
          rfl
    · have ho := occ_slash A B hA
      rw [← ey] at ho
      have c1 := cut_pre1 A B
      have c2 := cut_suf1 A B
      rw [← ey] at c1 c2
      have lA : A.length + 1 + B.length = y.length := by rw [ey, str_cat, str_cat, stroke_len]
      have f1 := q_figures A (by omega)
      have f2 := q_figures B (by omega)
      have hA' : 47 ∉ TL.tl (dash ++ A) := by
        rw [TL.tl_append]
        intro z
        rcases List.mem_append.mp z with z | z
        · rw [show TL.tl dash = [45] from dash_tl] at z
          simp at z
        · exact hA z
      have ex : x = (dash ++ A) ++ stroke ++ B := by rw [e, ey, str_assoc, str_assoc, str_assoc]
      have dA : cutS (dash ++ A) none (some 1) = dash ∧ cutS (dash ++ A) (some 1) none = A := by
        rcases dash_split (dash ++ A) with ⟨y', e', h1, h2⟩ | ⟨_, h2⟩
        · refine ⟨h1, h2.trans ?_⟩
          have : (dash ++ A).cps.toList = (dash ++ y').cps.toList := by rw [e']
          rw [Str.cps_append, Str.cps_append, Array.toList_append, Array.toList_append] at this
          exact (tl_inj (List.append_cancel_left this)).symm
        · exact absurd rfl (h2 A)
      have en := numOf_app (B := B) hA'
      rw [← ex, dA.1, dA.2, if_pos rfl] at en
      rw [en, due_2 l0 (by omega) hd hc ho (by omega) ne f0 c1 c2 f1 f2]
      cases wholeOf A with
      | none =>
        cases wholeOf B with
        | none => rfl
        | some b =>
          show some (Out.ret 0 (if (b : Int) < 2 then D.non else if (-1 : Int) < 0 then .non else _)) = some (Out.ret 0 .non)
          by_cases h2 : (b : Int) < 2
          · rw [if_pos h2]
          · rw [if_neg h2, if_pos (by decide)]
      | some t =>
        cases wholeOf B with
        | none => rfl
        | some b =>
          show some (Out.ret 0 (if (b : Int) < 2 then D.non else if (t : Int) < 0 then .non else if (Int.gcd t b : Int) = 1 then (if (t : Int) = 0 then .non else .tup [.int (0 - (t : Int)), .int (b : Int)]) else .non)) = some (Out.ret 0 (dueD (if dash = dash ∧ t = 0 then none else if b < 2 ∨ Nat.gcd t b ≠ 1 then none else some (if dash = dash then 0 - (t : Int) else (t : Int), (b : Int)))))
          rw [num_ifs, if_neg (show ¬ (t : Int) < 0 by omega)]
          by_cases h0 : t = 0
          · rw [if_pos (⟨rfl, h0⟩ : dash = dash ∧ t = 0), if_pos (show (t : Int) = 0 by omega), ite_self, ite_self]
            rfl
          · rw [if_neg (fun z : dash = dash ∧ t = 0 => h0 z.2), if_neg (show ¬ (t : Int) = 0 by omega), if_pos (rfl : dash = dash)]
            by_cases h2 : (b : Int) < 2
            · rw [if_pos h2, if_pos h2]; rfl
            · rw [if_neg h2, if_neg h2]
              by_cases h3 : (Int.gcd t b : Int) = 1
              · rw [if_pos h3, if_pos h3]; rfl
              · rw [if_neg h3, if_neg h3]; rfl
  · have f0 := q_figures x (by omega)
    rcases slash_split x with hs | ⟨A, B, ey, hA⟩
    · rw [due_3 l0 hd (occ_none x hs) f0, numOf_none hs, nBelow_none hs, decide_eq_false hd, if_neg Bool.false_ne_true]
      cases wholeOf x with
      | none => rfl
      | some t =>
        show some (Out.ret 0 (if (t : Int) < 0 then D.non else _)) = some (Out.ret 0 (dueD (if false = true ∧ t = 0 then none else _)))
        rw [if_neg (show ¬ (t : Int) < 0 by omega), if_neg (fun z => Bool.false_ne_true z.1), if_neg Bool.false_ne_true]
        rfl
    · have ho := occ_slash A B hA
      rw [← ey] at ho
      have c1 := cut_pre1 A B
      have c2 := cut_suf1 A B
      rw [← ey] at c1 c2
      have lA : A.length + 1 + B.length = x.length := by rw [ey, str_cat, str_cat, stroke_len]
      have f1 := q_figures A (by omega)
      have f2 := q_figures B (by omega)
      have nA : ¬ cutS A none (some 1) = dash := by
        rcases dash_split A with ⟨y', e', h1, h2⟩ | ⟨h1, _⟩
        · exact absurd (show x = dash ++ (y' ++ stroke ++ B) by rw [ey, e', str_assoc, str_assoc, str_assoc]) (hn _)
        · exact h1
      have en := numOf_app (B := B) hA
      rw [← ey, if_neg nA] at en
      rw [en, due_4 l0 hd ho (by omega) f0 c1 c2 f1 f2]
      cases wholeOf A with
      | none =>
        cases wholeOf B with
        | none => rfl
        | some b =>
          show some (Out.ret 0 (if (b : Int) < 2 then D.non else if (-1 : Int) < 0 then .non else _)) = some (Out.ret 0 .non)
          by_cases h2 : (b : Int) < 2
          · rw [if_pos h2]
          · rw [if_neg h2, if_pos (by decide)]
      | some t =>
        cases wholeOf B with
        | none => rfl
        | some b =>
          show some (Out.ret 0 (if (b : Int) < 2 then D.non else if (t : Int) < 0 then .non else if (Int.gcd t b : Int) = 1 then .tup [.int (t : Int), .int (b : Int)] else .non)) = some (Out.ret 0 (dueD (if cutS A none (some 1) = dash ∧ t = 0 then none else if b < 2 ∨ Nat.gcd t b ≠ 1 then none else some (if cutS A none (some 1) = dash then 0 - (t : Int) else (t : Int), (b : Int)))))
          rw [num_ifs, if_neg (show ¬ (t : Int) < 0 by omega), if_neg (show ¬ (cutS A none (some 1) = dash ∧ t = 0) from fun z => nA z.1), if_neg nA]
          by_cases h2 : (b : Int) < 2
          · rw [if_pos h2, if_pos h2]; rfl
          · rw [if_neg h2, if_neg h2]
            by_cases h3 : (Int.gcd t b : Int) = 1
            · rw [if_pos h3, if_pos h3]; rfl
            · rw [if_neg h3, if_neg h3]; rfl

theorem q_one7 (ns : List Int) (hl : ns.length ≤ 63) : ∃ p : Int × Int, m__law_one [.rd ns] = some (.ret 0 (fr p)) ∧ p.1.natAbs < 10 ^ 40 ∧ p.2.natAbs < 10 ^ 40 := by
  have n40 : (10 : Nat) ^ 40 = 10000000000000000000000000000000000000000 := by decide
  have e40 : (10 : Int) ^ (40 : Int).toNat = 10000000000000000000000000000000000000000 := by decide
  have pw : PowOk 10 40 := ⟨by decide, by decide, by decide⟩
  have c0 : m__law_cell [.rd ns, .int 0] = some (.ret 0 (.int (cellOf ns 0))) := q_cell ns 0 hl
  have c1 : m__law_cell [.rd ns, .int 1] = some (.ret 0 (.int (cellOf ns 1))) := q_cell ns 1 hl
  have c2 : m__law_cell [.rd ns, .int 2] = some (.ret 0 (.int (cellOf ns 2))) := q_cell ns 2 hl
  have lt : ∀ {b : Int}, b.natAbs < 10 ^ 40 → b.natAbs < 2 ^ 8999 := fun h => Nat.lt_trans h (by
    have : (10 : Nat) ^ 40 < 2 ^ 140 := by decide
    exact lt_pow this 8999 (by decide))
  unfold m__law_one b__law_one
  by_cases h2 : (cellOf ns 0).fmod 2 = 0
  · have p1 := fmod_pos (cellOf ns 1) (b := 121) (by omega)
    have p2 := fmod_pos (cellOf ns 2) (b := 12) (by omega)
    have b1 : 0 < 1 + (cellOf ns 2).fmod 12 := by omega
    have b2 : (1 + (cellOf ns 2).fmod 12).natAbs < 10 ^ 40 := by omega
    have q := q_lowest (t := (cellOf ns 1).fmod 121 - 60) b1 (lt b2)
    have l := lowest_le ((cellOf ns 1).fmod 121 - 60) (1 + (cellOf ns 2).fmod 12)
    exact ⟨_, by (simp (disch := walk_at "sz") only [↓run_0, ↓run_1, ↓run_2, ↓run_3, ↓run_4, ↓run_5, ↓run_6, eq_self, entryE, endR, ↓sSeq_ap, ↓sIf_ap, ↓sRet_ap, ↓sRetN_ap, ↓sDrop_ap, ↓sAsg_ap, ↓sNext_ap, ↓sBrk_ap, ↓sCnt_ap, ↓sNever_ap, ↓sRaise_ap, ↓sPar_ap, ↓sAug_ap, ↓sFor_ap, loop_nil, loop_cons, ↓bOf_ap, ↓bAnd_ap, ↓bOr_ap, ↓bNot_ap, ↓bYes_ap, ↓eVar_ap, ↓eFz_ap, ↓eMv_ap, look, ↓eC_ap, ↓eOp_ap, ↓eAnd_ap, ↓eOr_ap, ↓eNot_ap, ↓eNeg_ap, ↓eIf_ap, ↓eTup_ap, ↓eLst_ap, ↓eCall_ap, ↓eCB_ap, ↓eSl_ap, ↓oNo_ap, ↓oSome_ap, ↓eRevL_ap, ↓eChain_ap, ↓aNil_ap, ↓aCons_ap, ↓g2_ap, ↓gOr_ap, gAdd, gMul, gAdd0, gAddS0, gSub0, gDiv0, gMod0, gMul0, gPow0, gLt0, gLe0, gGt0, gGe0, gEq0, gNe0, gIs0, gNot0, gIn0, ↓gC_ap, gLen, lenD, gAbs, gInt, gStr, gSum, gAny, gAll, gMax, gMin, ↓gDivmod_ap, ↓gList_ap, ↓gTupL_ap, ↓gSorted_ap, gSl, gRevL, gIsi, ↓gIx_ap, kPart, ↓gCat_ap, ↓gRep_ap, ↓gN_ap, ↓gF_ap, ↓gT_ap, ↓gsNil_ap, ↓gsCons_ap, withK, stb', okItem, hasK, itemsOk, isNon, listOf, lstOf, intsOf, blsOf, tyD, lstD, seqOf, ↓iLst_ap, ↓iR1_ap, ↓iR2_ap, ↓iSeq_ap, ↓iZ_ap, List.map_cons, List.map_nil, List.length_cons, List.length_nil, List.reduceReplicate, List.nil_append, List.cons_append, List.getElem?_cons_zero, List.getElem?_cons_succ, List.getElem?_nil, List.set_cons_zero, List.set_cons_succ, List.all_cons, List.all_nil, Bool.and_true, Bool.true_and, Bool.and_false, Bool.false_and, Bool.or_true, Bool.true_or, Bool.or_false, Bool.false_or, Bool.not_true, Bool.not_false, Bool.false_eq_true, if_true, if_false, ↓reduceIte, Option.map_some, Option.map_none, chk_pos, decide_eq_true_eq, flat, flat.flats, okP, okP.okPs, kit_NoneType_int, kit_NoneType_bool, kit_NoneType_str, kit_NoneType_tuple, kit_NoneType_list, kit_NoneType_dict, kit_bool_int, kit_bool_bool, kit_bool_str, kit_bool_tuple, kit_bool_list, kit_bool_dict, kit_int_int, kit_int_bool, kit_int_str, kit_int_tuple, kit_int_list, kit_int_dict, kit_str_int, kit_str_bool, kit_str_str, kit_str_tuple, kit_str_list, kit_str_dict, kit_list_int, kit_list_bool, kit_list_str, kit_list_tuple, kit_list_list, kit_list_dict, kit_tuple_int, kit_tuple_bool, kit_tuple_str, kit_tuple_tuple, kit_tuple_list, kit_tuple_dict, kit_dict_int, kit_dict_bool, kit_dict_str, kit_dict_tuple, kit_dict_list, kit_dict_dict, Nat.zero_add, Nat.reduceAdd, Nat.reduceLeDiff, Nat.reduceLT, Nat.reduceEqDiff, Nat.reduceMul, Nat.reduceSub, Nat.reducePow, Int.reduceAdd, Int.reduceSub, Int.reduceMul, Int.reduceNeg, Int.reducePow, Int.reduceLT, Int.reduceLE, Int.reduceEq, Int.reduceNe, Int.reduceToNat, beq_self_eq_true, Option.some.injEq, intsD, Nat.reduceBEq, decide_true, decide_false, ite_true, ite_false, atI_nat, atI_lit, atI_last, ixN_nat, ixN_lit, cut_nn, eqD_nn, eqD_ii, eqD_bb, eqD_ss, eqD_tt, eqD_ll, eqs_nn, eqs_cc, eqs_nc, eqs_cn, beq_str, beq_int, wipeE, lcOne_ap, ↓sTryK_ap, setO, ↓gPart_ap, ePart, eFind, eJoin, eSplit, ↓eM1_ap, ↓eLc_ap, ↓eJoined_ap, ↓jStr_ap, ↓jFmt_ap, ↓jNil_ap, ↓eDnew_ap, ↓eDic1_ap, scl, sgn, ↓gFind_ap, ↓gJoin_ap, ↓gSplitS_ap, ↓gTupOf_ap, ↓pIx_ap, ↓pVar_ap, ↓sApp_ap, ↓sClr_ap, ↓sRev_ap, ↓sSet_ap, cast_lit, ↓bind_ap, ↓toF_ap, ixD_l, ixD_t, ixD_r, ↓in_sgn, blsD_map, intsD_map, gMulS0, e40, c0, c1, c2, h2, q]) <;> rfl, by omega, by omega⟩
  · have p1 := fmod_pos (cellOf ns 1) (b := 19999999999999999999999999999999999999999) (by omega)
    have p2 := fmod_pos (cellOf ns 2) (b := 9999999999999999999999999999999999999999) (by omega)
    have b1 : 0 < 1 + (cellOf ns 2).fmod 9999999999999999999999999999999999999999 := by omega
    have b2 : (1 + (cellOf ns 2).fmod 9999999999999999999999999999999999999999).natAbs < 10 ^ 40 := by omega
    have q := q_lowest (t := (cellOf ns 1).fmod 19999999999999999999999999999999999999999 - 10000000000000000000000000000000000000000 + 1) b1 (lt b2)
    have l := lowest_le ((cellOf ns 1).fmod 19999999999999999999999999999999999999999 - 10000000000000000000000000000000000000000 + 1) (1 + (cellOf ns 2).fmod 9999999999999999999999999999999999999999)
    exact ⟨_, by (simp (disch := walk_at "sz") only [↓run_0, ↓run_1, ↓run_2, ↓run_3, ↓run_4, ↓run_5, ↓run_6, eq_self, entryE, endR, ↓sSeq_ap, ↓sIf_ap, ↓sRet_ap, ↓sRetN_ap, ↓sDrop_ap, ↓sAsg_ap, ↓sNext_ap, ↓sBrk_ap, ↓sCnt_ap, ↓sNever_ap, ↓sRaise_ap, ↓sPar_ap, ↓sAug_ap, ↓sFor_ap, loop_nil, loop_cons, ↓bOf_ap, ↓bAnd_ap, ↓bOr_ap, ↓bNot_ap, ↓bYes_ap, ↓eVar_ap, ↓eFz_ap, ↓eMv_ap, look, ↓eC_ap, ↓eOp_ap, ↓eAnd_ap, ↓eOr_ap, ↓eNot_ap, ↓eNeg_ap, ↓eIf_ap, ↓eTup_ap, ↓eLst_ap, ↓eCall_ap, ↓eCB_ap, ↓eSl_ap, ↓oNo_ap, ↓oSome_ap, ↓eRevL_ap, ↓eChain_ap, ↓aNil_ap, ↓aCons_ap, ↓g2_ap, ↓gOr_ap, gAdd, gMul, gAdd0, gAddS0, gSub0, gDiv0, gMod0, gMul0, gPow0, gLt0, gLe0, gGt0, gGe0, gEq0, gNe0, gIs0, gNot0, gIn0, ↓gC_ap, gLen, lenD, gAbs, gInt, gStr, gSum, gAny, gAll, gMax, gMin, ↓gDivmod_ap, ↓gList_ap, ↓gTupL_ap, ↓gSorted_ap, gSl, gRevL, gIsi, ↓gIx_ap, kPart, ↓gCat_ap, ↓gRep_ap, ↓gN_ap, ↓gF_ap, ↓gT_ap, ↓gsNil_ap, ↓gsCons_ap, withK, stb', okItem, hasK, itemsOk, isNon, listOf, lstOf, intsOf, blsOf, tyD, lstD, seqOf, ↓iLst_ap, ↓iR1_ap, ↓iR2_ap, ↓iSeq_ap, ↓iZ_ap, List.map_cons, List.map_nil, List.length_cons, List.length_nil, List.reduceReplicate, List.nil_append, List.cons_append, List.getElem?_cons_zero, List.getElem?_cons_succ, List.getElem?_nil, List.set_cons_zero, List.set_cons_succ, List.all_cons, List.all_nil, Bool.and_true, Bool.true_and, Bool.and_false, Bool.false_and, Bool.or_true, Bool.true_or, Bool.or_false, Bool.false_or, Bool.not_true, Bool.not_false, Bool.false_eq_true, if_true, if_false, ↓reduceIte, Option.map_some, Option.map_none, chk_pos, decide_eq_true_eq, flat, flat.flats, okP, okP.okPs, kit_NoneType_int, kit_NoneType_bool, kit_NoneType_str, kit_NoneType_tuple, kit_NoneType_list, kit_NoneType_dict, kit_bool_int, kit_bool_bool, kit_bool_str, kit_bool_tuple, kit_bool_list, kit_bool_dict, kit_int_int, kit_int_bool, kit_int_str, kit_int_tuple, kit_int_list, kit_int_dict, kit_str_int, kit_str_bool, kit_str_str, kit_str_tuple, kit_str_list, kit_str_dict, kit_list_int, kit_list_bool, kit_list_str, kit_list_tuple, kit_list_list, kit_list_dict, kit_tuple_int, kit_tuple_bool, kit_tuple_str, kit_tuple_tuple, kit_tuple_list, kit_tuple_dict, kit_dict_int, kit_dict_bool, kit_dict_str, kit_dict_tuple, kit_dict_list, kit_dict_dict, Nat.zero_add, Nat.reduceAdd, Nat.reduceLeDiff, Nat.reduceLT, Nat.reduceEqDiff, Nat.reduceMul, Nat.reduceSub, Nat.reducePow, Int.reduceAdd, Int.reduceSub, Int.reduceMul, Int.reduceNeg, Int.reducePow, Int.reduceLT, Int.reduceLE, Int.reduceEq, Int.reduceNe, Int.reduceToNat, beq_self_eq_true, Option.some.injEq, intsD, Nat.reduceBEq, decide_true, decide_false, ite_true, ite_false, atI_nat, atI_lit, atI_last, ixN_nat, ixN_lit, cut_nn, eqD_nn, eqD_ii, eqD_bb, eqD_ss, eqD_tt, eqD_ll, eqs_nn, eqs_cc, eqs_nc, eqs_cn, beq_str, beq_int, wipeE, lcOne_ap, ↓sTryK_ap, setO, ↓gPart_ap, ePart, eFind, eJoin, eSplit, ↓eM1_ap, ↓eLc_ap, ↓eJoined_ap, ↓jStr_ap, ↓jFmt_ap, ↓jNil_ap, ↓eDnew_ap, ↓eDic1_ap, scl, sgn, ↓gFind_ap, ↓gJoin_ap, ↓gSplitS_ap, ↓gTupOf_ap, ↓pIx_ap, ↓pVar_ap, ↓sApp_ap, ↓sClr_ap, ↓sRev_ap, ↓sSet_ap, cast_lit, ↓bind_ap, ↓toF_ap, ixD_l, ixD_t, ixD_r, ↓in_sgn, blsD_map, intsD_map, gMulS0, e40, c0, c1, c2, h2, q]) <;> rfl, by omega, by omega⟩

theorem fourteen {k : Int} (h0 : 0 ≤ k) (h1 : k < 14) : k = 0 ∨ k = 1 ∨ k = 2 ∨ k = 3 ∨ k = 4 ∨ k = 5 ∨ k = 6 ∨ k = 7 ∨ k = 8 ∨ k = 9 ∨ k = 10 ∨ k = 11 ∨ k = 12 ∨ k = 13 := by omega
theorem q_odd7 (k : Int) : ∃ s : Str, m__law_odd [.int k] = some (.ret 0 (.str s)) ∧ s.length ≤ 10 := by
  have hp := fmod_pos k (b := 14) (by omega)
  have key : ∃ s : Str, atI [D.str "", .str "-", .str "/", .str "-/", .str "1/", .str "/2", .str "--1", .str "1/-2", .str "1/2/3", .str "-0", .str "00", .str "+1", .str "-0", .str "-0"] (k.fmod 14) = some (.str s) ∧ s.length ≤ 10 := by
    rcases fourteen hp.1 hp.2 with e | e | e | e | e | e | e | e | e | e | e | e | e | e <;> rw [e] <;> exact ⟨_, rfl, by decide +kernel⟩
  obtain ⟨s, e, h⟩ := key
  refine ⟨s, ?_, h⟩
  unfold m__law_odd b__law_odd
  simp (disch := walk_at "sz") only [↓run_0, ↓run_1, ↓run_2, ↓run_3, ↓run_4, ↓run_5, ↓run_6, eq_self, entryE, endR, ↓sSeq_ap, ↓sIf_ap, ↓sRet_ap, ↓sRetN_ap, ↓sDrop_ap, ↓sAsg_ap, ↓sNext_ap, ↓sBrk_ap, ↓sCnt_ap, ↓sNever_ap, ↓sRaise_ap, ↓sPar_ap, ↓sAug_ap, ↓sFor_ap, loop_nil, loop_cons, ↓bOf_ap, ↓bAnd_ap, ↓bOr_ap, ↓bNot_ap, ↓bYes_ap, ↓eVar_ap, ↓eFz_ap, ↓eMv_ap, look, ↓eC_ap, ↓eOp_ap, ↓eAnd_ap, ↓eOr_ap, ↓eNot_ap, ↓eNeg_ap, ↓eIf_ap, ↓eTup_ap, ↓eLst_ap, ↓eCall_ap, ↓eCB_ap, ↓eSl_ap, ↓oNo_ap, ↓oSome_ap, ↓eRevL_ap, ↓eChain_ap, ↓aNil_ap, ↓aCons_ap, ↓g2_ap, ↓gOr_ap, gAdd, gMul, gAdd0, gAddS0, gSub0, gDiv0, gMod0, gMul0, gPow0, gLt0, gLe0, gGt0, gGe0, gEq0, gNe0, gIs0, gNot0, gIn0, ↓gC_ap, gLen, lenD, gAbs, gInt, gStr, gSum, gAny, gAll, gMax, gMin, ↓gDivmod_ap, ↓gList_ap, ↓gTupL_ap, ↓gSorted_ap, gSl, gRevL, gIsi, ↓gIx_ap, kPart, ↓gCat_ap, ↓gRep_ap, ↓gN_ap, ↓gF_ap, ↓gT_ap, ↓gsNil_ap, ↓gsCons_ap, withK, stb', okItem, hasK, itemsOk, isNon, listOf, lstOf, intsOf, blsOf, tyD, lstD, seqOf, ↓iLst_ap, ↓iR1_ap, ↓iR2_ap, ↓iSeq_ap, ↓iZ_ap, List.map_cons, List.map_nil, List.length_cons, List.length_nil, List.reduceReplicate, List.nil_append, List.cons_append, List.getElem?_cons_zero, List.getElem?_cons_succ, List.getElem?_nil, List.set_cons_zero, List.set_cons_succ, List.all_cons, List.all_nil, Bool.and_true, Bool.true_and, Bool.and_false, Bool.false_and, Bool.or_true, Bool.true_or, Bool.or_false, Bool.false_or, Bool.not_true, Bool.not_false, Bool.false_eq_true, if_true, if_false, ↓reduceIte, Option.map_some, Option.map_none, chk_pos, decide_eq_true_eq, flat, flat.flats, okP, okP.okPs, kit_NoneType_int, kit_NoneType_bool, kit_NoneType_str, kit_NoneType_tuple, kit_NoneType_list, kit_NoneType_dict, kit_bool_int, kit_bool_bool, kit_bool_str, kit_bool_tuple, kit_bool_list, kit_bool_dict, kit_int_int, kit_int_bool, kit_int_str, kit_int_tuple, kit_int_list, kit_int_dict, kit_str_int, kit_str_bool, kit_str_str, kit_str_tuple, kit_str_list, kit_str_dict, kit_list_int, kit_list_bool, kit_list_str, kit_list_tuple, kit_list_list, kit_list_dict, kit_tuple_int, kit_tuple_bool, kit_tuple_str, kit_tuple_tuple, kit_tuple_list, kit_tuple_dict, kit_dict_int, kit_dict_bool, kit_dict_str, kit_dict_tuple, kit_dict_list, kit_dict_dict, Nat.zero_add, Nat.reduceAdd, Nat.reduceLeDiff, Nat.reduceLT, Nat.reduceEqDiff, Nat.reduceMul, Nat.reduceSub, Nat.reducePow, Int.reduceAdd, Int.reduceSub, Int.reduceMul, Int.reduceNeg, Int.reducePow, Int.reduceLT, Int.reduceLE, Int.reduceEq, Int.reduceNe, Int.reduceToNat, beq_self_eq_true, Option.some.injEq, intsD, Nat.reduceBEq, decide_true, decide_false, ite_true, ite_false, atI_nat, atI_lit, atI_last, ixN_nat, ixN_lit, cut_nn, eqD_nn, eqD_ii, eqD_bb, eqD_ss, eqD_tt, eqD_ll, eqs_nn, eqs_cc, eqs_nc, eqs_cn, beq_str, beq_int, wipeE, lcOne_ap, ↓sTryK_ap, setO, ↓gPart_ap, ePart, eFind, eJoin, eSplit, ↓eM1_ap, ↓eLc_ap, ↓eJoined_ap, ↓jStr_ap, ↓jFmt_ap, ↓jNil_ap, ↓eDnew_ap, ↓eDic1_ap, scl, sgn, ↓gFind_ap, ↓gJoin_ap, ↓gSplitS_ap, ↓gTupOf_ap, ↓pIx_ap, ↓pVar_ap, ↓sApp_ap, ↓sClr_ap, ↓sRev_ap, ↓sSet_ap, cast_lit, ↓bind_ap, ↓toF_ap, ixD_l, ixD_t, ixD_r, ↓in_sgn, blsD_map, intsD_map, gMulS0, e]

theorem fifteen {k : Int} (h0 : 0 ≤ k) (h1 : k < 15) : k = 0 ∨ k = 1 ∨ k = 2 ∨ k = 3 ∨ k = 4 ∨ k = 5 ∨ k = 6 ∨ k = 7 ∨ k = 8 ∨ k = 9 ∨ k = 10 ∨ k = 11 ∨ k = 12 ∨ k = 13 ∨ k = 14 := by omega
theorem signs15 {k : Int} (h0 : 0 ≤ k) (h1 : k < 15) : ∃ s : Str, atI [D.str " ", .str "+", .str "-", .str "0", .str "/", .str ".", .str ",", .str "a", .str "\n", .str "_", .str "1", .str "\t", .str ":", .str "~", .str "e"] k = some (.str s) ∧ s.length ≤ 1 := by
  rcases fifteen h0 h1 with e | e | e | e | e | e | e | e | e | e | e | e | e | e | e <;> rw [e] <;> exact ⟨_, rfl, by decide +kernel⟩
theorem mul_ok : ∀ n : Nat, n < 50 → ∀ s ∈ [("-" : Str), "7", "9"], ((decide ((n : Int) < -(2 ^ 63 : Int)) || decide ((n : Int) ≥ 2 ^ 63)) = false ∧ (¬ (n : Int) < 1 → ((n : Int) == 1 || s.length == 0) = false → ¬ ((s.length : Int) > (2 ^ 63 - 1) / (n : Int))) ∧
  (¬ (n : Int) < 1 → ((n : Int) == 1 || s.length == 0) = false → Builtin.Str.tooLong (s.length * (n : Int).toNat) = false)) ∧ (Txt.mul s (n : Int)).length ≤ 50 := by decide +kernel
theorem mul_str {s : Str} (hs : s ∈ [("-" : Str), "7", "9"]) {n : Int} (h0 : 0 ≤ n) (h1 : n < 50) : PySem.MulOk s n ∧ (Txt.mul s n).length ≤ 50 := by
  obtain ⟨m, rfl⟩ := Int.eq_ofNat_of_zero_le h0
  exact mul_ok m (by omega) s hs
theorem q_spoiled (ns : List Int) (hl : ns.length ≤ 63) (p : Int × Int) (h1 : p.1.natAbs < 10 ^ 40) (h2 : p.2.natAbs < 10 ^ 40) : ∃ s : Str, m__law_spoiled [.rd ns, fr p] = some (.ret 0 (.str s)) ∧ s.length ≤ 300 := by
  have hz : 3000 ≤ sizeLine := by decide
  have l1 := dec_len (k := 40) (by decide) h1
  have l2 := dec_len (k := 40) (by decide) h2
  have b1 := fit6_bits h1
  have b2 := fit6_bits h2
  have k6 := q_law_number p b1 b2 (by omega)
  have nl : (numT p).length ≤ 90 := by
    unfold numT
    split
    · omega
    · rw [str_cat, str_cat, str_cat, empty_len, slash_len]
      omega
  obtain ⟨a, b⟩ := p
  have l1 : (decI a).length ≤ 41 := l1
  have l2 : (decI b).length ≤ 41 := l2
  have b1 : a.natAbs.log2 < 1920 := b1
  have b2 : b.natAbs.log2 < 1920 := b2
  have c3 : m__law_cell [.rd ns, .int 3] = some (.ret 0 (.int (cellOf ns 3))) := q_cell ns 3 hl
  have c4 : m__law_cell [.rd ns, .int 4] = some (.ret 0 (.int (cellOf ns 4))) := q_cell ns 4 hl
  generalize hx : numT (a, b) = x at *
  generalize cellOf ns 4 = c at *
  generalize cellOf ns 3 = w at *
  have f15 := fmod_pos c (b := 15) (by omega)
  obtain ⟨sg, es, ls⟩ := signs15 f15.1 f15.2
  have hxl : ((x.length : Int) + 1) ≠ 0 := by omega
  have xl : x.length ≤ sizeLine := by omega
  have dv : DivOk c 15 := divOk_bd _ (by decide) (by decide)
  obtain ⟨at_, ha⟩ : ∃ at_, at_ = (c.fdiv 15).fmod ((x.length : Int) + 1) := ⟨_, rfl⟩
  have s1 := cutS_length x none (some at_)
  have s2 := cutS_length x (some at_) none
  have s3 := cutS_length x (some (at_ + 1)) none
  unfold m__law_spoiled b__law_spoiled
  by_cases w1 : w.fmod 9 = 1
  · have z1 : (cutS x none (some at_)).length + sg.length ≤ sizeLine := by omega
    have z2 : (cutS x none (some at_) ++ sg).length + (cutS x (some at_) none).length ≤ sizeLine := by rw [str_cat]; omega
    exact ⟨_, by (simp (disch := walk_at "sz") only [↓run_0, ↓run_1, ↓run_2, ↓run_3, ↓run_4, ↓run_5, ↓run_6, eq_self, entryE, endR, ↓sSeq_ap, ↓sIf_ap, ↓sRet_ap, ↓sRetN_ap, ↓sDrop_ap, ↓sAsg_ap, ↓sNext_ap, ↓sBrk_ap, ↓sCnt_ap, ↓sNever_ap, ↓sRaise_ap, ↓sPar_ap, ↓sAug_ap, ↓sFor_ap, loop_nil, loop_cons, ↓bOf_ap, ↓bAnd_ap, ↓bOr_ap, ↓bNot_ap, ↓bYes_ap, ↓eVar_ap, ↓eFz_ap, ↓eMv_ap, look, ↓eC_ap, ↓eOp_ap, ↓eAnd_ap, ↓eOr_ap, ↓eNot_ap, ↓eNeg_ap, ↓eIf_ap, ↓eTup_ap, ↓eLst_ap, ↓eCall_ap, ↓eCB_ap, ↓eSl_ap, ↓oNo_ap, ↓oSome_ap, ↓eRevL_ap, ↓eChain_ap, ↓aNil_ap, ↓aCons_ap, ↓g2_ap, ↓gOr_ap, gAdd, gMul, gAdd0, gAddS0, gSub0, gDiv0, gMod0, gMul0, gPow0, gLt0, gLe0, gGt0, gGe0, gEq0, gNe0, gIs0, gNot0, gIn0, ↓gC_ap, gLen, lenD, gAbs, gInt, gStr, gSum, gAny, gAll, gMax, gMin, ↓gDivmod_ap, ↓gList_ap, ↓gTupL_ap, ↓gSorted_ap, gSl, gRevL, gIsi, ↓gIx_ap, kPart, ↓gCat_ap, ↓gRep_ap, ↓gN_ap, ↓gF_ap, ↓gT_ap, ↓gsNil_ap, ↓gsCons_ap, withK, stb', okItem, hasK, itemsOk, isNon, listOf, lstOf, intsOf, blsOf, tyD, lstD, seqOf, ↓iLst_ap, ↓iR1_ap, ↓iR2_ap, ↓iSeq_ap, ↓iZ_ap, List.map_cons, List.map_nil, List.length_cons, List.length_nil, List.reduceReplicate, List.nil_append, List.cons_append, List.getElem?_cons_zero, List.getElem?_cons_succ, List.getElem?_nil, List.set_cons_zero, List.set_cons_succ, List.all_cons, List.all_nil, Bool.and_true, Bool.true_and, Bool.and_false, Bool.false_and, Bool.or_true, Bool.true_or, Bool.or_false, Bool.false_or, Bool.not_true, Bool.not_false, Bool.false_eq_true, if_true, if_false, ↓reduceIte, Option.map_some, Option.map_none, chk_pos, decide_eq_true_eq, flat, flat.flats, okP, okP.okPs, kit_NoneType_int, kit_NoneType_bool, kit_NoneType_str, kit_NoneType_tuple, kit_NoneType_list, kit_NoneType_dict, kit_bool_int, kit_bool_bool, kit_bool_str, kit_bool_tuple, kit_bool_list, kit_bool_dict, kit_int_int, kit_int_bool, kit_int_str, kit_int_tuple, kit_int_list, kit_int_dict, kit_str_int, kit_str_bool, kit_str_str, kit_str_tuple, kit_str_list, kit_str_dict, kit_list_int, kit_list_bool, kit_list_str, kit_list_tuple, kit_list_list, kit_list_dict, kit_tuple_int, kit_tuple_bool, kit_tuple_str, kit_tuple_tuple, kit_tuple_list, kit_tuple_dict, kit_dict_int, kit_dict_bool, kit_dict_str, kit_dict_tuple, kit_dict_list, kit_dict_dict, Nat.zero_add, Nat.reduceAdd, Nat.reduceLeDiff, Nat.reduceLT, Nat.reduceEqDiff, Nat.reduceMul, Nat.reduceSub, Nat.reducePow, Int.reduceAdd, Int.reduceSub, Int.reduceMul, Int.reduceNeg, Int.reducePow, Int.reduceLT, Int.reduceLE, Int.reduceEq, Int.reduceNe, Int.reduceToNat, beq_self_eq_true, Option.some.injEq, intsD, Nat.reduceBEq, decide_true, decide_false, ite_true, ite_false, atI_nat, atI_lit, atI_last, ixN_nat, ixN_lit, cut_nn, eqD_nn, eqD_ii, eqD_bb, eqD_ss, eqD_tt, eqD_ll, eqs_nn, eqs_cc, eqs_nc, eqs_cn, beq_str, beq_int, wipeE, lcOne_ap, ↓sTryK_ap, setO, ↓gPart_ap, ePart, eFind, eJoin, eSplit, ↓eM1_ap, ↓eLc_ap, ↓eJoined_ap, ↓jStr_ap, ↓jFmt_ap, ↓jNil_ap, ↓eDnew_ap, ↓eDic1_ap, scl, sgn, ↓gFind_ap, ↓gJoin_ap, ↓gSplitS_ap, ↓gTupOf_ap, ↓pIx_ap, ↓pVar_ap, ↓sApp_ap, ↓sClr_ap, ↓sRev_ap, ↓sSet_ap, cast_lit, ↓bind_ap, ↓toF_ap, ixD_l, ixD_t, ixD_r, ↓in_sgn, blsD_map, intsD_map, gMulS0, k6, c3, c4, es, w1, ← ha]) <;> rfl, by rw [str_cat, str_cat]; omega⟩
  by_cases w2 : w.fmod 9 = 2
  · have z1 : (cutS x none (some at_)).length + sg.length ≤ sizeLine := by omega
    have z2 : (cutS x none (some at_) ++ sg).length + (cutS x (some (at_ + 1)) none).length ≤ sizeLine := by rw [str_cat]; omega
    exact ⟨_, by (simp (disch := walk_at "sz") only [↓run_0, ↓run_1, ↓run_2, ↓run_3, ↓run_4, ↓run_5, ↓run_6, eq_self, entryE, endR, ↓sSeq_ap, ↓sIf_ap, ↓sRet_ap, ↓sRetN_ap, ↓sDrop_ap, ↓sAsg_ap, ↓sNext_ap, ↓sBrk_ap, ↓sCnt_ap, ↓sNever_ap, ↓sRaise_ap, ↓sPar_ap, ↓sAug_ap, ↓sFor_ap, loop_nil, loop_cons, ↓bOf_ap, ↓bAnd_ap, ↓bOr_ap, ↓bNot_ap, ↓bYes_ap, ↓eVar_ap, ↓eFz_ap, ↓eMv_ap, look, ↓eC_ap, ↓eOp_ap, ↓eAnd_ap, ↓eOr_ap, ↓eNot_ap, ↓eNeg_ap, ↓eIf_ap, ↓eTup_ap, ↓eLst_ap, ↓eCall_ap, ↓eCB_ap, ↓eSl_ap, ↓oNo_ap, ↓oSome_ap, ↓eRevL_ap, ↓eChain_ap, ↓aNil_ap, ↓aCons_ap, ↓g2_ap, ↓gOr_ap, gAdd, gMul, gAdd0, gAddS0, gSub0, gDiv0, gMod0, gMul0, gPow0, gLt0, gLe0, gGt0, gGe0, gEq0, gNe0, gIs0, gNot0, gIn0, ↓gC_ap, gLen, lenD, gAbs, gInt, gStr, gSum, gAny, gAll, gMax, gMin, ↓gDivmod_ap, ↓gList_ap, ↓gTupL_ap, ↓gSorted_ap, gSl, gRevL, gIsi, ↓gIx_ap, kPart, ↓gCat_ap, ↓gRep_ap, ↓gN_ap, ↓gF_ap, ↓gT_ap, ↓gsNil_ap, ↓gsCons_ap, withK, stb', okItem, hasK, itemsOk, isNon, listOf, lstOf, intsOf, blsOf, tyD, lstD, seqOf, ↓iLst_ap, ↓iR1_ap, ↓iR2_ap, ↓iSeq_ap, ↓iZ_ap, List.map_cons, List.map_nil, List.length_cons, List.length_nil, List.reduceReplicate, List.nil_append, List.cons_append, List.getElem?_cons_zero, List.getElem?_cons_succ, List.getElem?_nil, List.set_cons_zero, List.set_cons_succ, List.all_cons, List.all_nil, Bool.and_true, Bool.true_and, Bool.and_false, Bool.false_and, Bool.or_true, Bool.true_or, Bool.or_false, Bool.false_or, Bool.not_true, Bool.not_false, Bool.false_eq_true, if_true, if_false, ↓reduceIte, Option.map_some, Option.map_none, chk_pos, decide_eq_true_eq, flat, flat.flats, okP, okP.okPs, kit_NoneType_int, kit_NoneType_bool, kit_NoneType_str, kit_NoneType_tuple, kit_NoneType_list, kit_NoneType_dict, kit_bool_int, kit_bool_bool, kit_bool_str, kit_bool_tuple, kit_bool_list, kit_bool_dict, kit_int_int, kit_int_bool, kit_int_str, kit_int_tuple, kit_int_list, kit_int_dict, kit_str_int, kit_str_bool, kit_str_str, kit_str_tuple, kit_str_list, kit_str_dict, kit_list_int, kit_list_bool, kit_list_str, kit_list_tuple, kit_list_list, kit_list_dict, kit_tuple_int, kit_tuple_bool, kit_tuple_str, kit_tuple_tuple, kit_tuple_list, kit_tuple_dict, kit_dict_int, kit_dict_bool, kit_dict_str, kit_dict_tuple, kit_dict_list, kit_dict_dict, Nat.zero_add, Nat.reduceAdd, Nat.reduceLeDiff, Nat.reduceLT, Nat.reduceEqDiff, Nat.reduceMul, Nat.reduceSub, Nat.reducePow, Int.reduceAdd, Int.reduceSub, Int.reduceMul, Int.reduceNeg, Int.reducePow, Int.reduceLT, Int.reduceLE, Int.reduceEq, Int.reduceNe, Int.reduceToNat, beq_self_eq_true, Option.some.injEq, intsD, Nat.reduceBEq, decide_true, decide_false, ite_true, ite_false, atI_nat, atI_lit, atI_last, ixN_nat, ixN_lit, cut_nn, eqD_nn, eqD_ii, eqD_bb, eqD_ss, eqD_tt, eqD_ll, eqs_nn, eqs_cc, eqs_nc, eqs_cn, beq_str, beq_int, wipeE, lcOne_ap, ↓sTryK_ap, setO, ↓gPart_ap, ePart, eFind, eJoin, eSplit, ↓eM1_ap, ↓eLc_ap, ↓eJoined_ap, ↓jStr_ap, ↓jFmt_ap, ↓jNil_ap, ↓eDnew_ap, ↓eDic1_ap, scl, sgn, ↓gFind_ap, ↓gJoin_ap, ↓gSplitS_ap, ↓gTupOf_ap, ↓pIx_ap, ↓pVar_ap, ↓sApp_ap, ↓sClr_ap, ↓sRev_ap, ↓sSet_ap, cast_lit, ↓bind_ap, ↓toF_ap, ixD_l, ixD_t, ixD_r, ↓in_sgn, blsD_map, intsD_map, gMulS0, k6, c3, c4, es, w2, ← ha]) <;> rfl, by rw [str_cat, str_cat]; omega⟩
  by_cases w3 : w.fmod 9 = 3
  · have z1 : (cutS x none (some at_)).length + (cutS x (some (at_ + 1)) none).length ≤ sizeLine := by omega
    exact ⟨_, by (simp (disch := walk_at "sz") only [↓run_0, ↓run_1, ↓run_2, ↓run_3, ↓run_4, ↓run_5, ↓run_6, eq_self, entryE, endR, ↓sSeq_ap, ↓sIf_ap, ↓sRet_ap, ↓sRetN_ap, ↓sDrop_ap, ↓sAsg_ap, ↓sNext_ap, ↓sBrk_ap, ↓sCnt_ap, ↓sNever_ap, ↓sRaise_ap, ↓sPar_ap, ↓sAug_ap, ↓sFor_ap, loop_nil, loop_cons, ↓bOf_ap, ↓bAnd_ap, ↓bOr_ap, ↓bNot_ap, ↓bYes_ap, ↓eVar_ap, ↓eFz_ap, ↓eMv_ap, look, ↓eC_ap, ↓eOp_ap, ↓eAnd_ap, ↓eOr_ap, ↓eNot_ap, ↓eNeg_ap, ↓eIf_ap, ↓eTup_ap, ↓eLst_ap, ↓eCall_ap, ↓eCB_ap, ↓eSl_ap, ↓oNo_ap, ↓oSome_ap, ↓eRevL_ap, ↓eChain_ap, ↓aNil_ap, ↓aCons_ap, ↓g2_ap, ↓gOr_ap, gAdd, gMul, gAdd0, gAddS0, gSub0, gDiv0, gMod0, gMul0, gPow0, gLt0, gLe0, gGt0, gGe0, gEq0, gNe0, gIs0, gNot0, gIn0, ↓gC_ap, gLen, lenD, gAbs, gInt, gStr, gSum, gAny, gAll, gMax, gMin, ↓gDivmod_ap, ↓gList_ap, ↓gTupL_ap, ↓gSorted_ap, gSl, gRevL, gIsi, ↓gIx_ap, kPart, ↓gCat_ap, ↓gRep_ap, ↓gN_ap, ↓gF_ap, ↓gT_ap, ↓gsNil_ap, ↓gsCons_ap, withK, stb', okItem, hasK, itemsOk, isNon, listOf, lstOf, intsOf, blsOf, tyD, lstD, seqOf, ↓iLst_ap, ↓iR1_ap, ↓iR2_ap, ↓iSeq_ap, ↓iZ_ap, List.map_cons, List.map_nil, List.length_cons, List.length_nil, List.reduceReplicate, List.nil_append, List.cons_append, List.getElem?_cons_zero, List.getElem?_cons_succ, List.getElem?_nil, List.set_cons_zero, List.set_cons_succ, List.all_cons, List.all_nil, Bool.and_true, Bool.true_and, Bool.and_false, Bool.false_and, Bool.or_true, Bool.true_or, Bool.or_false, Bool.false_or, Bool.not_true, Bool.not_false, Bool.false_eq_true, if_true, if_false, ↓reduceIte, Option.map_some, Option.map_none, chk_pos, decide_eq_true_eq, flat, flat.flats, okP, okP.okPs, kit_NoneType_int, kit_NoneType_bool, kit_NoneType_str, kit_NoneType_tuple, kit_NoneType_list, kit_NoneType_dict, kit_bool_int, kit_bool_bool, kit_bool_str, kit_bool_tuple, kit_bool_list, kit_bool_dict, kit_int_int, kit_int_bool, kit_int_str, kit_int_tuple, kit_int_list, kit_int_dict, kit_str_int, kit_str_bool, kit_str_str, kit_str_tuple, kit_str_list, kit_str_dict, kit_list_int, kit_list_bool, kit_list_str, kit_list_tuple, kit_list_list, kit_list_dict, kit_tuple_int, kit_tuple_bool, kit_tuple_str, kit_tuple_tuple, kit_tuple_list, kit_tuple_dict, kit_dict_int, kit_dict_bool, kit_dict_str, kit_dict_tuple, kit_dict_list, kit_dict_dict, Nat.zero_add, Nat.reduceAdd, Nat.reduceLeDiff, Nat.reduceLT, Nat.reduceEqDiff, Nat.reduceMul, Nat.reduceSub, Nat.reducePow, Int.reduceAdd, Int.reduceSub, Int.reduceMul, Int.reduceNeg, Int.reducePow, Int.reduceLT, Int.reduceLE, Int.reduceEq, Int.reduceNe, Int.reduceToNat, beq_self_eq_true, Option.some.injEq, intsD, Nat.reduceBEq, decide_true, decide_false, ite_true, ite_false, atI_nat, atI_lit, atI_last, ixN_nat, ixN_lit, cut_nn, eqD_nn, eqD_ii, eqD_bb, eqD_ss, eqD_tt, eqD_ll, eqs_nn, eqs_cc, eqs_nc, eqs_cn, beq_str, beq_int, wipeE, lcOne_ap, ↓sTryK_ap, setO, ↓gPart_ap, ePart, eFind, eJoin, eSplit, ↓eM1_ap, ↓eLc_ap, ↓eJoined_ap, ↓jStr_ap, ↓jFmt_ap, ↓jNil_ap, ↓eDnew_ap, ↓eDic1_ap, scl, sgn, ↓gFind_ap, ↓gJoin_ap, ↓gSplitS_ap, ↓gTupOf_ap, ↓pIx_ap, ↓pVar_ap, ↓sApp_ap, ↓sClr_ap, ↓sRev_ap, ↓sSet_ap, cast_lit, ↓bind_ap, ↓toF_ap, ixD_l, ixD_t, ixD_r, ↓in_sgn, blsD_map, intsD_map, gMulS0, k6, c3, c4, es, w3, ← ha]) <;> rfl, by rw [str_cat]; omega⟩
  have e20 : (10 : Int) ^ (20 : Int).toNat = 100000000000000000000 := by decide
  have pw : PowOk 10 20 := ⟨by decide, by decide, by decide⟩
  have n24 : (10 : Nat) ^ 24 = 1000000000000000000000000 := by decide
  have n5 : (2 : Nat) ^ 80 = 1208925819614629174706176 := by decide
  by_cases w4 : w.fmod 9 = 4
  · have f12 := fmod_pos c (b := 12) (by omega)
    have fa := fmod_pos a (b := 100000000000000000000) (by omega)
    have fb := fmod_pos b (b := 100000000000000000000) (by omega)
    obtain ⟨m, hm⟩ : ∃ m, m = 2 + c.fmod 12 := ⟨_, rfl⟩
    obtain ⟨u, hu⟩ : ∃ u, u = a.fmod 100000000000000000000 := ⟨_, rfl⟩
    obtain ⟨v, hv⟩ : ∃ v, v = 1 + b.fmod 100000000000000000000 := ⟨_, rfl⟩
    have m1 : m.natAbs < 2 ^ 4 := by omega
    have u1 : u.natAbs < 2 ^ 68 := by omega
    have v1 : v.natAbs < 2 ^ 68 := by omega
    have o1 : MulOk u m := (have := Bd.mk m1; mulOk_r u (by decide))
    have o2 : MulOk v m := (have := Bd.mk m1; mulOk_r v (by decide))
    have um := wide_lt u1 m1
    have vm := wide_lt v1 m1
    have g1 : (u * m).natAbs.log2 < 1920 := @log_bd _ 72 ⟨um⟩ (by decide) (by decide)
    have g2 : (v * m).natAbs.log2 < 1920 := @log_bd _ 72 ⟨vm⟩ (by decide) (by decide)
    have n72 : (2 : Nat) ^ (68 + 4) < 10 ^ 24 := by decide
    have q1 := dec_len (i := u * m) (k := 24) (by decide) (by omega)
    have q2 := dec_len (i := v * m) (k := 24) (by decide) (by omega)
    have z1 : (decI (u * m)).length + ("/" : Str).length ≤ sizeLine := by rw [slash_len]; omega
    have z2 : (decI (u * m) ++ "/").length + (decI (v * m)).length ≤ sizeLine := by rw [str_cat, slash_len]; omega
    exact ⟨_, by (simp (disch := walk_at "sz") only [↓run_0, ↓run_1, ↓run_2, ↓run_3, ↓run_4, ↓run_5, ↓run_6, eq_self, entryE, endR, ↓sSeq_ap, ↓sIf_ap, ↓sRet_ap, ↓sRetN_ap, ↓sDrop_ap, ↓sAsg_ap, ↓sNext_ap, ↓sBrk_ap, ↓sCnt_ap, ↓sNever_ap, ↓sRaise_ap, ↓sPar_ap, ↓sAug_ap, ↓sFor_ap, loop_nil, loop_cons, ↓bOf_ap, ↓bAnd_ap, ↓bOr_ap, ↓bNot_ap, ↓bYes_ap, ↓eVar_ap, ↓eFz_ap, ↓eMv_ap, look, ↓eC_ap, ↓eOp_ap, ↓eAnd_ap, ↓eOr_ap, ↓eNot_ap, ↓eNeg_ap, ↓eIf_ap, ↓eTup_ap, ↓eLst_ap, ↓eCall_ap, ↓eCB_ap, ↓eSl_ap, ↓oNo_ap, ↓oSome_ap, ↓eRevL_ap, ↓eChain_ap, ↓aNil_ap, ↓aCons_ap, ↓g2_ap, ↓gOr_ap, gAdd, gMul, gAdd0, gAddS0, gSub0, gDiv0, gMod0, gMul0, gPow0, gLt0, gLe0, gGt0, gGe0, gEq0, gNe0, gIs0, gNot0, gIn0, ↓gC_ap, gLen, lenD, gAbs, gInt, gStr, gSum, gAny, gAll, gMax, gMin, ↓gDivmod_ap, ↓gList_ap, ↓gTupL_ap, ↓gSorted_ap, gSl, gRevL, gIsi, ↓gIx_ap, kPart, ↓gCat_ap, ↓gRep_ap, ↓gN_ap, ↓gF_ap, ↓gT_ap, ↓gsNil_ap, ↓gsCons_ap, withK, stb', okItem, hasK, itemsOk, isNon, listOf, lstOf, intsOf, blsOf, tyD, lstD, seqOf, ↓iLst_ap, ↓iR1_ap, ↓iR2_ap, ↓iSeq_ap, ↓iZ_ap, List.map_cons, List.map_nil, List.length_cons, List.length_nil, List.reduceReplicate, List.nil_append, List.cons_append, List.getElem?_cons_zero, List.getElem?_cons_succ, List.getElem?_nil, List.set_cons_zero, List.set_cons_succ, List.all_cons, List.all_nil, Bool.and_true, Bool.true_and, Bool.and_false, Bool.false_and, Bool.or_true, Bool.true_or, Bool.or_false, Bool.false_or, Bool.not_true, Bool.not_false, Bool.false_eq_true, if_true, if_false, ↓reduceIte, Option.map_some, Option.map_none, chk_pos, decide_eq_true_eq, flat, flat.flats, okP, okP.okPs, kit_NoneType_int, kit_NoneType_bool, kit_NoneType_str, kit_NoneType_tuple, kit_NoneType_list, kit_NoneType_dict, kit_bool_int, kit_bool_bool, kit_bool_str, kit_bool_tuple, kit_bool_list, kit_bool_dict, kit_int_int, kit_int_bool, kit_int_str, kit_int_tuple, kit_int_list, kit_int_dict, kit_str_int, kit_str_bool, kit_str_str, kit_str_tuple, kit_str_list, kit_str_dict, kit_list_int, kit_list_bool, kit_list_str, kit_list_tuple, kit_list_list, kit_list_dict, kit_tuple_int, kit_tuple_bool, kit_tuple_str, kit_tuple_tuple, kit_tuple_list, kit_tuple_dict, kit_dict_int, kit_dict_bool, kit_dict_str, kit_dict_tuple, kit_dict_list, kit_dict_dict, Nat.zero_add, Nat.reduceAdd, Nat.reduceLeDiff, Nat.reduceLT, Nat.reduceEqDiff, Nat.reduceMul, Nat.reduceSub, Nat.reducePow, Int.reduceAdd, Int.reduceSub, Int.reduceMul, Int.reduceNeg, Int.reducePow, Int.reduceLT, Int.reduceLE, Int.reduceEq, Int.reduceNe, Int.reduceToNat, beq_self_eq_true, Option.some.injEq, intsD, Nat.reduceBEq, decide_true, decide_false, ite_true, ite_false, atI_nat, atI_lit, atI_last, ixN_nat, ixN_lit, cut_nn, eqD_nn, eqD_ii, eqD_bb, eqD_ss, eqD_tt, eqD_ll, eqs_nn, eqs_cc, eqs_nc, eqs_cn, beq_str, beq_int, wipeE, lcOne_ap, ↓sTryK_ap, setO, ↓gPart_ap, ePart, eFind, eJoin, eSplit, ↓eM1_ap, ↓eLc_ap, ↓eJoined_ap, ↓jStr_ap, ↓jFmt_ap, ↓jNil_ap, ↓eDnew_ap, ↓eDic1_ap, scl, sgn, ↓gFind_ap, ↓gJoin_ap, ↓gSplitS_ap, ↓gTupOf_ap, ↓pIx_ap, ↓pVar_ap, ↓sApp_ap, ↓sClr_ap, ↓sRev_ap, ↓sSet_ap, cast_lit, ↓bind_ap, ↓toF_ap, ixD_l, ixD_t, ixD_r, ↓in_sgn, blsD_map, intsD_map, gMulS0, k6, c3, c4, es, w4, e20, ← hm, ← hu, ← hv]) <;> rfl, by rw [str_cat, str_cat, slash_len]; omega⟩
  by_cases w5 : w.fmod 9 = 5
  · have f3 := fmod_pos c (b := 3) (by omega)
    have g1 : (c.fmod 3).natAbs.log2 < 1920 := @log_bd _ 4 ⟨by omega⟩ (by decide) (by decide)
    have q1 := dec_len (i := c.fmod 3) (k := 24) (by decide) (by omega)
    have z1 : (decI a).length + ("/" : Str).length ≤ sizeLine := by rw [slash_len]; omega
    have z2 : (decI a ++ "/").length + (decI (c.fmod 3)).length ≤ sizeLine := by rw [str_cat, slash_len]; omega
    exact ⟨_, by (simp (disch := walk_at "sz") only [↓run_0, ↓run_1, ↓run_2, ↓run_3, ↓run_4, ↓run_5, ↓run_6, eq_self, entryE, endR, ↓sSeq_ap, ↓sIf_ap, ↓sRet_ap, ↓sRetN_ap, ↓sDrop_ap, ↓sAsg_ap, ↓sNext_ap, ↓sBrk_ap, ↓sCnt_ap, ↓sNever_ap, ↓sRaise_ap, ↓sPar_ap, ↓sAug_ap, ↓sFor_ap, loop_nil, loop_cons, ↓bOf_ap, ↓bAnd_ap, ↓bOr_ap, ↓bNot_ap, ↓bYes_ap, ↓eVar_ap, ↓eFz_ap, ↓eMv_ap, look, ↓eC_ap, ↓eOp_ap, ↓eAnd_ap, ↓eOr_ap, ↓eNot_ap, ↓eNeg_ap, ↓eIf_ap, ↓eTup_ap, ↓eLst_ap, ↓eCall_ap, ↓eCB_ap, ↓eSl_ap, ↓oNo_ap, ↓oSome_ap, ↓eRevL_ap, ↓eChain_ap, ↓aNil_ap, ↓aCons_ap, ↓g2_ap, ↓gOr_ap, gAdd, gMul, gAdd0, gAddS0, gSub0, gDiv0, gMod0, gMul0, gPow0, gLt0, gLe0, gGt0, gGe0, gEq0, gNe0, gIs0, gNot0, gIn0, ↓gC_ap, gLen, lenD, gAbs, gInt, gStr, gSum, gAny, gAll, gMax, gMin, ↓gDivmod_ap, ↓gList_ap, ↓gTupL_ap, ↓gSorted_ap, gSl, gRevL, gIsi, ↓gIx_ap, kPart, ↓gCat_ap, ↓gRep_ap, ↓gN_ap, ↓gF_ap, ↓gT_ap, ↓gsNil_ap, ↓gsCons_ap, withK, stb', okItem, hasK, itemsOk, isNon, listOf, lstOf, intsOf, blsOf, tyD, lstD, seqOf, ↓iLst_ap, ↓iR1_ap, ↓iR2_ap, ↓iSeq_ap, ↓iZ_ap, List.map_cons, List.map_nil, List.length_cons, List.length_nil, List.reduceReplicate, List.nil_append, List.cons_append, List.getElem?_cons_zero, List.getElem?_cons_succ, List.getElem?_nil, List.set_cons_zero, List.set_cons_succ, List.all_cons, List.all_nil, Bool.and_true, Bool.true_and, Bool.and_false, Bool.false_and, Bool.or_true, Bool.true_or, Bool.or_false, Bool.false_or, Bool.not_true, Bool.not_false, Bool.false_eq_true, if_true, if_false, ↓reduceIte, Option.map_some, Option.map_none, chk_pos, decide_eq_true_eq, flat, flat.flats, okP, okP.okPs, kit_NoneType_int, kit_NoneType_bool, kit_NoneType_str, kit_NoneType_tuple, kit_NoneType_list, kit_NoneType_dict, kit_bool_int, kit_bool_bool, kit_bool_str, kit_bool_tuple, kit_bool_list, kit_bool_dict, kit_int_int, kit_int_bool, kit_int_str, kit_int_tuple, kit_int_list, kit_int_dict, kit_str_int, kit_str_bool, kit_str_str, kit_str_tuple, kit_str_list, kit_str_dict, kit_list_int, kit_list_bool, kit_list_str, kit_list_tuple, kit_list_list, kit_list_dict, kit_tuple_int, kit_tuple_bool, kit_tuple_str, kit_tuple_tuple, kit_tuple_list, kit_tuple_dict, kit_dict_int, kit_dict_bool, kit_dict_str, kit_dict_tuple, kit_dict_list, kit_dict_dict, Nat.zero_add, Nat.reduceAdd, Nat.reduceLeDiff, Nat.reduceLT, Nat.reduceEqDiff, Nat.reduceMul, Nat.reduceSub, Nat.reducePow, Int.reduceAdd, Int.reduceSub, Int.reduceMul, Int.reduceNeg, Int.reducePow, Int.reduceLT, Int.reduceLE, Int.reduceEq, Int.reduceNe, Int.reduceToNat, beq_self_eq_true, Option.some.injEq, intsD, Nat.reduceBEq, decide_true, decide_false, ite_true, ite_false, atI_nat, atI_lit, atI_last, ixN_nat, ixN_lit, cut_nn, eqD_nn, eqD_ii, eqD_bb, eqD_ss, eqD_tt, eqD_ll, eqs_nn, eqs_cc, eqs_nc, eqs_cn, beq_str, beq_int, wipeE, lcOne_ap, ↓sTryK_ap, setO, ↓gPart_ap, ePart, eFind, eJoin, eSplit, ↓eM1_ap, ↓eLc_ap, ↓eJoined_ap, ↓jStr_ap, ↓jFmt_ap, ↓jNil_ap, ↓eDnew_ap, ↓eDic1_ap, scl, sgn, ↓gFind_ap, ↓gJoin_ap, ↓gSplitS_ap, ↓gTupOf_ap, ↓pIx_ap, ↓pVar_ap, ↓sApp_ap, ↓sClr_ap, ↓sRev_ap, ↓sSet_ap, cast_lit, ↓bind_ap, ↓toF_ap, ixD_l, ixD_t, ixD_r, ↓in_sgn, blsD_map, intsD_map, gMulS0, k6, c3, c4, es, w5]) <;> rfl, by rw [str_cat, str_cat, slash_len]; omega⟩
  by_cases w6 : w.fmod 9 = 6
  · have f6 := fmod_pos c (b := 6) (by omega)
    have f62 := fmod_pos (c.fdiv 6) (b := 2) (by omega)
    have f126 := fmod_pos (c.fdiv 12) (b := 6) (by omega)
    have f72 := fmod_pos (c.fdiv 72) (b := 2) (by omega)
    obtain ⟨o1, r1⟩ := mul_str (s := "-") (by decide) (n := (c.fdiv 6).fmod 2) (by omega) (by omega)
    obtain ⟨o2, r2⟩ := mul_str (s := "7") (by decide) (n := 38 + c.fmod 6) (by omega) (by omega)
    obtain ⟨o3, r3⟩ := mul_str (s := "9") (by decide) (n := 38 + (c.fdiv 12).fmod 6) (by omega) (by omega)
    have z1 : (Txt.mul "-" ((c.fdiv 6).fmod 2)).length + (Txt.mul "7" (38 + c.fmod 6)).length ≤ sizeLine := by omega
    have z3 : ("/" : Str).length + (Txt.mul "9" (38 + (c.fdiv 12).fmod 6)).length ≤ sizeLine := by rw [slash_len]; omega
    have e0 : ("" : Str).length = 0 := by decide +kernel
    have z2 : ∀ t : Str, t.length ≤ 60 → (Txt.mul "-" ((c.fdiv 6).fmod 2) ++ Txt.mul "7" (38 + c.fmod 6)).length + t.length ≤ sizeLine := fun t ht => by rw [str_cat]; omega
    have z4 := z2 "" (by rw [e0]; omega)
    have z5 := z2 ("/" ++ Txt.mul "9" (38 + (c.fdiv 12).fmod 6)) (by rw [str_cat, slash_len]; omega)
    have two : (c.fdiv 72).fmod 2 = 0 ∨ (c.fdiv 72).fmod 2 = 1 := by omega
    rcases two with t | t
    · exact ⟨_, by (simp (disch := walk_at "sz") only [↓run_0, ↓run_1, ↓run_2, ↓run_3, ↓run_4, ↓run_5, ↓run_6, eq_self, entryE, endR, ↓sSeq_ap, ↓sIf_ap, ↓sRet_ap, ↓sRetN_ap, ↓sDrop_ap, ↓sAsg_ap, ↓sNext_ap, ↓sBrk_ap, ↓sCnt_ap, ↓sNever_ap, ↓sRaise_ap, ↓sPar_ap, ↓sAug_ap, ↓sFor_ap, loop_nil, loop_cons, ↓bOf_ap, ↓bAnd_ap, ↓bOr_ap, ↓bNot_ap, ↓bYes_ap, ↓eVar_ap, ↓eFz_ap, ↓eMv_ap, look, ↓eC_ap, ↓eOp_ap, ↓eAnd_ap, ↓eOr_ap, ↓eNot_ap, ↓eNeg_ap, ↓eIf_ap, ↓eTup_ap, ↓eLst_ap, ↓eCall_ap, ↓eCB_ap, ↓eSl_ap, ↓oNo_ap, ↓oSome_ap, ↓eRevL_ap, ↓eChain_ap, ↓aNil_ap, ↓aCons_ap, ↓g2_ap, ↓gOr_ap, gAdd, gMul, gAdd0, gAddS0, gSub0, gDiv0, gMod0, gMul0, gPow0, gLt0, gLe0, gGt0, gGe0, gEq0, gNe0, gIs0, gNot0, gIn0, ↓gC_ap, gLen, lenD, gAbs, gInt, gStr, gSum, gAny, gAll, gMax, gMin, ↓gDivmod_ap, ↓gList_ap, ↓gTupL_ap, ↓gSorted_ap, gSl, gRevL, gIsi, ↓gIx_ap, kPart, ↓gCat_ap, ↓gRep_ap, ↓gN_ap, ↓gF_ap, ↓gT_ap, ↓gsNil_ap, ↓gsCons_ap, withK, stb', okItem, hasK, itemsOk, isNon, listOf, lstOf, intsOf, blsOf, tyD, lstD, seqOf, ↓iLst_ap, ↓iR1_ap, ↓iR2_ap, ↓iSeq_ap, ↓iZ_ap, List.map_cons, List.map_nil, List.length_cons, List.length_nil, List.reduceReplicate, List.nil_append, List.cons_append, List.getElem?_cons_zero, List.getElem?_cons_succ, List.getElem?_nil, List.set_cons_zero, List.set_cons_succ, List.all_cons, List.all_nil, Bool.and_true, Bool.true_and, Bool.and_false, Bool.false_and, Bool.or_true, Bool.true_or, Bool.or_false, Bool.false_or, Bool.not_true, Bool.not_false, Bool.false_eq_true, if_true, if_false, ↓reduceIte, Option.map_some, Option.map_none, chk_pos, decide_eq_true_eq, flat, flat.flats, okP, okP.okPs, kit_NoneType_int, kit_NoneType_bool, kit_NoneType_str, kit_NoneType_tuple, kit_NoneType_list, kit_NoneType_dict, kit_bool_int, kit_bool_bool, kit_bool_str, kit_bool_tuple, kit_bool_list, kit_bool_dict, kit_int_int, kit_int_bool, kit_int_str, kit_int_tuple, kit_int_list, kit_int_dict, kit_str_int, kit_str_bool, kit_str_str, kit_str_tuple, kit_str_list, kit_str_dict, kit_list_int, kit_list_bool, kit_list_str, kit_list_tuple, kit_list_list, kit_list_dict, kit_tuple_int, kit_tuple_bool, kit_tuple_str, kit_tuple_tuple, kit_tuple_list, kit_tuple_dict, kit_dict_int, kit_dict_bool, kit_dict_str, kit_dict_tuple, kit_dict_list, kit_dict_dict, Nat.zero_add, Nat.reduceAdd, Nat.reduceLeDiff, Nat.reduceLT, Nat.reduceEqDiff, Nat.reduceMul, Nat.reduceSub, Nat.reducePow, Int.reduceAdd, Int.reduceSub, Int.reduceMul, Int.reduceNeg, Int.reducePow, Int.reduceLT, Int.reduceLE, Int.reduceEq, Int.reduceNe, Int.reduceToNat, beq_self_eq_true, Option.some.injEq, intsD, Nat.reduceBEq, decide_true, decide_false, ite_true, ite_false, atI_nat, atI_lit, atI_last, ixN_nat, ixN_lit, cut_nn, eqD_nn, eqD_ii, eqD_bb, eqD_ss, eqD_tt, eqD_ll, eqs_nn, eqs_cc, eqs_nc, eqs_cn, beq_str, beq_int, wipeE, lcOne_ap, ↓sTryK_ap, setO, ↓gPart_ap, ePart, eFind, eJoin, eSplit, ↓eM1_ap, ↓eLc_ap, ↓eJoined_ap, ↓jStr_ap, ↓jFmt_ap, ↓jNil_ap, ↓eDnew_ap, ↓eDic1_ap, scl, sgn, ↓gFind_ap, ↓gJoin_ap, ↓gSplitS_ap, ↓gTupOf_ap, ↓pIx_ap, ↓pVar_ap, ↓sApp_ap, ↓sClr_ap, ↓sRev_ap, ↓sSet_ap, cast_lit, ↓bind_ap, ↓toF_ap, ixD_l, ixD_t, ixD_r, ↓in_sgn, blsD_map, intsD_map, gMulS0, k6, c3, c4, es, w6, t]) <;> rfl, by rw [str_cat, str_cat, e0]; omega⟩
    · exact ⟨_, by (simp (disch := walk_at "sz") only [↓run_0, ↓run_1, ↓run_2, ↓run_3, ↓run_4, ↓run_5, ↓run_6, eq_self, entryE, endR, ↓sSeq_ap, ↓sIf_ap, ↓sRet_ap, ↓sRetN_ap, ↓sDrop_ap, ↓sAsg_ap, ↓sNext_ap, ↓sBrk_ap, ↓sCnt_ap, ↓sNever_ap, ↓sRaise_ap, ↓sPar_ap, ↓sAug_ap, ↓sFor_ap, loop_nil, loop_cons, ↓bOf_ap, ↓bAnd_ap, ↓bOr_ap, ↓bNot_ap, ↓bYes_ap, ↓eVar_ap, ↓eFz_ap, ↓eMv_ap, look, ↓eC_ap, ↓eOp_ap, ↓eAnd_ap, ↓eOr_ap, ↓eNot_ap, ↓eNeg_ap, ↓eIf_ap, ↓eTup_ap, ↓eLst_ap, ↓eCall_ap, ↓eCB_ap, ↓eSl_ap, ↓oNo_ap, ↓oSome_ap, ↓eRevL_ap, ↓eChain_ap, ↓aNil_ap, ↓aCons_ap, ↓g2_ap, ↓gOr_ap, gAdd, gMul, gAdd0, gAddS0, gSub0, gDiv0, gMod0, gMul0, gPow0, gLt0, gLe0, gGt0, gGe0, gEq0, gNe0, gIs0, gNot0, gIn0, ↓gC_ap, gLen, lenD, gAbs, gInt, gStr, gSum, gAny, gAll, gMax, gMin, ↓gDivmod_ap, ↓gList_ap, ↓gTupL_ap, ↓gSorted_ap, gSl, gRevL, gIsi, ↓gIx_ap, kPart, ↓gCat_ap, ↓gRep_ap, ↓gN_ap, ↓gF_ap, ↓gT_ap, ↓gsNil_ap, ↓gsCons_ap, withK, stb', okItem, hasK, itemsOk, isNon, listOf, lstOf, intsOf, blsOf, tyD, lstD, seqOf, ↓iLst_ap, ↓iR1_ap, ↓iR2_ap, ↓iSeq_ap, ↓iZ_ap, List.map_cons, List.map_nil, List.length_cons, List.length_nil, List.reduceReplicate, List.nil_append, List.cons_append, List.getElem?_cons_zero, List.getElem?_cons_succ, List.getElem?_nil, List.set_cons_zero, List.set_cons_succ, List.all_cons, List.all_nil, Bool.and_true, Bool.true_and, Bool.and_false, Bool.false_and, Bool.or_true, Bool.true_or, Bool.or_false, Bool.false_or, Bool.not_true, Bool.not_false, Bool.false_eq_true, if_true, if_false, ↓reduceIte, Option.map_some, Option.map_none, chk_pos, decide_eq_true_eq, flat, flat.flats, okP, okP.okPs, kit_NoneType_int, kit_NoneType_bool, kit_NoneType_str, kit_NoneType_tuple, kit_NoneType_list, kit_NoneType_dict, kit_bool_int, kit_bool_bool, kit_bool_str, kit_bool_tuple, kit_bool_list, kit_bool_dict, kit_int_int, kit_int_bool, kit_int_str, kit_int_tuple, kit_int_list, kit_int_dict, kit_str_int, kit_str_bool, kit_str_str, kit_str_tuple, kit_str_list, kit_str_dict, kit_list_int, kit_list_bool, kit_list_str, kit_list_tuple, kit_list_list, kit_list_dict, kit_tuple_int, kit_tuple_bool, kit_tuple_str, kit_tuple_tuple, kit_tuple_list, kit_tuple_dict, kit_dict_int, kit_dict_bool, kit_dict_str, kit_dict_tuple, kit_dict_list, kit_dict_dict, Nat.zero_add, Nat.reduceAdd, Nat.reduceLeDiff, Nat.reduceLT, Nat.reduceEqDiff, Nat.reduceMul, Nat.reduceSub, Nat.reducePow, Int.reduceAdd, Int.reduceSub, Int.reduceMul, Int.reduceNeg, Int.reducePow, Int.reduceLT, Int.reduceLE, Int.reduceEq, Int.reduceNe, Int.reduceToNat, beq_self_eq_true, Option.some.injEq, intsD, Nat.reduceBEq, decide_true, decide_false, ite_true, ite_false, atI_nat, atI_lit, atI_last, ixN_nat, ixN_lit, cut_nn, eqD_nn, eqD_ii, eqD_bb, eqD_ss, eqD_tt, eqD_ll, eqs_nn, eqs_cc, eqs_nc, eqs_cn, beq_str, beq_int, wipeE, lcOne_ap, ↓sTryK_ap, setO, ↓gPart_ap, ePart, eFind, eJoin, eSplit, ↓eM1_ap, ↓eLc_ap, ↓eJoined_ap, ↓jStr_ap, ↓jFmt_ap, ↓jNil_ap, ↓eDnew_ap, ↓eDic1_ap, scl, sgn, ↓gFind_ap, ↓gJoin_ap, ↓gSplitS_ap, ↓gTupOf_ap, ↓pIx_ap, ↓pVar_ap, ↓sApp_ap, ↓sClr_ap, ↓sRev_ap, ↓sSet_ap, cast_lit, ↓bind_ap, ↓toF_ap, ixD_l, ixD_t, ixD_r, ↓in_sgn, blsD_map, intsD_map, gMulS0, k6, c3, c4, es, w6, t]) <;> rfl, by rw [str_cat, str_cat, str_cat, slash_len]; omega⟩
  by_cases w7 : w.fmod 9 = 7
  · obtain ⟨s, e, ls⟩ := q_odd7 c
    exact ⟨s, by (simp (disch := walk_at "sz") only [↓run_0, ↓run_1, ↓run_2, ↓run_3, ↓run_4, ↓run_5, ↓run_6, eq_self, entryE, endR, ↓sSeq_ap, ↓sIf_ap, ↓sRet_ap, ↓sRetN_ap, ↓sDrop_ap, ↓sAsg_ap, ↓sNext_ap, ↓sBrk_ap, ↓sCnt_ap, ↓sNever_ap, ↓sRaise_ap, ↓sPar_ap, ↓sAug_ap, ↓sFor_ap, loop_nil, loop_cons, ↓bOf_ap, ↓bAnd_ap, ↓bOr_ap, ↓bNot_ap, ↓bYes_ap, ↓eVar_ap, ↓eFz_ap, ↓eMv_ap, look, ↓eC_ap, ↓eOp_ap, ↓eAnd_ap, ↓eOr_ap, ↓eNot_ap, ↓eNeg_ap, ↓eIf_ap, ↓eTup_ap, ↓eLst_ap, ↓eCall_ap, ↓eCB_ap, ↓eSl_ap, ↓oNo_ap, ↓oSome_ap, ↓eRevL_ap, ↓eChain_ap, ↓aNil_ap, ↓aCons_ap, ↓g2_ap, ↓gOr_ap, gAdd, gMul, gAdd0, gAddS0, gSub0, gDiv0, gMod0, gMul0, gPow0, gLt0, gLe0, gGt0, gGe0, gEq0, gNe0, gIs0, gNot0, gIn0, ↓gC_ap, gLen, lenD, gAbs, gInt, gStr, gSum, gAny, gAll, gMax, gMin, ↓gDivmod_ap, ↓gList_ap, ↓gTupL_ap, ↓gSorted_ap, gSl, gRevL, gIsi, ↓gIx_ap, kPart, ↓gCat_ap, ↓gRep_ap, ↓gN_ap, ↓gF_ap, ↓gT_ap, ↓gsNil_ap, ↓gsCons_ap, withK, stb', okItem, hasK, itemsOk, isNon, listOf, lstOf, intsOf, blsOf, tyD, lstD, seqOf, ↓iLst_ap, ↓iR1_ap, ↓iR2_ap, ↓iSeq_ap, ↓iZ_ap, List.map_cons, List.map_nil, List.length_cons, List.length_nil, List.reduceReplicate, List.nil_append, List.cons_append, List.getElem?_cons_zero, List.getElem?_cons_succ, List.getElem?_nil, List.set_cons_zero, List.set_cons_succ, List.all_cons, List.all_nil, Bool.and_true, Bool.true_and, Bool.and_false, Bool.false_and, Bool.or_true, Bool.true_or, Bool.or_false, Bool.false_or, Bool.not_true, Bool.not_false, Bool.false_eq_true, if_true, if_false, ↓reduceIte, Option.map_some, Option.map_none, chk_pos, decide_eq_true_eq, flat, flat.flats, okP, okP.okPs, kit_NoneType_int, kit_NoneType_bool, kit_NoneType_str, kit_NoneType_tuple, kit_NoneType_list, kit_NoneType_dict, kit_bool_int, kit_bool_bool, kit_bool_str, kit_bool_tuple, kit_bool_list, kit_bool_dict, kit_int_int, kit_int_bool, kit_int_str, kit_int_tuple, kit_int_list, kit_int_dict, kit_str_int, kit_str_bool, kit_str_str, kit_str_tuple, kit_str_list, kit_str_dict, kit_list_int, kit_list_bool, kit_list_str, kit_list_tuple, kit_list_list, kit_list_dict, kit_tuple_int, kit_tuple_bool, kit_tuple_str, kit_tuple_tuple, kit_tuple_list, kit_tuple_dict, kit_dict_int, kit_dict_bool, kit_dict_str, kit_dict_tuple, kit_dict_list, kit_dict_dict, Nat.zero_add, Nat.reduceAdd, Nat.reduceLeDiff, Nat.reduceLT, Nat.reduceEqDiff, Nat.reduceMul, Nat.reduceSub, Nat.reducePow, Int.reduceAdd, Int.reduceSub, Int.reduceMul, Int.reduceNeg, Int.reducePow, Int.reduceLT, Int.reduceLE, Int.reduceEq, Int.reduceNe, Int.reduceToNat, beq_self_eq_true, Option.some.injEq, intsD, Nat.reduceBEq, decide_true, decide_false, ite_true, ite_false, atI_nat, atI_lit, atI_last, ixN_nat, ixN_lit, cut_nn, eqD_nn, eqD_ii, eqD_bb, eqD_ss, eqD_tt, eqD_ll, eqs_nn, eqs_cc, eqs_nc, eqs_cn, beq_str, beq_int, wipeE, lcOne_ap, ↓sTryK_ap, setO, ↓gPart_ap, ePart, eFind, eJoin, eSplit, ↓eM1_ap, ↓eLc_ap, ↓eJoined_ap, ↓jStr_ap, ↓jFmt_ap, ↓jNil_ap, ↓eDnew_ap, ↓eDic1_ap, scl, sgn, ↓gFind_ap, ↓gJoin_ap, ↓gSplitS_ap, ↓gTupOf_ap, ↓pIx_ap, ↓pVar_ap, ↓sApp_ap, ↓sClr_ap, ↓sRev_ap, ↓sSet_ap, cast_lit, ↓bind_ap, ↓toF_ap, ixD_l, ixD_t, ixD_r, ↓in_sgn, blsD_map, intsD_map, gMulS0, k6, c3, c4, es, w7, e]), by omega⟩
  · exact ⟨x, by (simp (disch := walk_at "sz") only [↓run_0, ↓run_1, ↓run_2, ↓run_3, ↓run_4, ↓run_5, ↓run_6, eq_self, entryE, endR, ↓sSeq_ap, ↓sIf_ap, ↓sRet_ap, ↓sRetN_ap, ↓sDrop_ap, ↓sAsg_ap, ↓sNext_ap, ↓sBrk_ap, ↓sCnt_ap, ↓sNever_ap, ↓sRaise_ap, ↓sPar_ap, ↓sAug_ap, ↓sFor_ap, loop_nil, loop_cons, ↓bOf_ap, ↓bAnd_ap, ↓bOr_ap, ↓bNot_ap, ↓bYes_ap, ↓eVar_ap, ↓eFz_ap, ↓eMv_ap, look, ↓eC_ap, ↓eOp_ap, ↓eAnd_ap, ↓eOr_ap, ↓eNot_ap, ↓eNeg_ap, ↓eIf_ap, ↓eTup_ap, ↓eLst_ap, ↓eCall_ap, ↓eCB_ap, ↓eSl_ap, ↓oNo_ap, ↓oSome_ap, ↓eRevL_ap, ↓eChain_ap, ↓aNil_ap, ↓aCons_ap, ↓g2_ap, ↓gOr_ap, gAdd, gMul, gAdd0, gAddS0, gSub0, gDiv0, gMod0, gMul0, gPow0, gLt0, gLe0, gGt0, gGe0, gEq0, gNe0, gIs0, gNot0, gIn0, ↓gC_ap, gLen, lenD, gAbs, gInt, gStr, gSum, gAny, gAll, gMax, gMin, ↓gDivmod_ap, ↓gList_ap, ↓gTupL_ap, ↓gSorted_ap, gSl, gRevL, gIsi, ↓gIx_ap, kPart, ↓gCat_ap, ↓gRep_ap, ↓gN_ap, ↓gF_ap, ↓gT_ap, ↓gsNil_ap, ↓gsCons_ap, withK, stb', okItem, hasK, itemsOk, isNon, listOf, lstOf, intsOf, blsOf, tyD, lstD, seqOf, ↓iLst_ap, ↓iR1_ap, ↓iR2_ap, ↓iSeq_ap, ↓iZ_ap, List.map_cons, List.map_nil, List.length_cons, List.length_nil, List.reduceReplicate, List.nil_append, List.cons_append, List.getElem?_cons_zero, List.getElem?_cons_succ, List.getElem?_nil, List.set_cons_zero, List.set_cons_succ, List.all_cons, List.all_nil, Bool.and_true, Bool.true_and, Bool.and_false, Bool.false_and, Bool.or_true, Bool.true_or, Bool.or_false, Bool.false_or, Bool.not_true, Bool.not_false, Bool.false_eq_true, if_true, if_false, ↓reduceIte, Option.map_some, Option.map_none, chk_pos, decide_eq_true_eq, flat, flat.flats, okP, okP.okPs, kit_NoneType_int, kit_NoneType_bool, kit_NoneType_str, kit_NoneType_tuple, kit_NoneType_list, kit_NoneType_dict, kit_bool_int, kit_bool_bool, kit_bool_str, kit_bool_tuple, kit_bool_list, kit_bool_dict, kit_int_int, kit_int_bool, kit_int_str, kit_int_tuple, kit_int_list, kit_int_dict, kit_str_int, kit_str_bool, kit_str_str, kit_str_tuple, kit_str_list, kit_str_dict, kit_list_int, kit_list_bool, kit_list_str, kit_list_tuple, kit_list_list, kit_list_dict, kit_tuple_int, kit_tuple_bool, kit_tuple_str, kit_tuple_tuple, kit_tuple_list, kit_tuple_dict, kit_dict_int, kit_dict_bool, kit_dict_str, kit_dict_tuple, kit_dict_list, kit_dict_dict, Nat.zero_add, Nat.reduceAdd, Nat.reduceLeDiff, Nat.reduceLT, Nat.reduceEqDiff, Nat.reduceMul, Nat.reduceSub, Nat.reducePow, Int.reduceAdd, Int.reduceSub, Int.reduceMul, Int.reduceNeg, Int.reducePow, Int.reduceLT, Int.reduceLE, Int.reduceEq, Int.reduceNe, Int.reduceToNat, beq_self_eq_true, Option.some.injEq, intsD, Nat.reduceBEq, decide_true, decide_false, ite_true, ite_false, atI_nat, atI_lit, atI_last, ixN_nat, ixN_lit, cut_nn, eqD_nn, eqD_ii, eqD_bb, eqD_ss, eqD_tt, eqD_ll, eqs_nn, eqs_cc, eqs_nc, eqs_cn, beq_str, beq_int, wipeE, lcOne_ap, ↓sTryK_ap, setO, ↓gPart_ap, ePart, eFind, eJoin, eSplit, ↓eM1_ap, ↓eLc_ap, ↓eJoined_ap, ↓jStr_ap, ↓jFmt_ap, ↓jNil_ap, ↓eDnew_ap, ↓eDic1_ap, scl, sgn, ↓gFind_ap, ↓gJoin_ap, ↓gSplitS_ap, ↓gTupOf_ap, ↓pIx_ap, ↓pVar_ap, ↓sApp_ap, ↓sClr_ap, ↓sRev_ap, ↓sSet_ap, cast_lit, ↓bind_ap, ↓toF_ap, ixD_l, ixD_t, ixD_r, ↓in_sgn, blsD_map, intsD_map, gMulS0, k6, c3, c4, es, w1, w2, w3, w4, w5, w6, w7]), by omega⟩

theorem law_true (ns : List Int) (hl : ns.length ≤ 63) : m_law [.rd ns] = some (.ret 0 (.bl true)) := by
  obtain ⟨p, e1, h1, h2⟩ := q_one7 ns hl
  obtain ⟨s, e2, hs⟩ := q_spoiled ns hl p h1 h2
  have e3 := q_due s (by omega)
  have e4 := q_number_of s (by omega)
  unfold m_law b_law
  cases hn : numOf s with
  | none =>
    rw [hn] at e3 e4
    have e5 : RS.contains "NoNumber" = true := by decide +kernel
    have e6 : CATCH "HallError" "NoNumber" = some true := by decide +kernel
    have e7 := q_only (x := "NoNumber") 0 (List.contains_iff_mem.mp e5) (by omega)
    have e8 : decide (NINE[0]? = some ("NoNumber" : Str)) = true := by decide +kernel
    rw [e8] at e7
    have e7 : m__law_only [.xo "NoNumber" none, .int 0] = _ := e7
    dsimp only [dueD] at e3
    dsimp only [outN] at e4
    simp (disch := walk_at "sz") only [↓run_0, ↓run_1, ↓run_2, ↓run_3, ↓run_4, ↓run_5, ↓run_6, eq_self, entryE, endR, ↓sSeq_ap, ↓sIf_ap, ↓sRet_ap, ↓sRetN_ap, ↓sDrop_ap, ↓sAsg_ap, ↓sNext_ap, ↓sBrk_ap, ↓sCnt_ap, ↓sNever_ap, ↓sRaise_ap, ↓sPar_ap, ↓sAug_ap, ↓sFor_ap, loop_nil, loop_cons, ↓bOf_ap, ↓bAnd_ap, ↓bOr_ap, ↓bNot_ap, ↓bYes_ap, ↓eVar_ap, ↓eFz_ap, ↓eMv_ap, look, ↓eC_ap, ↓eOp_ap, ↓eAnd_ap, ↓eOr_ap, ↓eNot_ap, ↓eNeg_ap, ↓eIf_ap, ↓eTup_ap, ↓eLst_ap, ↓eCall_ap, ↓eCB_ap, ↓eSl_ap, ↓oNo_ap, ↓oSome_ap, ↓eRevL_ap, ↓eChain_ap, ↓aNil_ap, ↓aCons_ap, ↓g2_ap, ↓gOr_ap, gAdd, gMul, gAdd0, gAddS0, gSub0, gDiv0, gMod0, gMul0, gPow0, gLt0, gLe0, gGt0, gGe0, gEq0, gNe0, gIs0, gNot0, gIn0, ↓gC_ap, gLen, lenD, gAbs, gInt, gStr, gSum, gAny, gAll, gMax, gMin, ↓gDivmod_ap, ↓gList_ap, ↓gTupL_ap, ↓gSorted_ap, gSl, gRevL, gIsi, ↓gIx_ap, kPart, ↓gCat_ap, ↓gRep_ap, ↓gN_ap, ↓gF_ap, ↓gT_ap, ↓gsNil_ap, ↓gsCons_ap, withK, stb', okItem, hasK, itemsOk, isNon, listOf, lstOf, intsOf, blsOf, tyD, lstD, seqOf, ↓iLst_ap, ↓iR1_ap, ↓iR2_ap, ↓iSeq_ap, ↓iZ_ap, List.map_cons, List.map_nil, List.length_cons, List.length_nil, List.reduceReplicate, List.nil_append, List.cons_append, List.getElem?_cons_zero, List.getElem?_cons_succ, List.getElem?_nil, List.set_cons_zero, List.set_cons_succ, List.all_cons, List.all_nil, Bool.and_true, Bool.true_and, Bool.and_false, Bool.false_and, Bool.or_true, Bool.true_or, Bool.or_false, Bool.false_or, Bool.not_true, Bool.not_false, Bool.false_eq_true, if_true, if_false, ↓reduceIte, Option.map_some, Option.map_none, chk_pos, decide_eq_true_eq, flat, flat.flats, okP, okP.okPs, kit_NoneType_int, kit_NoneType_bool, kit_NoneType_str, kit_NoneType_tuple, kit_NoneType_list, kit_NoneType_dict, kit_bool_int, kit_bool_bool, kit_bool_str, kit_bool_tuple, kit_bool_list, kit_bool_dict, kit_int_int, kit_int_bool, kit_int_str, kit_int_tuple, kit_int_list, kit_int_dict, kit_str_int, kit_str_bool, kit_str_str, kit_str_tuple, kit_str_list, kit_str_dict, kit_list_int, kit_list_bool, kit_list_str, kit_list_tuple, kit_list_list, kit_list_dict, kit_tuple_int, kit_tuple_bool, kit_tuple_str, kit_tuple_tuple, kit_tuple_list, kit_tuple_dict, kit_dict_int, kit_dict_bool, kit_dict_str, kit_dict_tuple, kit_dict_list, kit_dict_dict, Nat.zero_add, Nat.reduceAdd, Nat.reduceLeDiff, Nat.reduceLT, Nat.reduceEqDiff, Nat.reduceMul, Nat.reduceSub, Nat.reducePow, Int.reduceAdd, Int.reduceSub, Int.reduceMul, Int.reduceNeg, Int.reducePow, Int.reduceLT, Int.reduceLE, Int.reduceEq, Int.reduceNe, Int.reduceToNat, beq_self_eq_true, Option.some.injEq, intsD, Nat.reduceBEq, decide_true, decide_false, ite_true, ite_false, atI_nat, atI_lit, atI_last, ixN_nat, ixN_lit, cut_nn, eqD_nn, eqD_ii, eqD_bb, eqD_ss, eqD_tt, eqD_ll, eqs_nn, eqs_cc, eqs_nc, eqs_cn, beq_str, beq_int, wipeE, lcOne_ap, ↓sTryK_ap, setO, ↓gPart_ap, ePart, eFind, eJoin, eSplit, ↓eM1_ap, ↓eLc_ap, ↓eJoined_ap, ↓jStr_ap, ↓jFmt_ap, ↓jNil_ap, ↓eDnew_ap, ↓eDic1_ap, scl, sgn, ↓gFind_ap, ↓gJoin_ap, ↓gSplitS_ap, ↓gTupOf_ap, ↓pIx_ap, ↓pVar_ap, ↓sApp_ap, ↓sClr_ap, ↓sRev_ap, ↓sSet_ap, cast_lit, ↓bind_ap, ↓toF_ap, ixD_l, ixD_t, ixD_r, ↓in_sgn, blsD_map, intsD_map, gMulS0, e1, e2, e3, e4, e6, e7, flatX]
  | some q =>
    rw [hn] at e3 e4
    have fq := q_fractionF (numOf_fr hn)
    dsimp only [dueD] at e3
    dsimp only [outN] at e4
    simp (disch := walk_at "sz") only [↓run_0, ↓run_1, ↓run_2, ↓run_3, ↓run_4, ↓run_5, ↓run_6, eq_self, entryE, endR, ↓sSeq_ap, ↓sIf_ap, ↓sRet_ap, ↓sRetN_ap, ↓sDrop_ap, ↓sAsg_ap, ↓sNext_ap, ↓sBrk_ap, ↓sCnt_ap, ↓sNever_ap, ↓sRaise_ap, ↓sPar_ap, ↓sAug_ap, ↓sFor_ap, loop_nil, loop_cons, ↓bOf_ap, ↓bAnd_ap, ↓bOr_ap, ↓bNot_ap, ↓bYes_ap, ↓eVar_ap, ↓eFz_ap, ↓eMv_ap, look, ↓eC_ap, ↓eOp_ap, ↓eAnd_ap, ↓eOr_ap, ↓eNot_ap, ↓eNeg_ap, ↓eIf_ap, ↓eTup_ap, ↓eLst_ap, ↓eCall_ap, ↓eCB_ap, ↓eSl_ap, ↓oNo_ap, ↓oSome_ap, ↓eRevL_ap, ↓eChain_ap, ↓aNil_ap, ↓aCons_ap, ↓g2_ap, ↓gOr_ap, gAdd, gMul, gAdd0, gAddS0, gSub0, gDiv0, gMod0, gMul0, gPow0, gLt0, gLe0, gGt0, gGe0, gEq0, gNe0, gIs0, gNot0, gIn0, ↓gC_ap, gLen, lenD, gAbs, gInt, gStr, gSum, gAny, gAll, gMax, gMin, ↓gDivmod_ap, ↓gList_ap, ↓gTupL_ap, ↓gSorted_ap, gSl, gRevL, gIsi, ↓gIx_ap, kPart, ↓gCat_ap, ↓gRep_ap, ↓gN_ap, ↓gF_ap, ↓gT_ap, ↓gsNil_ap, ↓gsCons_ap, withK, stb', okItem, hasK, itemsOk, isNon, listOf, lstOf, intsOf, blsOf, tyD, lstD, seqOf, ↓iLst_ap, ↓iR1_ap, ↓iR2_ap, ↓iSeq_ap, ↓iZ_ap, List.map_cons, List.map_nil, List.length_cons, List.length_nil, List.reduceReplicate, List.nil_append, List.cons_append, List.getElem?_cons_zero, List.getElem?_cons_succ, List.getElem?_nil, List.set_cons_zero, List.set_cons_succ, List.all_cons, List.all_nil, Bool.and_true, Bool.true_and, Bool.and_false, Bool.false_and, Bool.or_true, Bool.true_or, Bool.or_false, Bool.false_or, Bool.not_true, Bool.not_false, Bool.false_eq_true, if_true, if_false, ↓reduceIte, Option.map_some, Option.map_none, chk_pos, decide_eq_true_eq, flat, flat.flats, okP, okP.okPs, kit_NoneType_int, kit_NoneType_bool, kit_NoneType_str, kit_NoneType_tuple, kit_NoneType_list, kit_NoneType_dict, kit_bool_int, kit_bool_bool, kit_bool_str, kit_bool_tuple, kit_bool_list, kit_bool_dict, kit_int_int, kit_int_bool, kit_int_str, kit_int_tuple, kit_int_list, kit_int_dict, kit_str_int, kit_str_bool, kit_str_str, kit_str_tuple, kit_str_list, kit_str_dict, kit_list_int, kit_list_bool, kit_list_str, kit_list_tuple, kit_list_list, kit_list_dict, kit_tuple_int, kit_tuple_bool, kit_tuple_str, kit_tuple_tuple, kit_tuple_list, kit_tuple_dict, kit_dict_int, kit_dict_bool, kit_dict_str, kit_dict_tuple, kit_dict_list, kit_dict_dict, Nat.zero_add, Nat.reduceAdd, Nat.reduceLeDiff, Nat.reduceLT, Nat.reduceEqDiff, Nat.reduceMul, Nat.reduceSub, Nat.reducePow, Int.reduceAdd, Int.reduceSub, Int.reduceMul, Int.reduceNeg, Int.reducePow, Int.reduceLT, Int.reduceLE, Int.reduceEq, Int.reduceNe, Int.reduceToNat, beq_self_eq_true, Option.some.injEq, intsD, Nat.reduceBEq, decide_true, decide_false, ite_true, ite_false, atI_nat, atI_lit, atI_last, ixN_nat, ixN_lit, cut_nn, eqD_nn, eqD_ii, eqD_bb, eqD_ss, eqD_tt, eqD_ll, eqs_nn, eqs_cc, eqs_nc, eqs_cn, beq_str, beq_int, wipeE, lcOne_ap, ↓sTryK_ap, setO, ↓gPart_ap, ePart, eFind, eJoin, eSplit, ↓eM1_ap, ↓eLc_ap, ↓eJoined_ap, ↓jStr_ap, ↓jFmt_ap, ↓jNil_ap, ↓eDnew_ap, ↓eDic1_ap, scl, sgn, ↓gFind_ap, ↓gJoin_ap, ↓gSplitS_ap, ↓gTupOf_ap, ↓pIx_ap, ↓pVar_ap, ↓sApp_ap, ↓sClr_ap, ↓sRev_ap, ↓sSet_ap, cast_lit, ↓bind_ap, ↓toF_ap, ixD_l, ixD_t, ixD_r, ↓in_sgn, blsD_map, intsD_map, gMulS0, e1, e2, e3, e4, fq]

theorem all_mk {l : PySem.W.OpenLaw} {w : World} {K : PySem.W.Frag} {h : Heap} {mg : Str → Option Value} {fa : Addr} (X : K.In h) (G : h.Ns mainGlobals mg) (hfa : mg "law" = some (.ref fa))
    {f1 : Addr} {od1 an1 : Option Addr} {sl1 : Array (Option Value)} {oc1 kV1 dc1 pm1 cd1 ct1 : Value} (a1 : PySem.W.nsIn K mainGlobals "divisor" = some (some (.ref f1))) (l1 : K.lookup f1 = some ⟨oc1, od1, .func (PySem.W.fnOf "divisor" "divisor" (defArgs s_divisor) (defBody s_divisor) (defScope s_divisor) .none kV1 dc1 pm1 an1 cd1 ct1), sl1⟩) (c1 : PySem.W.codeIn K cd1 "divisor" = true) (k1 : PySem.W.keepIn K (.ref f1) = true)
    {f2 : Addr} {od2 an2 : Option Addr} {sl2 : Array (Option Value)} {oc2 kV2 dc2 pm2 cd2 ct2 : Value} (a2 : PySem.W.nsIn K mainGlobals "whole_of" = some (some (.ref f2))) (l2 : K.lookup f2 = some ⟨oc2, od2, .func (PySem.W.fnOf "whole_of" "whole_of" (defArgs s_whole_of) (defBody s_whole_of) (defScope s_whole_of) .none kV2 dc2 pm2 an2 cd2 ct2), sl2⟩) (c2 : PySem.W.codeIn K cd2 "whole_of" = true) (k2 : PySem.W.keepIn K (.ref f2) = true)
    {f3 : Addr} {od3 an3 : Option Addr} {sl3 : Array (Option Value)} {oc3 kV3 dc3 pm3 cd3 ct3 : Value} (a3 : PySem.W.nsIn K mainGlobals "number_of" = some (some (.ref f3))) (l3 : K.lookup f3 = some ⟨oc3, od3, .func (PySem.W.fnOf "number_of" "number_of" (defArgs s_number_of) (defBody s_number_of) (defScope s_number_of) .none kV3 dc3 pm3 an3 cd3 ct3), sl3⟩) (c3 : PySem.W.codeIn K cd3 "number_of" = true) (k3 : PySem.W.keepIn K (.ref f3) = true)
    {f4 : Addr} {od4 an4 : Option Addr} {sl4 : Array (Option Value)} {oc4 kV4 dc4 pm4 cd4 ct4 : Value} (a4 : PySem.W.nsIn K mainGlobals "_law_cell" = some (some (.ref f4))) (l4 : K.lookup f4 = some ⟨oc4, od4, .func (PySem.W.fnOf "_law_cell" "_law_cell" (defArgs s__law_cell) (defBody s__law_cell) (defScope s__law_cell) .none kV4 dc4 pm4 an4 cd4 ct4), sl4⟩) (c4 : PySem.W.codeIn K cd4 "_law_cell" = true) (k4 : PySem.W.keepIn K (.ref f4) = true)
    {f5 : Addr} {od5 an5 : Option Addr} {sl5 : Array (Option Value)} {oc5 kV5 dc5 pm5 cd5 ct5 : Value} (a5 : PySem.W.nsIn K mainGlobals "_law_gcd" = some (some (.ref f5))) (l5 : K.lookup f5 = some ⟨oc5, od5, .func (PySem.W.fnOf "_law_gcd" "_law_gcd" (defArgs s__law_gcd) (defBody s__law_gcd) (defScope s__law_gcd) .none kV5 dc5 pm5 an5 cd5 ct5), sl5⟩) (c5 : PySem.W.codeIn K cd5 "_law_gcd" = true) (k5 : PySem.W.keepIn K (.ref f5) = true)
    {f6 : Addr} {od6 an6 : Option Addr} {sl6 : Array (Option Value)} {oc6 kV6 dc6 pm6 cd6 ct6 : Value} (a6 : PySem.W.nsIn K mainGlobals "_law_lowest" = some (some (.ref f6))) (l6 : K.lookup f6 = some ⟨oc6, od6, .func (PySem.W.fnOf "_law_lowest" "_law_lowest" (defArgs s__law_lowest) (defBody s__law_lowest) (defScope s__law_lowest) .none kV6 dc6 pm6 an6 cd6 ct6), sl6⟩) (c6 : PySem.W.codeIn K cd6 "_law_lowest" = true) (k6 : PySem.W.keepIn K (.ref f6) = true)
    {f7 : Addr} {od7 an7 : Option Addr} {sl7 : Array (Option Value)} {oc7 kV7 dc7 pm7 cd7 ct7 : Value} (a7 : PySem.W.nsIn K mainGlobals "_law_whole" = some (some (.ref f7))) (l7 : K.lookup f7 = some ⟨oc7, od7, .func (PySem.W.fnOf "_law_whole" "_law_whole" (defArgs s__law_whole) (defBody s__law_whole) (defScope s__law_whole) .none kV7 dc7 pm7 an7 cd7 ct7), sl7⟩) (c7 : PySem.W.codeIn K cd7 "_law_whole" = true) (k7 : PySem.W.keepIn K (.ref f7) = true)
    {f8 : Addr} {od8 an8 : Option Addr} {sl8 : Array (Option Value)} {oc8 kV8 dc8 pm8 cd8 ct8 : Value} (a8 : PySem.W.nsIn K mainGlobals "_law_fraction" = some (some (.ref f8))) (l8 : K.lookup f8 = some ⟨oc8, od8, .func (PySem.W.fnOf "_law_fraction" "_law_fraction" (defArgs s__law_fraction) (defBody s__law_fraction) (defScope s__law_fraction) .none kV8 dc8 pm8 an8 cd8 ct8), sl8⟩) (c8 : PySem.W.codeIn K cd8 "_law_fraction" = true) (k8 : PySem.W.keepIn K (.ref f8) = true)
    {f9 : Addr} {od9 an9 : Option Addr} {sl9 : Array (Option Value)} {oc9 kV9 dc9 pm9 cd9 ct9 : Value} (a9 : PySem.W.nsIn K mainGlobals "_law_only" = some (some (.ref f9))) (l9 : K.lookup f9 = some ⟨oc9, od9, .func (PySem.W.fnOf "_law_only" "_law_only" (defArgs s__law_only) (defBody s__law_only) (defScope s__law_only) .none kV9 dc9 pm9 an9 cd9 ct9), sl9⟩) (c9 : PySem.W.codeIn K cd9 "_law_only" = true) (k9 : PySem.W.keepIn K (.ref f9) = true)
    {f10 : Addr} {od10 an10 : Option Addr} {sl10 : Array (Option Value)} {oc10 kV10 dc10 pm10 cd10 ct10 : Value} (a10 : PySem.W.nsIn K mainGlobals "_law_number" = some (some (.ref f10))) (l10 : K.lookup f10 = some ⟨oc10, od10, .func (PySem.W.fnOf "_law_number" "_law_number" (defArgs s__law_number) (defBody s__law_number) (defScope s__law_number) .none kV10 dc10 pm10 an10 cd10 ct10), sl10⟩) (c10 : PySem.W.codeIn K cd10 "_law_number" = true) (k10 : PySem.W.keepIn K (.ref f10) = true)
    {f11 : Addr} {od11 an11 : Option Addr} {sl11 : Array (Option Value)} {oc11 kV11 dc11 pm11 cd11 ct11 : Value} (a11 : PySem.W.nsIn K mainGlobals "_law_figures" = some (some (.ref f11))) (l11 : K.lookup f11 = some ⟨oc11, od11, .func (PySem.W.fnOf "_law_figures" "_law_figures" (defArgs s__law_figures) (defBody s__law_figures) (defScope s__law_figures) .none kV11 dc11 pm11 an11 cd11 ct11), sl11⟩) (c11 : PySem.W.codeIn K cd11 "_law_figures" = true) (k11 : PySem.W.keepIn K (.ref f11) = true)
    {f12 : Addr} {od12 an12 : Option Addr} {sl12 : Array (Option Value)} {oc12 kV12 dc12 pm12 cd12 ct12 : Value} (a12 : PySem.W.nsIn K mainGlobals "_law_due" = some (some (.ref f12))) (l12 : K.lookup f12 = some ⟨oc12, od12, .func (PySem.W.fnOf "_law_due" "_law_due" (defArgs s__law_due) (defBody s__law_due) (defScope s__law_due) .none kV12 dc12 pm12 an12 cd12 ct12), sl12⟩) (c12 : PySem.W.codeIn K cd12 "_law_due" = true) (k12 : PySem.W.keepIn K (.ref f12) = true)
    {f13 : Addr} {od13 an13 : Option Addr} {sl13 : Array (Option Value)} {oc13 kV13 dc13 pm13 cd13 ct13 : Value} (a13 : PySem.W.nsIn K mainGlobals "_law_one" = some (some (.ref f13))) (l13 : K.lookup f13 = some ⟨oc13, od13, .func (PySem.W.fnOf "_law_one" "_law_one" (defArgs s__law_one) (defBody s__law_one) (defScope s__law_one) .none kV13 dc13 pm13 an13 cd13 ct13), sl13⟩) (c13 : PySem.W.codeIn K cd13 "_law_one" = true) (k13 : PySem.W.keepIn K (.ref f13) = true)
    {f14 : Addr} {od14 an14 : Option Addr} {sl14 : Array (Option Value)} {oc14 kV14 dc14 pm14 cd14 ct14 : Value} (a14 : PySem.W.nsIn K mainGlobals "_law_odd" = some (some (.ref f14))) (l14 : K.lookup f14 = some ⟨oc14, od14, .func (PySem.W.fnOf "_law_odd" "_law_odd" (defArgs s__law_odd) (defBody s__law_odd) (defScope s__law_odd) .none kV14 dc14 pm14 an14 cd14 ct14), sl14⟩) (c14 : PySem.W.codeIn K cd14 "_law_odd" = true) (k14 : PySem.W.keepIn K (.ref f14) = true)
    {f15 : Addr} {od15 an15 : Option Addr} {sl15 : Array (Option Value)} {oc15 kV15 dc15 pm15 cd15 ct15 : Value} (a15 : PySem.W.nsIn K mainGlobals "_law_spoiled" = some (some (.ref f15))) (l15 : K.lookup f15 = some ⟨oc15, od15, .func (PySem.W.fnOf "_law_spoiled" "_law_spoiled" (defArgs s__law_spoiled) (defBody s__law_spoiled) (defScope s__law_spoiled) .none kV15 dc15 pm15 an15 cd15 ct15), sl15⟩) (c15 : PySem.W.codeIn K cd15 "_law_spoiled" = true) (k15 : PySem.W.keepIn K (.ref f15) = true)
    {f16 : Addr} {od16 an16 : Option Addr} {sl16 : Array (Option Value)} {oc16 kV16 dc16 pm16 cd16 ct16 : Value} (a16 : PySem.W.nsIn K mainGlobals "law" = some (some (.ref f16))) (l16 : K.lookup f16 = some ⟨oc16, od16, .func (PySem.W.fnOf "law" "law" (defArgs s_law) (defBody s_law) (defScope s_law) .none kV16 dc16 pm16 an16 cd16 ct16), sl16⟩) (c16 : PySem.W.codeIn K cd16 "law" = true) (k16 : PySem.W.keepIn K (.ref f16) = true)
    (z_abs : PySem.W.nsIn K mainGlobals "abs" = some none)
    (z_len : PySem.W.nsIn K mainGlobals "len" = some none)
    (z_all : PySem.W.nsIn K mainGlobals "all" = some none)
    (z_int : PySem.W.nsIn K mainGlobals "int" = some none)
    (z_str : PySem.W.nsIn K mainGlobals "str" = some none)
    (z_isinstance : PySem.W.nsIn K mainGlobals "isinstance" = some none)
    (z_sorted : PySem.W.nsIn K mainGlobals "sorted" = some none)
    (z_bool : PySem.W.nsIn K mainGlobals "bool" = some none)
    (z_tuple : PySem.W.nsIn K mainGlobals "tuple" = some none)
    (z_ValueError : PySem.W.nsIn K mainGlobals "ValueError" = some none)
    (z_range : PySem.W.nsIn K mainGlobals "range" = some none)
    {t_FIGURES : Tok} (q_FIGURES : PySem.W.nsIn K mainGlobals "FIGURES" = some (some (.str "0123456789" t_FIGURES)))
    {c_HallError : Addr}
    (ns_HallError : PySem.W.nsIn K mainGlobals "HallError" = some (some (.ref c_HallError)))
    {c_NoNumber : Addr}
    (ns_NoNumber : PySem.W.nsIn K mainGlobals "NoNumber" = some (some (.ref c_NoNumber)))
    {c_NoName : Addr}
    (ns_NoName : PySem.W.nsIn K mainGlobals "NoName" = some (some (.ref c_NoName)))
    {c_NoChance : Addr}
    (ns_NoChance : PySem.W.nsIn K mainGlobals "NoChance" = some (some (.ref c_NoChance)))
    {c_NoShare : Addr}
    (ns_NoShare : PySem.W.nsIn K mainGlobals "NoShare" = some (some (.ref c_NoShare)))
    {c_NoText : Addr}
    (ns_NoText : PySem.W.nsIn K mainGlobals "NoText" = some (some (.ref c_NoText)))
    {c_NoRow : Addr}
    (ns_NoRow : PySem.W.nsIn K mainGlobals "NoRow" = some (some (.ref c_NoRow)))
    {c_NoRoom : Addr}
    (ns_NoRoom : PySem.W.nsIn K mainGlobals "NoRoom" = some (some (.ref c_NoRoom)))
    {c_NoDoor : Addr}
    (ns_NoDoor : PySem.W.nsIn K mainGlobals "NoDoor" = some (some (.ref c_NoDoor)))
    {c_NoPlan : Addr}
    (ns_NoPlan : PySem.W.nsIn K mainGlobals "NoPlan" = some (some (.ref c_NoPlan)))
    (xe_NoNumber : PySem.W.excIn K c_NoNumber [.type "ValueError", .type "Exception", .type "BaseException", .type "object"] "ValueError.__new__" = true)
    (xk_NoNumber : PySem.W.keepIn K (.ref c_NoNumber) = true)
    (xs_NoNumber : PySem.W.subIn K (.ref c_NoNumber) (.type "BaseException") = some true)
    (xt_NoNumber : PySem.W.typeIn K (.ref c_NoNumber) = some (.type "type"))
    (x_hn : PySem.W.specialIn K (.builtin "object.__class__") "__get__" = some (some (.builtin "getset_descriptor.__get__")))
    (x_ht : PySem.W.takesIn K (.builtin "object.__class__") = some true)
    (xg_NoNumber : PySem.W.findIn K (.ref c_NoNumber) "__getattribute__" = some (some (.builtin "BaseException.__getattribute__")))
    (xa_NoNumber : PySem.W.findIn K (.ref c_NoNumber) "__getattr__" = some none)
    (xd_NoNumber : PySem.W.hasDictIn K c_NoNumber = true)
    (xc_NoNumber : PySem.W.findIn K (.ref c_NoNumber) "__class__" = some (some (.builtin "object.__class__")))
    (xm_NoNumber : PySem.W.mroIn K c_NoNumber (.type "object") = some true)
    (xv_NoNumber : PySem.W.kitOne K (.ref c_NoNumber) (.type "ValueError") = some true)
    (xi_NoNumber_HallError : PySem.W.kitOne K (.ref c_NoNumber) (.ref c_HallError) = some true)
    (xh_NoNumber_HallError : PySem.W.exmOne K (.ref c_NoNumber) (.ref c_HallError) = some true)
    (xi_NoNumber_NoNumber : PySem.W.kitOne K (.ref c_NoNumber) (.ref c_NoNumber) = some true)
    (xh_NoNumber_NoNumber : PySem.W.exmOne K (.ref c_NoNumber) (.ref c_NoNumber) = some true)
    (xi_NoNumber_NoName : PySem.W.kitOne K (.ref c_NoNumber) (.ref c_NoName) = some false)
    (xh_NoNumber_NoName : PySem.W.exmOne K (.ref c_NoNumber) (.ref c_NoName) = some false)
    (xi_NoNumber_NoChance : PySem.W.kitOne K (.ref c_NoNumber) (.ref c_NoChance) = some false)
    (xh_NoNumber_NoChance : PySem.W.exmOne K (.ref c_NoNumber) (.ref c_NoChance) = some false)
    (xi_NoNumber_NoShare : PySem.W.kitOne K (.ref c_NoNumber) (.ref c_NoShare) = some false)
    (xh_NoNumber_NoShare : PySem.W.exmOne K (.ref c_NoNumber) (.ref c_NoShare) = some false)
    (xi_NoNumber_NoText : PySem.W.kitOne K (.ref c_NoNumber) (.ref c_NoText) = some false)
    (xh_NoNumber_NoText : PySem.W.exmOne K (.ref c_NoNumber) (.ref c_NoText) = some false)
    (xi_NoNumber_NoRow : PySem.W.kitOne K (.ref c_NoNumber) (.ref c_NoRow) = some false)
    (xh_NoNumber_NoRow : PySem.W.exmOne K (.ref c_NoNumber) (.ref c_NoRow) = some false)
    (xi_NoNumber_NoRoom : PySem.W.kitOne K (.ref c_NoNumber) (.ref c_NoRoom) = some false)
    (xh_NoNumber_NoRoom : PySem.W.exmOne K (.ref c_NoNumber) (.ref c_NoRoom) = some false)
    (xi_NoNumber_NoDoor : PySem.W.kitOne K (.ref c_NoNumber) (.ref c_NoDoor) = some false)
    (xh_NoNumber_NoDoor : PySem.W.exmOne K (.ref c_NoNumber) (.ref c_NoDoor) = some false)
    (xi_NoNumber_NoPlan : PySem.W.kitOne K (.ref c_NoNumber) (.ref c_NoPlan) = some false)
    (xh_NoNumber_NoPlan : PySem.W.exmOne K (.ref c_NoNumber) (.ref c_NoPlan) = some false)
    : ∃ fd : FuncData, (∀ (s : Shared) (v : Value), BindsTo s fd ⟨[v], []⟩ [("_law_script", v)]) ∧ ∀ base : Heap, K.In base → base.Ns mainGlobals mg → FnOk l.prog w K mg base (L2.CX l.prog w) 4 fa fd ["_law_script"] (spR K m_law) := by
  have e := hfa.symm.trans (PySem.W.mg_of X G a16)
  cases e
  have m_abs := PySem.W.mg_none_of X G z_abs
  have m_len := PySem.W.mg_none_of X G z_len
  have m_all := PySem.W.mg_none_of X G z_all
  have m_int := PySem.W.mg_none_of X G z_int
  have m_str := PySem.W.mg_none_of X G z_str
  have m_isinstance := PySem.W.mg_none_of X G z_isinstance
  have m_sorted := PySem.W.mg_none_of X G z_sorted
  have m_bool := PySem.W.mg_none_of X G z_bool
  have m_tuple := PySem.W.mg_none_of X G z_tuple
  have m_ValueError := PySem.W.mg_none_of X G z_ValueError
  have m_range := PySem.W.mg_none_of X G z_range
  have k_FIGURES : ∃ u, mg "FIGURES" = some u ∧ RelV (.str "0123456789") u := ⟨_, PySem.W.mg_of X G q_FIGURES, _, rfl⟩
  have n_HallError := ns_HallError
  have mc_HallError := PySem.W.mg_of X G ns_HallError
  have n_NoNumber := ns_NoNumber
  have mc_NoNumber := PySem.W.mg_of X G ns_NoNumber
  have n_NoName := ns_NoName
  have mc_NoName := PySem.W.mg_of X G ns_NoName
  have n_NoChance := ns_NoChance
  have mc_NoChance := PySem.W.mg_of X G ns_NoChance
  have n_NoShare := ns_NoShare
  have mc_NoShare := PySem.W.mg_of X G ns_NoShare
  have n_NoText := ns_NoText
  have mc_NoText := PySem.W.mg_of X G ns_NoText
  have n_NoRow := ns_NoRow
  have mc_NoRow := PySem.W.mg_of X G ns_NoRow
  have n_NoRoom := ns_NoRoom
  have mc_NoRoom := PySem.W.mg_of X G ns_NoRoom
  have n_NoDoor := ns_NoDoor
  have mc_NoDoor := PySem.W.mg_of X G ns_NoDoor
  have n_NoPlan := ns_NoPlan
  have mc_NoPlan := PySem.W.mg_of X G ns_NoPlan
  have R_NoNumber : ErrC K mg "NoNumber" := ⟨c_NoNumber, mc_NoNumber, ns_NoNumber, xe_NoNumber, xk_NoNumber, xs_NoNumber, xt_NoNumber⟩
  have inj : ∀ {x : Str} {C D : Addr}, PySem.W.nsIn K mainGlobals x = some (some (.ref C)) → PySem.W.nsIn K mainGlobals x = some (some (.ref D)) → D = C := fun h h' => by rw [h] at h'; cases h'; rfl
  have HT : ErrTab K CL RS ISA := by
    constructor
    · intro x y hx hy D C hD hC
      simp only [CL, RS, List.mem_cons, List.not_mem_nil, or_false] at hx; rcases hx with rfl
      · (simp only [CL, RS, List.mem_cons, List.not_mem_nil, or_false] at hy; rcases hy with rfl | rfl | rfl | rfl | rfl | rfl | rfl | rfl | rfl | rfl)
        · cases inj ns_NoNumber hD; cases inj ns_HallError hC; exact xi_NoNumber_HallError
        · cases inj ns_NoNumber hD; cases inj ns_NoNumber hC; exact xi_NoNumber_NoNumber
        · cases inj ns_NoNumber hD; cases inj ns_NoName hC; exact xi_NoNumber_NoName
        · cases inj ns_NoNumber hD; cases inj ns_NoChance hC; exact xi_NoNumber_NoChance
        · cases inj ns_NoNumber hD; cases inj ns_NoShare hC; exact xi_NoNumber_NoShare
        · cases inj ns_NoNumber hD; cases inj ns_NoText hC; exact xi_NoNumber_NoText
        · cases inj ns_NoNumber hD; cases inj ns_NoRow hC; exact xi_NoNumber_NoRow
        · cases inj ns_NoNumber hD; cases inj ns_NoRoom hC; exact xi_NoNumber_NoRoom
        · cases inj ns_NoNumber hD; cases inj ns_NoDoor hC; exact xi_NoNumber_NoDoor
        · cases inj ns_NoNumber hD; cases inj ns_NoPlan hC; exact xi_NoNumber_NoPlan
    · intro x hx D hD
      simp only [CL, RS, List.mem_cons, List.not_mem_nil, or_false] at hx; rcases hx with rfl
      · cases inj ns_NoNumber hD; exact xv_NoNumber
    · intro x hx D hD
      simp only [CL, RS, List.mem_cons, List.not_mem_nil, or_false] at hx; rcases hx with rfl
      · cases inj ns_NoNumber hD; exact ⟨xg_NoNumber, xa_NoNumber, xs_NoNumber, xd_NoNumber, xc_NoNumber, x_hn, x_ht, xm_NoNumber⟩
    · intro x y hx hy D C hD hC
      simp only [CL, RS, List.mem_cons, List.not_mem_nil, or_false] at hx; rcases hx with rfl
      · (simp only [CL, RS, List.mem_cons, List.not_mem_nil, or_false] at hy; rcases hy with rfl | rfl | rfl | rfl | rfl | rfl | rfl | rfl | rfl | rfl)
        · cases inj ns_NoNumber hD; cases inj ns_HallError hC; exact xh_NoNumber_HallError
        · cases inj ns_NoNumber hD; cases inj ns_NoNumber hC; exact xh_NoNumber_NoNumber
        · cases inj ns_NoNumber hD; cases inj ns_NoName hC; exact xh_NoNumber_NoName
        · cases inj ns_NoNumber hD; cases inj ns_NoChance hC; exact xh_NoNumber_NoChance
        · cases inj ns_NoNumber hD; cases inj ns_NoShare hC; exact xh_NoNumber_NoShare
        · cases inj ns_NoNumber hD; cases inj ns_NoText hC; exact xh_NoNumber_NoText
        · cases inj ns_NoNumber hD; cases inj ns_NoRow hC; exact xh_NoNumber_NoRow
        · cases inj ns_NoNumber hD; cases inj ns_NoRoom hC; exact xh_NoNumber_NoRoom
        · cases inj ns_NoNumber hD; cases inj ns_NoDoor hC; exact xh_NoNumber_NoDoor
        · cases inj ns_NoNumber hD; cases inj ns_NoPlan hC; exact xh_NoNumber_NoPlan
  refine ⟨PySem.W.fnOf "law" "law" (defArgs s_law) (defBody s_law) (defScope s_law) .none kV16 dc16 pm16 an16 cd16 ct16, fun s v => .of_eq rfl, fun base _ _ => ?_⟩
  have F1 := fun_mk (st := s_divisor) l1 c1 k1
  have G_divisor : Gd l.prog w K mg base "divisor" 1 ["one", "other"] m_divisor := ⟨_, _, ok_divisor F1 m_abs, PySem.W.mg_of X G a1, k1, F1.binds (ps := ["one", "other"]) fun _ _ _ _ _ _ us hl => match us, hl with | [_, _], _ => rfl⟩
  have F2 := fun_mk (st := s_whole_of) l2 c2 k2
  have G_whole_of : Gd l.prog w K mg base "whole_of" 1 ["figures"] m_whole_of := ⟨_, _, ok_whole_of F2 m_len m_all m_int k_FIGURES, PySem.W.mg_of X G a2, k2, F2.binds (ps := ["figures"]) fun _ _ _ _ _ _ us hl => match us, hl with | [_], _ => rfl⟩
  have F3 := fun_mk (st := s_number_of) l3 c3 k3
  have G_number_of : Gd l.prog w K mg base "number_of" 2 ["text"] m_number_of := ⟨_, _, ok_number_of F3 m_str m_isinstance R_NoNumber G_whole_of G_divisor, PySem.W.mg_of X G a3, k3, F3.binds (ps := ["text"]) fun _ _ _ _ _ _ us hl => match us, hl with | [_], _ => rfl⟩
  have F4 := fun_mk (st := s__law_cell) l4 c4 k4
  have G__law_cell : Gd l.prog w K mg base "_law_cell" 1 ["_law_script", "_law_k"] m__law_cell := ⟨_, _, ok__law_cell F4 , PySem.W.mg_of X G a4, k4, F4.binds (ps := ["_law_script", "_law_k"]) fun _ _ _ _ _ _ us hl => match us, hl with | [_, _], _ => rfl⟩
  have F5 := fun_mk (st := s__law_gcd) l5 c5 k5
  have G__law_gcd : Gd l.prog w K mg base "_law_gcd" 1 ["_law_one_here", "_law_other"] m__law_gcd := ⟨_, _, ok__law_gcd F5 m_abs m_sorted, PySem.W.mg_of X G a5, k5, F5.binds (ps := ["_law_one_here", "_law_other"]) fun _ _ _ _ _ _ us hl => match us, hl with | [_, _], _ => rfl⟩
  have F6 := fun_mk (st := s__law_lowest) l6 c6 k6
  have G__law_lowest : Gd l.prog w K mg base "_law_lowest" 2 ["_law_top", "_law_bottom"] m__law_lowest := ⟨_, _, ok__law_lowest F6 G__law_gcd, PySem.W.mg_of X G a6, k6, F6.binds (ps := ["_law_top", "_law_bottom"]) fun _ _ _ _ _ _ us hl => match us, hl with | [_, _], _ => rfl⟩
  have F7 := fun_mk (st := s__law_whole) l7 c7 k7
  have G__law_whole : Gd l.prog w K mg base "_law_whole" 1 ["_law_found"] m__law_whole := ⟨_, _, ok__law_whole F7 m_int m_isinstance m_bool, PySem.W.mg_of X G a7, k7, F7.binds (ps := ["_law_found"]) fun _ _ _ _ _ _ us hl => match us, hl with | [_], _ => rfl⟩
  have F8 := fun_mk (st := s__law_fraction) l8 c8 k8
  have G__law_fraction : Gd l.prog w K mg base "_law_fraction" 2 ["_law_found"] m__law_fraction := ⟨_, _, ok__law_fraction F8 m_tuple m_isinstance m_len G__law_whole G__law_gcd, PySem.W.mg_of X G a8, k8, F8.binds (ps := ["_law_found"]) fun _ _ _ _ _ _ us hl => match us, hl with | [_], _ => rfl⟩
  have F9 := fun_mk (st := s__law_only) l9 c9 k9
  have G__law_only : Gd l.prog w K mg base "_law_only" 1 ["_law_e", "_law_at"] m__law_only := ⟨_, _, ok__law_only F9 m_isinstance m_ValueError m_range n_NoNumber mc_NoNumber n_NoName mc_NoName n_NoChance mc_NoChance n_NoShare mc_NoShare n_NoText mc_NoText n_NoRow mc_NoRow n_NoRoom mc_NoRoom n_NoDoor mc_NoDoor n_NoPlan mc_NoPlan HT, PySem.W.mg_of X G a9, k9, F9.binds (ps := ["_law_e", "_law_at"]) fun _ _ _ _ _ _ us hl => match us, hl with | [_, _], _ => rfl⟩
  have F10 := fun_mk (st := s__law_number) l10 c10 k10
  have G__law_number : Gd l.prog w K mg base "_law_number" 1 ["_law_one_here"] m__law_number := ⟨_, _, ok__law_number F10 m_str, PySem.W.mg_of X G a10, k10, F10.binds (ps := ["_law_one_here"]) fun _ _ _ _ _ _ us hl => match us, hl with | [_], _ => rfl⟩
  have F11 := fun_mk (st := s__law_figures) l11 c11 k11
  have G__law_figures : Gd l.prog w K mg base "_law_figures" 1 ["_law_text"] m__law_figures := ⟨_, _, ok__law_figures F11 m_len m_int, PySem.W.mg_of X G a11, k11, F11.binds (ps := ["_law_text"]) fun _ _ _ _ _ _ us hl => match us, hl with | [_], _ => rfl⟩
  have F12 := fun_mk (st := s__law_due) l12 c12 k12
  have G__law_due : Gd l.prog w K mg base "_law_due" 2 ["_law_text"] m__law_due := ⟨_, _, ok__law_due F12 G__law_figures G__law_gcd, PySem.W.mg_of X G a12, k12, F12.binds (ps := ["_law_text"]) fun _ _ _ _ _ _ us hl => match us, hl with | [_], _ => rfl⟩
  have F13 := fun_mk (st := s__law_one) l13 c13 k13
  have G__law_one : Gd l.prog w K mg base "_law_one" 3 ["_law_script"] m__law_one := ⟨_, _, ok__law_one F13 G__law_cell G__law_lowest, PySem.W.mg_of X G a13, k13, F13.binds (ps := ["_law_script"]) fun _ _ _ _ _ _ us hl => match us, hl with | [_], _ => rfl⟩
  have F14 := fun_mk (st := s__law_odd) l14 c14 k14
  have G__law_odd : Gd l.prog w K mg base "_law_odd" 1 ["_law_cell_here"] m__law_odd := ⟨_, _, ok__law_odd F14 , PySem.W.mg_of X G a14, k14, F14.binds (ps := ["_law_cell_here"]) fun _ _ _ _ _ _ us hl => match us, hl with | [_], _ => rfl⟩
  have F15 := fun_mk (st := s__law_spoiled) l15 c15 k15
  have G__law_spoiled : Gd l.prog w K mg base "_law_spoiled" 2 ["_law_script", "_law_one_here"] m__law_spoiled := ⟨_, _, ok__law_spoiled F15 m_len m_str G__law_number G__law_cell G__law_odd, PySem.W.mg_of X G a15, k15, F15.binds (ps := ["_law_script", "_law_one_here"]) fun _ _ _ _ _ _ us hl => match us, hl with | [_, _], _ => rfl⟩
  exact ok_law (fun_mk (st := s_law) l16 c16 k16) n_HallError mc_HallError HT G__law_spoiled G__law_one G__law_due G_number_of G__law_only G__law_fraction
theorem walk {l : PySem.W.OpenLaw} {q : Program} {loose : List Str} {XP : (Str → Option Value) → Heap → Prop} {YP : World → Heap → Prop} {d : DefRec} {K : Params → PySem.W.Frag} (hn : l.most = some 63) (hdf : d.params.defaults = [])
    (hY : ∀ (w : World) (h : Heap), YP w h → (K w.params).In h)
    (F : ∀ (w : World) (mg : Str → Option Value) (fa : Addr) (h : Heap), (K w.params).In h → h.Ns mainGlobals mg → mg d.name = some (.ref fa) →
      ∃ fd : FuncData, (∀ (s : Shared) (u : Value), BindsTo s fd ⟨[u], []⟩ [("_law_script", u)]) ∧ ∀ base : Heap, (K w.params).In base → base.Ns mainGlobals mg → FnOk l.prog w (K w.params) mg base (L2.CX l.prog w) 4 fa fd ["_law_script"] (spR (K w.params) m_law)) :
    PySem.W.WalkO q loose XP YP l.row.toRowW d [] (fun f vs => PySem.call f vs) :=
  L2.walk_of (n := 63) (k := 4) (x := "_law_script") (CX := fun w => L2.CX l.prog w) (sp := fun w => spR (K w.params) m_law) hn (by decide) hdf ⟨rfl, by decide, by decide⟩ hY F (fun w H a ns hl _ hS => law_sp hS (law_true ns hl)) fun w H s e s' ⟨_, _, _, _, _, _, _, _, _, _, _, _, z⟩ => z
end P.My
open PySem PySem.W PyProof.Rows
set_option maxRecDepth 100000 in
set_option maxHeartbeats 0 in
theorem PySem.Challenge.cw_chancehall_k07_no_number_holds : PySem.Challenge.rw_chancehall_k07_no_number.Holds := by
  w_on; o_law; k_head; (case hw => w_witness2)
  k_fill
  refine P.My.walk (l := PySem.Challenge.rw_chancehall_k07_no_number) rfl rfl (fun w h Y => PySem.W.kIn_of Y) ?F
  case F =>
    intro w mg fa h KX G hmg
    refine' P.My.all_mk KX G hmg ?a1 ?l1 ?c1 ?k1 ?a2 ?l2 ?c2 ?k2 ?a3 ?l3 ?c3 ?k3 ?a4 ?l4 ?c4 ?k4 ?a5 ?l5 ?c5 ?k5 ?a6 ?l6 ?c6 ?k6 ?a7 ?l7 ?c7 ?k7 ?a8 ?l8 ?c8 ?k8 ?a9 ?l9 ?c9 ?k9 ?a10 ?l10 ?c10 ?k10 ?a11 ?l11 ?c11 ?k11 ?a12 ?l12 ?c12 ?k12 ?a13 ?l13 ?c13 ?k13 ?a14 ?l14 ?c14 ?k14 ?a15 ?l15 ?c15 ?k15 ?a16 ?l16 ?c16 ?k16 ?z_abs ?z_len ?z_all ?z_int ?z_str ?z_isinstance ?z_sorted ?z_bool ?z_tuple ?z_ValueError ?z_range ?q_FIGURES ?ns_HallError ?ns_NoNumber ?ns_NoName ?ns_NoChance ?ns_NoShare ?ns_NoText ?ns_NoRow ?ns_NoRoom ?ns_NoDoor ?ns_NoPlan ?xe_NoNumber ?xk_NoNumber ?xs_NoNumber ?xt_NoNumber ?x_hn ?x_ht ?xg_NoNumber ?xa_NoNumber ?xd_NoNumber ?xc_NoNumber ?xm_NoNumber ?xv_NoNumber ?xi_NoNumber_HallError ?xh_NoNumber_HallError ?xi_NoNumber_NoNumber ?xh_NoNumber_NoNumber ?xi_NoNumber_NoName ?xh_NoNumber_NoName ?xi_NoNumber_NoChance ?xh_NoNumber_NoChance ?xi_NoNumber_NoShare ?xh_NoNumber_NoShare ?xi_NoNumber_NoText ?xh_NoNumber_NoText ?xi_NoNumber_NoRow ?xh_NoNumber_NoRow ?xi_NoNumber_NoRoom ?xh_NoNumber_NoRoom ?xi_NoNumber_NoDoor ?xh_NoNumber_NoDoor ?xi_NoNumber_NoPlan ?xh_NoNumber_NoPlan
    (case a1 => k_is)
    (case l1 => k_is)
    (case c1 => k_is)
    (case k1 => k_is)
    (case a2 => k_is)
    (case l2 => k_is)
    (case c2 => k_is)
    (case k2 => k_is)
    (case a3 => k_is)
    (case l3 => k_is)
    (case c3 => k_is)
    (case k3 => k_is)
    (case a4 => k_is)
    (case l4 => k_is)
    (case c4 => k_is)
    (case k4 => k_is)
    (case a5 => k_is)
    (case l5 => k_is)
    (case c5 => k_is)
    (case k5 => k_is)
    (case a6 => k_is)
    (case l6 => k_is)
    (case c6 => k_is)
    (case k6 => k_is)
    (case a7 => k_is)
    (case l7 => k_is)
    (case c7 => k_is)
    (case k7 => k_is)
    (case a8 => k_is)
    (case l8 => k_is)
    (case c8 => k_is)
    (case k8 => k_is)
    (case a9 => k_is)
    (case l9 => k_is)
    (case c9 => k_is)
    (case k9 => k_is)
    (case a10 => k_is)
    (case l10 => k_is)
    (case c10 => k_is)
    (case k10 => k_is)
    (case a11 => k_is)
    (case l11 => k_is)
    (case c11 => k_is)
    (case k11 => k_is)
    (case a12 => k_is)
    (case l12 => k_is)
    (case c12 => k_is)
    (case k12 => k_is)
    (case a13 => k_is)
    (case l13 => k_is)
    (case c13 => k_is)
    (case k13 => k_is)
    (case a14 => k_is)
    (case l14 => k_is)
    (case c14 => k_is)
    (case k14 => k_is)
    (case a15 => k_is)
    (case l15 => k_is)
    (case c15 => k_is)
    (case k15 => k_is)
    (case a16 => k_is)
    (case l16 => k_is)
    (case c16 => k_is)
    (case k16 => k_is)
    (case z_abs => k_is)
    (case z_len => k_is)
    (case z_all => k_is)
    (case z_int => k_is)
    (case z_str => k_is)
    (case z_isinstance => k_is)
    (case z_sorted => k_is)
    (case z_bool => k_is)
    (case z_tuple => k_is)
    (case z_ValueError => k_is)
    (case z_range => k_is)
    (case q_FIGURES => k_is)
    (case ns_HallError => k_is)
    (case ns_NoNumber => k_is)
    (case ns_NoName => k_is)
    (case ns_NoChance => k_is)
    (case ns_NoShare => k_is)
    (case ns_NoText => k_is)
    (case ns_NoRow => k_is)
    (case ns_NoRoom => k_is)
    (case ns_NoDoor => k_is)
    (case ns_NoPlan => k_is)
    (case xe_NoNumber => k_exc)
    (case xk_NoNumber => k_is)
    (case xs_NoNumber => k_is)
    (case xt_NoNumber => k_is)
    (case x_hn => k_is)
    (case x_ht => k_is)
    (case xg_NoNumber => k_is)
    (case xa_NoNumber => k_is)
    (case xd_NoNumber => k_is)
    (case xc_NoNumber => k_is)
    (case xm_NoNumber => k_is)
    (case xv_NoNumber => kit_is)
    (case xi_NoNumber_HallError => kit_is)
    (case xh_NoNumber_HallError => kts_exm)
    (case xi_NoNumber_NoNumber => kit_is)
    (case xh_NoNumber_NoNumber => kts_exm)
    (case xi_NoNumber_NoName => kit_is)
    (case xh_NoNumber_NoName => kts_exm)
    (case xi_NoNumber_NoChance => kit_is)
    (case xh_NoNumber_NoChance => kts_exm)
    (case xi_NoNumber_NoShare => kit_is)
    (case xh_NoNumber_NoShare => kts_exm)
    (case xi_NoNumber_NoText => kit_is)
    (case xh_NoNumber_NoText => kts_exm)
    (case xi_NoNumber_NoRow => kit_is)
    (case xh_NoNumber_NoRow => kts_exm)
    (case xi_NoNumber_NoRoom => kit_is)
    (case xh_NoNumber_NoRoom => kts_exm)
    (case xi_NoNumber_NoDoor => kit_is)
    (case xh_NoNumber_NoDoor => kts_exm)
    (case xi_NoNumber_NoPlan => kit_is)
    (case xh_NoNumber_NoPlan => kts_exm)
