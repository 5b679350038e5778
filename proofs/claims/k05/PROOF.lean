import PyProof.Rows.All
import Wide.All
import OpenK.AllK
import Wide.FinOn
import HandS.ForMost
import HandS.IsInst
import HandS.TryOnly
import HandS.ForExc
import HandS.ExcIs
import HandS.Wide
import HandS.WideBits
import HandS.SortKw
import HandS.Style
import PySem.Challenge.RW_chancehall_k05_lists_of_fractions
set_option Elab.async false
set_option linter.all false
set_option maxRecDepth 100000
set_option maxHeartbeats 4000000

namespace Z
open PySem L2

/-- what a value is, the heap forgotten -/
inductive D where
  | non | bl (b : Bool) | int (i : Int) | str (x : Str) | opq (v : V)
  | lst (ds : List D) | tup (ds : List D) | rd (ds : List D) | ins (C : Addr) (fs : List (Str × D)) | dic (kvs : List (Key × D)) | xo (x : Str) (own : Option (Str × D))

/-- an exception object of the class cls, its own dict at d -/
def XO (cls : Value) (d : Option Addr) (a : Addr) : HO := .ext fun h => ∃ (oe : Obj) (vs : Array Value), h.get? a = some oe ∧ oe.cls = cls ∧ oe.dict = d ∧ oe.data = .fields vs
mutual
inductive Rep (K : PySem.W.Frag) (H : Hp) : V → D → Prop
  | non : Rep K H .non .non
  | bl (b : Bool) : Rep K H (.bl b) (.bl b)
  | int (i : Int) : Rep K H (.int i) (.int i)
  | str (x : Str) : Rep K H (.str x) (.str x)
  | opq (v : V) : Rep K H v (.opq v)
  | lst {a : Addr} {vs : List V} {ds : List D} : H a = some (.lst vs) → Reps K H vs ds → Rep K H (.ref a) (.lst ds)
  | tup {a : Addr} {vs : List V} {ds : List D} : H a = some (.tup vs) → Reps K H vs ds → Rep K H (.ref a) (.tup ds)
  | rd {a : Addr} {vs : List V} {ds : List D} : SqL K H a vs → Reps K H vs ds → Rep K H (.ref a) (.rd ds)
  | ins {a C dx : Addr} {fs : List (Str × V)} {gs : List (Str × D)} : H a = some (.ins C dx fs) → RepF K H fs gs → Rep K H (.ref a) (.ins C gs)
  | dic {a : Addr} {kvs : List (Key × V)} {kds : List (Key × D)} : H a = some (.dK kvs) → RepK K H kvs kds → Rep K H (.ref a) (.dic kds)
  | xo0 {a C : Addr} {x : Str} : PySem.W.nsIn K mainGlobals x = some (some (.ref C)) → H a = some (XO (.ref C) none a) → Rep K H (.ref a) (.xo x none)
  | xo1 {a C dx : Addr} {x f : Str} {v : V} {d : D} : PySem.W.nsIn K mainGlobals x = some (some (.ref C)) → H a = some (XO (.ref C) (some dx) a) → H dx = some (.xd [(f, v)]) → Rep K H v d → Rep K H (.ref a) (.xo x (some (f, d)))
inductive Reps (K : PySem.W.Frag) (H : Hp) : List V → List D → Prop
  | nil : Reps K H [] []
  | cons {v : V} {d : D} {vs : List V} {ds : List D} : Rep K H v d → Reps K H vs ds → Reps K H (v :: vs) (d :: ds)
inductive RepF (K : PySem.W.Frag) (H : Hp) : List (Str × V) → List (Str × D) → Prop
  | nil : RepF K H [] []
  | cons {f : Str} {v : V} {d : D} {vs : List (Str × V)} {ds : List (Str × D)} : Rep K H v d → RepF K H vs ds → RepF K H ((f, v) :: vs) ((f, d) :: ds)
inductive RepK (K : PySem.W.Frag) (H : Hp) : List (Key × V) → List (Key × D) → Prop
  | nil : RepK K H [] []
  | cons {f : Key} {v : V} {d : D} {vs : List (Key × V)} {ds : List (Key × D)} : Rep K H v d → RepK K H vs ds → RepK K H ((f, v) :: vs) ((f, d) :: ds)
end
section
variable {K : PySem.W.Frag} {H H' : Hp}
mutual
theorem Rep.mono (e : Same H H') : ∀ {v : V} {d : D}, Rep K H v d → Rep K H' v d
  | _, _, .non => .non
  | _, _, .bl b => .bl b
  | _, _, .int b => .int b
  | _, _, .str b => .str b
  | _, _, .opq b => .opq b
  | _, _, .lst h r => .lst (e _ _ h) (Reps.mono e r)
  | _, _, .tup h r => .tup (e _ _ h) (Reps.mono e r)
  | _, _, .rd h r => .rd (e.seq h) (Reps.mono e r)
  | _, _, .ins h r => .ins (e _ _ h) (RepF.mono e r)
  | _, _, .dic h r => .dic (e _ _ h) (RepK.mono e r)
  | _, _, .xo0 n h => .xo0 n (e _ _ h)
  | _, _, .xo1 n h h' r => .xo1 n (e _ _ h) (e _ _ h') (Rep.mono e r)
theorem Reps.mono (e : Same H H') : ∀ {v : List V} {d : List D}, Reps K H v d → Reps K H' v d
  | _, _, .nil => .nil
  | _, _, .cons a b => .cons (Rep.mono e a) (Reps.mono e b)
theorem RepF.mono (e : Same H H') : ∀ {v : List (Str × V)} {d : List (Str × D)}, RepF K H v d → RepF K H' v d
  | _, _, .nil => .nil
  | _, _, .cons a b => .cons (Rep.mono e a) (RepF.mono e b)
theorem RepK.mono (e : Same H H') : ∀ {v : List (Key × V)} {d : List (Key × D)}, RepK K H v d → RepK K H' v d
  | _, _, .nil => .nil
  | _, _, .cons a b => .cons (Rep.mono e a) (RepK.mono e b)
end
theorem Reps.length : ∀ {v : List V} {d : List D}, Reps K H v d → v.length = d.length
  | _, _, .nil => rfl
  | _, _, .cons _ b => congrArg (· + 1) b.length
theorem Reps.get : ∀ {v : List V} {d : List D} {i : Nat} {x : V}, Reps K H v d → v[i]? = some x → ∃ y, d[i]? = some y ∧ Rep K H x y
  | _, _, _, _, .nil, h => by cases h
  | _, _, 0, _, .cons a b, h => by cases h; exact ⟨_, rfl, a⟩
  | _, _, i + 1, _, .cons a b, h => b.get (i := i) h
theorem Reps.get' : ∀ {v : List V} {d : List D} {i : Nat} {y : D}, Reps K H v d → d[i]? = some y → ∃ x, v[i]? = some x ∧ Rep K H x y
  | _, _, _, _, .nil, h => by cases h
  | _, _, 0, _, .cons a b, h => by cases h; exact ⟨_, rfl, a⟩
  | _, _, i + 1, _, .cons a b, h => b.get' (i := i) h
theorem Reps.append : ∀ {v v' : List V} {d d' : List D}, Reps K H v d → Reps K H v' d' → Reps K H (v ++ v') (d ++ d')
  | _, _, _, _, .nil, h => h
  | _, _, _, _, .cons a b, h => .cons a (b.append h)
theorem Reps.set : ∀ {v : List V} {d : List D} {x : V} {y : D} (i : Nat), Reps K H v d → Rep K H x y → Reps K H (v.set i x) (d.set i y)
  | _, _, _, _, _, .nil, _ => .nil
  | _, _, _, _, 0, .cons _ b, h => .cons h b
  | _, _, _, _, i + 1, .cons a b, h => .cons a (b.set i h)
theorem Reps.take : ∀ {v : List V} {d : List D} (i : Nat), Reps K H v d → Reps K H (v.take i) (d.take i)
  | _, _, 0, _ => .nil
  | _, _, _ + 1, .nil => .nil
  | _, _, i + 1, .cons a b => .cons a (b.take i)
theorem Reps.drop : ∀ {v : List V} {d : List D} (i : Nat), Reps K H v d → Reps K H (v.drop i) (d.drop i)
  | _, _, 0, r => r
  | _, _, _ + 1, .nil => .nil
  | _, _, i + 1, .cons _ b => b.drop i
theorem Reps.ints : ∀ {v : List V} {ns : List Int}, Reps K H v (ns.map D.int) → v = ns.map V.int
  | _, [], .nil => rfl
  | _, _ :: _, .cons (.int _) b => congrArg (_ :: ·) b.ints
theorem Reps.of_ints : ∀ (ns : List Int), Reps K H (ns.map V.int) (ns.map D.int)
  | [] => .nil
  | n :: r => .cons (.int n) (Reps.of_ints r)
theorem Reps.bls : ∀ {v : List V} {ns : List Bool}, Reps K H v (ns.map D.bl) → v = ns.map V.bl
  | _, [], .nil => rfl
  | _, _ :: _, .cons (.bl _) b => congrArg (_ :: ·) b.bls
theorem Reps.strs : ∀ {v : List V} {ns : List Str}, Reps K H v (ns.map D.str) → v = ns.map V.str
  | _, [], .nil => rfl
  | _, _ :: _, .cons (.str _) b => congrArg (_ :: ·) b.strs
theorem RepF.look : ∀ {fs : List (Str × V)} {gs : List (Str × D)} {f : Str} {d : D}, RepF K H fs gs → gs.lookup f = some d → ∃ v, fs.lookup f = some v ∧ Rep K H v d
  | _, _, _, _, .nil, h => by cases h
  | _, _, f, d, .cons (f := g) a b, h => by
    rw [List.lookup_cons] at h ⊢
    by_cases e : f == g
    · rw [e] at h ⊢
      cases h
      exact ⟨_, rfl, a⟩
    · rw [Bool.not_eq_true] at e
      rw [e] at h ⊢
      exact b.look h
end

open Classical in
noncomputable def del (H : Hp) (O : Addr → Prop) : Hp := fun b => if O b then none else H b
theorem del_some {H : Hp} {O : Addr → Prop} {a : Addr} {o : HO} : del H O a = some o ↔ ¬ O a ∧ H a = some o := by
  unfold del
  split
  · rename_i h
    constructor
    · intro z; cases z
    · rintro ⟨z, _⟩; exact absurd h z
  · rename_i h
    exact ⟨fun z => ⟨h, z⟩, fun z => z.2⟩
theorem del_mono {H H' : Hp} {O : Addr → Prop} (e : Same H H') : Same (del H O) (del H' O) := fun b o h => by
  rw [del_some] at h ⊢
  exact ⟨h.1, e _ _ h.2⟩
theorem del_sub {H : Hp} {O O' : Addr → Prop} (e : ∀ a, O' a → O a) : Same (del H O) (del H O') := fun b o h => by
  rw [del_some] at h ⊢
  exact ⟨fun z => h.1 (e _ z), h.2⟩
theorem del_same (H : Hp) (O : Addr → Prop) : Same (del H O) H := fun b o h => (del_some.mp h).2
theorem del_nil (H : Hp) : del H (fun _ => False) = H := by
  funext b
  unfold del
  rw [if_neg (by simp)]
theorem del_upd {H : Hp} {O : Addr → Prop} {a : Addr} {o : HO} (h : O a) : del (upd H a o) O = del H O := by
  funext b
  unfold del
  by_cases hb : b = a
  · subst hb
    rw [if_pos h, if_pos h]
  · rw [upd_ne hb]
/-- what may be written -/
def isMut : HO → Bool
  | .lst _ => true | .dK _ => true | .ins _ _ _ => true | _ => false
def Mu (H : Hp) (a : Addr) : Prop := ∃ o, H a = some o ∧ isMut o = true
theorem Mu.mono {H H' : Hp} {a : Addr} (e : Same H H') (h : Mu H a) : Mu H' a := by
  obtain ⟨o, h1, h2⟩ := h
  exact ⟨o, e _ _ h1, h2⟩
/-- addresses left alone, addresses of the def's own -/
def un (B : Addr → Prop) (O : List Addr) : Addr → Prop := fun a => B a ∨ a ∈ O
def ons (p : Addr) (B : Addr → Prop) : Addr → Prop := fun a => a = p ∨ B a
def Onl (O : List Addr) : Addr → Prop := fun a => a ∈ O
theorem same_upd {H : Hp} {p : Addr} (o : HO) (h : H p = none) : Same H (upd H p o) := fun b u q => by
  rw [upd_ne (ne_of_none q h)]
  exact q

/-- a local: not known, what it is, a list of the def's own -/
inductive Sl where
  | no | st (d : D) | ow (ds : List D) | bo (d : D)

structure Ok (K : PySem.W.Frag) (B : Addr → Prop) (H0 : Hp) (σ : St) (ρ : List Sl) (τ : List (V × D)) (H : Hp) : Prop where
  len : σ.length = ρ.length
  bs : ∀ a, B a → Mu H0 a
  bo : ∀ (i : Nat) (d : D), ρ[i]? = some (.bo d) → ∃ v, σ[i]? = some (some v) ∧ Rep K H0 v d
  ex : ∃ O : List Addr, Same H0 (del H (Onl O)) ∧ (∀ a, un B O a → Mu H a) ∧
    (∀ (i : Nat) (d : D), ρ[i]? = some (.st d) → ∃ v, σ[i]? = some (some v) ∧ Rep K (del H (un B O)) v d) ∧
    (∀ (i : Nat) (ds : List D), ρ[i]? = some (.ow ds) → ∃ a vs, σ[i]? = some (some (.ref a)) ∧ a ∈ O ∧ H a = some (.lst vs) ∧ Reps K (del H (un B O)) vs ds) ∧
    (∀ (i j : Nat) (ds es : List D) (a : Addr), ρ[i]? = some (.ow ds) → ρ[j]? = some (.ow es) → σ[i]? = some (some (.ref a)) → σ[j]? = some (some (.ref a)) → i = j) ∧
    (∀ p, p ∈ τ → Rep K (del H (un B O)) p.1 p.2)

section
variable {K : PySem.W.Frag} {B : Addr → Prop} {H0 H H' : Hp} {σ : St} {ρ ρ' : List Sl} {τ τ' : List (V × D)} {v : V} {d : D}
theorem Ok.sub (I : Ok K B H0 σ ρ τ H) (h : ∀ p, p ∈ τ' → p ∈ τ) : Ok K B H0 σ ρ τ' H := by
  obtain ⟨l, bs, bo, O, a1, a2, a3, a4, a5, a6⟩ := I
  exact ⟨l, bs, bo, O, a1, a2, a3, a4, a5, fun p q => a6 p (h p q)⟩
theorem Ok.top (I : Ok K B H0 σ ρ ((v, d) :: τ) H) : ∃ O, Same H0 (del H (Onl O)) ∧ Rep K (del H (un B O)) v d := by
  obtain ⟨l, bs, bo, O, a1, a2, a3, a4, a5, a6⟩ := I
  exact ⟨O, a1, a6 _ (List.mem_cons_self ..)⟩
theorem Ok.pop (I : Ok K B H0 σ ρ ((v, d) :: τ) H) : Ok K B H0 σ ρ τ H := I.sub fun _ q => List.mem_cons_of_mem _ q
/-- the heap grows -/
theorem Ok.grow (I : Ok K B H0 σ ρ τ H) (e : Same H H') : Ok K B H0 σ ρ τ H' := by
  obtain ⟨l, bs, bo, O, a1, a2, a3, a4, a5, a6⟩ := I
  refine ⟨l, bs, bo, O, a1.trans (del_mono e), fun a q => ?_, fun i d q => ?_, fun i ds q => ?_, a5, fun p q => (a6 p q).mono (del_mono e)⟩
  · exact (a2 a q).mono e
  · obtain ⟨v, z, r⟩ := a3 i d q
    exact ⟨v, z, r.mono (del_mono e)⟩
  · obtain ⟨a, vs, z, m, x, r⟩ := a4 i ds q
    exact ⟨a, vs, z, m, e _ _ x, r.mono (del_mono e)⟩
/-- a scalar is had for nothing -/
theorem Ok.push (I : Ok K B H0 σ ρ τ H) (h : ∀ H', Rep K H' v d) : Ok K B H0 σ ρ ((v, d) :: τ) H := by
  obtain ⟨l, bs, bo, O, a1, a2, a3, a4, a5, a6⟩ := I
  refine ⟨l, bs, bo, O, a1, a2, a3, a4, a5, fun p q => ?_⟩
  rcases List.mem_cons.mp q with rfl | q
  · exact h _
  · exact a6 p q
/-- an object just laid, of things that are held -/
theorem Ok.laid (I : Ok K B H0 σ ρ τ H) {p : Addr} {o : HO} (hp : H p = none) (h : ∀ H', Same H H' → H' p = some o → ∀ O : Addr → Prop, ¬ O p → (∀ q, q ∈ τ → Rep K (del H' O) q.1 q.2) → Rep K (del H' O) (.ref p) d) : Ok K B H0 σ ρ ((.ref p, d) :: τ) (upd H p o) := by
  have J := I.grow (same_upd o hp)
  obtain ⟨l, bs, bo, O, a1, a2, a3, a4, a5, a6⟩ := I
  have hn : ¬ un B O p := fun z => by
    obtain ⟨u, q, _⟩ := a2 p z
    rw [hp] at q
    cases q
  have e := del_mono (O := Onl O) (same_upd o hp)
  have e' := del_mono (O := un B O) (same_upd o hp)
  refine ⟨l, bs, bo, O, a1.trans e, fun a q => ?_, fun i d q => ?_, fun i ds q => ?_, a5, fun x q => ?_⟩
  · exact (a2 a q).mono (same_upd o hp)
  · obtain ⟨v, z, r⟩ := a3 i d q
    exact ⟨v, z, r.mono e'⟩
  · obtain ⟨a, vs, z, m, x, r⟩ := a4 i ds q
    exact ⟨a, vs, z, m, same_upd o hp _ _ x, r.mono e'⟩
  · rcases List.mem_cons.mp q with rfl | q
    · exact h _ (same_upd o hp) upd_same _ hn fun y hy => (a6 y hy).mono e'
    · exact (a6 x q).mono e'
end
theorem Reps.of_zip {K : PySem.W.Frag} {H : Hp} : ∀ {vs : List V} {ds : List D}, vs.length = ds.length → (∀ q, q ∈ vs.zip ds → Rep K H q.1 q.2) → Reps K H vs ds
  | [], [], _, _ => .nil
  | v :: vs, d :: ds, e, h => .cons (h (v, d) (List.mem_cons_self ..)) (Reps.of_zip (Nat.succ.inj e) fun q z => h q (List.mem_cons_of_mem _ z))

theorem le_sz {n : Nat} (h : Nat.ble n 1000 = true) : n ≤ sizeLine := Nat.le_trans (Nat.le_of_ble_eq_true h) (by decide)
/-! ### judgements -/
def Ev (K : PySem.W.Frag) (te : TE) (ρ : List Sl) (d : D) : Prop := ∀ (B : Addr → Prop) (H0 : Hp) (σ : St) (τ : List (V × D)) (H : Hp), Ok K B H0 σ ρ τ H → ∀ Q : VK, (∀ v H', Ok K B H0 σ ρ ((v, d) :: τ) H' → Q v H') → te σ H Q
def EvT (K : PySem.W.Frag) (tt : TT) (ρ : List Sl) (b : Bool) : Prop := ∀ (B : Addr → Prop) (H0 : Hp) (σ : St) (τ : List (V × D)) (H : Hp), Ok K B H0 σ ρ τ H → ∀ Q : Bool → Hp → Prop, (∀ H', Ok K B H0 σ ρ τ H' → Q b H') → tt σ H Q
def EvA (K : PySem.W.Frag) (ta : TA) (ρ : List Sl) (ds : List D) : Prop := ∀ (B : Addr → Prop) (H0 : Hp) (σ : St) (τ : List (V × D)) (H : Hp), Ok K B H0 σ ρ τ H → ∀ Q : List V → Hp → Prop, (∀ vs H', vs.length = ds.length → Ok K B H0 σ ρ (vs.zip ds ++ τ) H' → Q vs H') → ta σ H Q
/-- a rule upon values: two of them, a list of them -/
def R2v (K : PySem.W.Frag) (r : R2) (d e f : D) : Prop := ∀ (B : Addr → Prop) (H0 : Hp) (σ : St) (ρ : List Sl) (τ : List (V × D)) (H : Hp) (x y : V), Ok K B H0 σ ρ ((y, e) :: (x, d) :: τ) H → ∀ Q : VK, (∀ v H', Ok K B H0 σ ρ ((v, f) :: τ) H' → Q v H') → r x y H Q
def RCv (K : PySem.W.Frag) (r : List V → Hp → VK → Prop) (ds : List D) (f : D) : Prop := ∀ (B : Addr → Prop) (H0 : Hp) (σ : St) (ρ : List Sl) (τ : List (V × D)) (H : Hp) (vs : List V), vs.length = ds.length → Ok K B H0 σ ρ (vs.zip ds ++ τ) H → ∀ Q : VK, (∀ v H', Ok K B H0 σ ρ ((v, f) :: τ) H' → Q v H') → r vs H Q

section
variable {K : PySem.W.Frag} {ρ ρ' : List Sl} {ta tb tc te : TE} {t u : TT} {ts : TA} {d e f : D} {ds : List D} {r : R2} {i : Nat}
theorem ev_var (h : ρ[i]? = some (.st d)) : Ev K (tVar i) ρ d := fun B H0 σ τ H I Q q => by
  have I' := I
  obtain ⟨l, bs, bo, O, a1, a2, a3, a4, a5, a6⟩ := I
  obtain ⟨v, z, rr⟩ := a3 i d h
  refine ⟨v, z, q v H ⟨l, bs, bo, O, a1, a2, a3, a4, a5, fun p hp => ?_⟩⟩
  rcases List.mem_cons.mp hp with rfl | hp
  · exact rr
  · exact a6 p hp
theorem ev_int {n : Int} : Ev K (tC (.int n)) ρ (.int n) := fun B H0 σ τ H I Q q => q _ H (I.push fun _ => .int n)
theorem ev_bl {n : Bool} : Ev K (tC (.bl n)) ρ (.bl n) := fun B H0 σ τ H I Q q => q _ H (I.push fun _ => .bl n)
theorem ev_str {n : Str} : Ev K (tC (.str n)) ρ (.str n) := fun B H0 σ τ H I Q q => q _ H (I.push fun _ => .str n)
theorem ev_non : Ev K (tC .non) ρ .non := fun B H0 σ τ H I Q q => q _ H (I.push fun _ => .non)
theorem ev_opq {v : V} : Ev K (tC v) ρ (.opq v) := fun B H0 σ τ H I Q q => q _ H (I.push fun _ => .opq v)
theorem ev_op (ha : Ev K ta ρ d) (hb : Ev K tb ρ e) (hr : R2v K r d e f) : Ev K (tOp r ta tb) ρ f := fun B H0 σ τ H I Q q =>
  ha B H0 σ τ H I _ fun x H1 I1 => hb B H0 σ _ H1 I1 _ fun y H2 I2 => hr B H0 σ ρ τ H2 x y I2 Q q
theorem eva_nil : EvA K tNil ρ [] := fun B H0 σ τ H I Q q => q [] H rfl I
theorem eva_cons (ha : Ev K ta ρ d) (hs : EvA K ts ρ ds) : EvA K (tCons ta ts) ρ (d :: ds) := fun B H0 σ τ H I Q q =>
  ha B H0 σ τ H I _ fun x H1 I1 => hs B H0 σ _ H1 I1 _ fun vs H2 l I2 => q (x :: vs) H2 (congrArg (· + 1) l) (I2.sub fun p hp => by
    rcases List.mem_append.mp hp with hp | hp
    · rcases List.mem_cons.mp hp with rfl | hp
      · exact List.mem_append_right _ (List.mem_cons_self ..)
      · exact List.mem_append_left _ hp
    · exact List.mem_append_right _ (List.mem_cons_of_mem _ hp))
theorem zip_sub {vs : List V} {τ : List (V × D)} {B : Addr → Prop} {H0 H : Hp} {σ : St} (I : Ok K B H0 σ ρ (vs.zip ds ++ τ) H) : Ok K B H0 σ ρ τ H := I.sub fun p hp => List.mem_append_right _ hp
theorem ev_tup (hs : EvA K ts ρ ds) (hl : Nat.ble ds.length 1000 = true := by rfl) : Ev K (tTup ts) ρ (.tup ds) := fun B H0 σ τ H I Q q =>
  hs B H0 σ τ H I _ fun vs H1 l I1 => ⟨by rw [l]; exact le_sz hl, fun p hp => q _ _ ((I1.laid (d := .tup ds) hp fun H' _ hn O hO hq => .tup (del_some.mpr ⟨hO, hn⟩) (.of_zip l fun x hx => hq x (List.mem_append_left _ hx))).sub fun x hx => by
    rcases List.mem_cons.mp hx with rfl | hx
    · exact List.mem_cons_self ..
    · exact List.mem_cons_of_mem _ (List.mem_append_right _ hx))⟩
theorem ev_lst (hs : EvA K ts ρ ds) (hl : Nat.ble ds.length 1000 = true := by rfl) : Ev K (tLst ts) ρ (.lst ds) := fun B H0 σ τ H I Q q =>
  hs B H0 σ τ H I _ fun vs H1 l I1 => ⟨by rw [l]; exact le_sz hl, fun p hp => q _ _ ((I1.laid (d := .lst ds) hp fun H' _ hn O hO hq => .lst (del_some.mpr ⟨hO, hn⟩) (.of_zip l fun x hx => hq x (List.mem_append_left _ hx))).sub fun x hx => by
    rcases List.mem_cons.mp hx with rfl | hx
    · exact List.mem_cons_self ..
    · exact List.mem_cons_of_mem _ (List.mem_append_right _ hx))⟩

/-! rules upon scalars -/
theorem r2_int {g : Int → Int → V} {C : Int → Int → Prop} {a b : Int} (hc : C a b) (h : ∀ H, Rep K H (g a b) f) : R2v K (rI C g) (.int a) (.int b) f := fun B H0 σ ρ τ H x y I Q q => by
  obtain ⟨O, _, r1⟩ := I.top
  obtain ⟨O', _, r2⟩ := I.pop.top
  cases r1
  cases r2
  exact ⟨a, b, rfl, rfl, hc, q _ H (I.pop.pop.push h)⟩
theorem r2_int0 {g : Int → Int → V} {a b : Int} (h : ∀ H, Rep K H (g a b) f) : R2v K (rI0 g) (.int a) (.int b) f := fun B H0 σ ρ τ H x y I Q q => by
  obtain ⟨O, _, r1⟩ := I.top
  obtain ⟨O', _, r2⟩ := I.pop.top
  cases r1
  cases r2
  exact ⟨a, b, rfl, rfl, q _ H (I.pop.pop.push h)⟩
section
variable {a b : Int}
theorem ev_add (ha : Ev K ta ρ (.int a)) (hb : Ev K tb ρ (.int b)) : Ev K (tOp (rI0 fun i j => .int (i + j)) ta tb) ρ (.int (a + b)) := ev_op ha hb (r2_int0 fun _ => .int _)
theorem ev_sub (ha : Ev K ta ρ (.int a)) (hb : Ev K tb ρ (.int b)) : Ev K (tOp (rI0 fun i j => .int (i - j)) ta tb) ρ (.int (a - b)) := ev_op ha hb (r2_int0 fun _ => .int _)
theorem ev_mul (ha : Ev K ta ρ (.int a)) (hb : Ev K tb ρ (.int b)) (h : CMulW a b) : Ev K (tOp (rI CMulW fun i j => .int (i * j)) ta tb) ρ (.int (a * b)) := ev_op ha hb (r2_int h fun _ => .int _)
theorem ev_mod (ha : Ev K ta ρ (.int a)) (hb : Ev K tb ρ (.int b)) (h : b ≠ 0) : Ev K (tOp (rI (fun _ j => j ≠ 0) fun i j => .int (i.fmod j)) ta tb) ρ (.int (a.fmod b)) := ev_op ha hb (r2_int h fun _ => .int _)
theorem ev_lt (ha : Ev K ta ρ (.int a)) (hb : Ev K tb ρ (.int b)) : Ev K (tOp (rI0 fun i j => .bl (decide (i < j))) ta tb) ρ (.bl (decide (a < b))) := ev_op ha hb (r2_int0 fun _ => .bl _)
theorem ev_le (ha : Ev K ta ρ (.int a)) (hb : Ev K tb ρ (.int b)) : Ev K (tOp (rI0 fun i j => .bl (decide (i ≤ j))) ta tb) ρ (.bl (decide (a ≤ b))) := ev_op ha hb (r2_int0 fun _ => .bl _)
theorem ev_gt (ha : Ev K ta ρ (.int a)) (hb : Ev K tb ρ (.int b)) : Ev K (tOp (rI0 fun i j => .bl (decide (j < i))) ta tb) ρ (.bl (decide (b < a))) := ev_op ha hb (r2_int0 fun _ => .bl _)
theorem ev_ge (ha : Ev K ta ρ (.int a)) (hb : Ev K tb ρ (.int b)) : Ev K (tOp (rI0 fun i j => .bl (decide (j ≤ i))) ta tb) ρ (.bl (decide (b ≤ a))) := ev_op ha hb (r2_int0 fun _ => .bl _)
end
/-! tests -/
theorem evt_of {b : Bool} (h : Ev K te ρ (.bl b)) : EvT K (tTest te) ρ b := fun B H0 σ τ H I Q q => h B H0 σ τ H I _ fun v H1 I1 => by
  obtain ⟨O, _, rr⟩ := I1.top
  cases rr
  exact ⟨b, rfl, q H1 I1.pop⟩
theorem evt_b {b : Bool} (h : Ev K te ρ (.bl b)) : EvT K (tB te) ρ b := fun B H0 σ τ H I Q q => h B H0 σ τ H I _ fun v H1 I1 => by
  obtain ⟨O, _, rr⟩ := I1.top
  cases rr
  exact ⟨b, rfl, q H1 I1.pop⟩
theorem evt_not {b : Bool} (h : EvT K t ρ b) : EvT K (tNot t) ρ (!b) := fun B H0 σ τ H I Q q => h B H0 σ τ H I _ fun H1 I1 => q H1 I1
theorem evt_and {a b : Bool} (h : EvT K t ρ a) (h' : a = true → EvT K u ρ b) : EvT K (tAnd t u) ρ (a && b) := fun B H0 σ τ H I Q q => h B H0 σ τ H I _ fun H1 I1 => by
  cases a with
  | true => rw [if_pos rfl]; exact h' rfl B H0 σ τ H1 I1 Q q
  | false => rw [if_neg Bool.false_ne_true]; exact q H1 I1
theorem evt_or {a b : Bool} (h : EvT K t ρ a) (h' : a = false → EvT K u ρ b) : EvT K (tOr t u) ρ (a || b) := fun B H0 σ τ H I Q q => h B H0 σ τ H I _ fun H1 I1 => by
  cases a with
  | true => rw [if_pos rfl]; exact q H1 I1
  | false => rw [if_neg Bool.false_ne_true]; exact h' rfl B H0 σ τ H1 I1 Q q
theorem ev_andV {a b : Bool} (h : Ev K ta ρ (.bl a)) (h' : a = true → Ev K tb ρ (.bl b)) : Ev K (tAndV ta tb) ρ (.bl (a && b)) := fun B H0 σ τ H I Q q => h B H0 σ τ H I _ fun v H1 I1 => by
  obtain ⟨O, _, rr⟩ := I1.top
  cases rr
  refine ⟨a, rfl, ?_⟩
  cases a with
  | true => rw [if_pos rfl]; exact h' rfl B H0 σ τ H1 I1.pop Q q
  | false => rw [if_neg Bool.false_ne_true]; exact q _ H1 I1
theorem ev_orV {a b : Bool} (h : Ev K ta ρ (.bl a)) (h' : a = false → Ev K tb ρ (.bl b)) : Ev K (tOrV ta tb) ρ (.bl (a || b)) := fun B H0 σ τ H I Q q => h B H0 σ τ H I _ fun v H1 I1 => by
  obtain ⟨O, _, rr⟩ := I1.top
  cases rr
  refine ⟨a, rfl, ?_⟩
  cases a with
  | true => rw [if_pos rfl]; exact q _ H1 I1
  | false => rw [if_neg Bool.false_ne_true]; exact h' rfl B H0 σ τ H1 I1.pop Q q
theorem ev_notV {a : Bool} (h : Ev K ta ρ (.bl a)) : Ev K (tNotV ta) ρ (.bl (!a)) := fun B H0 σ τ H I Q q => h B H0 σ τ H I _ fun v H1 I1 => by
  obtain ⟨O, _, rr⟩ := I1.top
  cases rr
  exact ⟨a, rfl, q _ H1 (I1.pop.push fun _ => .bl _)⟩
theorem ev_ifE {b : Bool} (h : EvT K t ρ b) (h1 : b = true → Ev K ta ρ d) (h2 : b = false → Ev K tb ρ d) : Ev K (tIf t ta tb) ρ d := fun B H0 σ τ H I Q q => h B H0 σ τ H I _ fun H1 I1 => by
  cases b with
  | true => rw [if_pos rfl]; exact h1 rfl B H0 σ τ H1 I1 Q q
  | false => rw [if_neg Bool.false_ne_true]; exact h2 rfl B H0 σ τ H1 I1 Q q
end

/-! ### == of scalars -/
def toV : D → V
  | .non => .non | .bl b => .bl b | .int i => .int i | .str s => .str s | .opq v => v
  | _ => .non
def isS : D → Bool
  | .non => true | .bl _ => true | .int _ => true | .str _ => true | .opq _ => true
  | _ => false
theorem Rep.sc {K : PySem.W.Frag} {H : Hp} {v : V} {d : D} (r : Rep K H v d) (h : isS d = true) : v = toV d := by
  cases r <;> first | rfl | cases h
theorem Rep.of_sc {K : PySem.W.Frag} {H : Hp} {d : D} (h : isS d = true) : Rep K H (toV d) d := by
  cases d <;> first | constructor | cases h
section
variable {K : PySem.W.Frag} {ρ ρ' : List Sl} {ta tb tc te : TE} {t u : TT} {ts : TA} {d e f : D} {ds : List D} {r : R2} {i : Nat}
theorem r2_sc {r : R2} (hd : isS d = true) (he : isS e = true) (hf : isS f = true) (h : ∀ H (Q : VK), Q (toV f) H → r (toV d) (toV e) H Q) : R2v K r d e f := fun B H0 σ ρ τ H x y I Q q => by
  obtain ⟨O, _, r1⟩ := I.top
  obtain ⟨O', _, r2⟩ := I.pop.top
  rw [r1.sc he, r2.sc hd]
  exact h H Q (q _ H (I.pop.pop.push fun _ => Rep.of_sc hf))
theorem Reps.sc {H : Hp} : ∀ {vs : List V} {ds : List D}, Reps K H vs ds → ds.all isS = true → vs = ds.map toV
  | _, _, .nil, _ => rfl
  | _, _, .cons a b, h => by
    rw [List.all_cons, Bool.and_eq_true] at h
    rw [List.map_cons, a.sc h.1, b.sc h.2]
theorem Ok.reps {B : Addr → Prop} {H0 H : Hp} {σ : St} {τ : List (V × D)} {vs : List V} (hl : vs.length = ds.length) (I : Ok K B H0 σ ρ (vs.zip ds ++ τ) H) : ∃ O, Same H0 (del H (Onl O)) ∧ (∀ a, un B O a → Mu H a) ∧ Reps K (del H (un B O)) vs ds := by
  obtain ⟨l, bs, bo, O, a1, a2, a3, a4, a5, a6⟩ := I
  exact ⟨O, a1, a2, .of_zip hl fun p hp => a6 p (List.mem_append_left _ hp)⟩
theorem rc_sc {r : List V → Hp → VK → Prop} (hd : ds.all isS = true) (hf : isS f = true) (h : ∀ H (Q : VK), Q (toV f) H → r (ds.map toV) H Q) : RCv K r ds f := fun B H0 σ ρ τ H vs hl I Q q => by
  obtain ⟨O, _, _, z⟩ := I.reps hl
  rw [z.sc hd]
  exact h H Q (q _ H ((zip_sub I).push fun _ => Rep.of_sc hf))
/-- a built-in call -/
theorem ev_cb {r : List V → Hp → VK → Prop} (hs : EvA K ts ρ ds) (hr : RCv K r ds f) : Ev K (tCB r ts) ρ f := fun B H0 σ τ H I Q q =>
  hs B H0 σ τ H I _ fun vs H1 l I1 => hr B H0 σ ρ τ H1 vs l I1 Q q
theorem ev_un {r : V → Hp → VK → Prop} (ha : Ev K ta ρ d) (hd : isS d = true) (hf : isS f = true) (h : ∀ H (Q : VK), Q (toV f) H → r (toV d) H Q) : Ev K (tUn r ta) ρ f := fun B H0 σ τ H I Q q =>
  ha B H0 σ τ H I _ fun x H1 I1 => by
    obtain ⟨O, _, r1⟩ := I1.top
    rw [r1.sc hd]
    exact h H1 Q (q _ H1 (I1.pop.push fun _ => Rep.of_sc hf))
theorem r2_eq (h : scal (toV d) (toV e) = true) (hd : isS d = true) (he : isS e = true) {b : Bool} (hb : decide (toV d = toV e) = b) : R2v K rEq d e (.bl b) := r2_sc hd he rfl fun H Q q => ⟨h, by rw [hb]; exact q⟩
theorem r2_ne (h : scal (toV d) (toV e) = true) (hd : isS d = true) (he : isS e = true) {b : Bool} (hb : (!decide (toV d = toV e)) = b) : R2v K rNe d e (.bl b) := r2_sc hd he rfl fun H Q q => ⟨h, by rw [hb]; exact q⟩
theorem ev_eqI {a b : Int} (ha : Ev K ta ρ (.int a)) (hb : Ev K tb ρ (.int b)) : Ev K (tOp rEq ta tb) ρ (.bl (decide (a = b))) := ev_op ha hb (r2_eq rfl rfl rfl (by show decide (V.int a = V.int b) = _; rw [dec_int]; rfl))
theorem ev_neI {a b : Int} (ha : Ev K ta ρ (.int a)) (hb : Ev K tb ρ (.int b)) : Ev K (tOp rNe ta tb) ρ (.bl (!decide (a = b))) := ev_op ha hb (r2_ne rfl rfl rfl (by show (!decide (V.int a = V.int b)) = _; rw [dec_int]; rfl))
/-! ### subscripts -/
def ixD : D → Int → Option D
  | .lst ds, i => atI ds i
  | .tup ds, i => atI ds i
  | .rd ds, i => atI ds i
  | .str s, i => if s.length ≤ sizeLine then (atI s.cps.toList i).map fun c => .str ⟨#[c]⟩ else none
  | _, _ => none
theorem Reps.at {H : Hp} {vs : List V} {ds : List D} {i : Int} {d : D} (r : Reps K H vs ds) (h : atI ds i = some d) : ∃ v, atI vs i = some v ∧ Rep K H v d := by
  unfold atI at h ⊢
  rw [r.length]
  cases e : ixN ds.length i with
  | none => rw [e] at h; cases h
  | some j =>
    rw [e] at h
    exact r.get' h
theorem r2_ix {i : Int} (h : ixD d i = some f) : R2v K (rIx K) d (.int i) f := fun B H0 σ ρ τ H x y I Q q => by
  obtain ⟨l, bs, bo, O, a1, a2, a3, a4, a5, a6⟩ := id I
  have ry : Rep K (del H (un B O)) y (.int i) := a6 (y, .int i) (List.mem_cons_self ..)
  have rx : Rep K (del H (un B O)) x d := a6 (x, d) (List.mem_cons_of_mem _ (List.mem_cons_self ..))
  have fin : ∀ v, Rep K (del H (un B O)) v f → Q v H := fun v hv => q v H ⟨l, bs, bo, O, a1, a2, a3, a4, a5, fun p hp => by
    rcases List.mem_cons.mp hp with rfl | hp
    · exact hv
    · exact a6 p (List.mem_cons_of_mem _ (List.mem_cons_of_mem _ hp))⟩
  cases ry
  cases rx with
  | lst hh rr =>
    obtain ⟨v, e1, e2⟩ := rr.at h
    exact .inl ⟨_, _, i, v, rfl, rfl, SqL.of (del_some.mp hh).2, e1, fin v e2⟩
  | rd hh rr =>
    obtain ⟨v, e1, e2⟩ := rr.at h
    exact .inl ⟨_, _, i, v, rfl, rfl, (del_same _ _).seq hh, e1, fin v e2⟩
  | tup hh rr =>
    obtain ⟨v, e1, e2⟩ := rr.at h
    exact .inr (.inl ⟨_, _, i, v, rfl, rfl, SqT.of (del_some.mp hh).2, e1, fin v e2⟩)
  | str s =>
    simp only [ixD] at h
    split at h
    · rename_i hs
      cases ec : atI s.cps.toList i with
      | none => rw [ec] at h; cases h
      | some c =>
        rw [ec] at h
        cases h
        exact .inr (.inr ⟨s, i, c, rfl, rfl, hs, ec, fin _ (.str _)⟩)
    · cases h
  | non => cases h
  | bl => cases h
  | int => cases h
  | opq => cases h
  | ins => cases h
  | dic => cases h
  | xo0 => cases h
  | xo1 => cases h
theorem ev_ix {i : Int} (ha : Ev K ta ρ d) (hb : Ev K tb ρ (.int i)) (h : ixD d i = some f) : Ev K (tOp (rIx K) ta tb) ρ f := ev_op ha hb (r2_ix h)
/-- a field of an instance -/
theorem ev_fld {C : Addr} {gs : List (Str × D)} {n : Str} (ha : Ev K ta ρ (.ins C gs)) (hc : Cls K C) (hn : NoAttr K C n) (h : gs.lookup n = some d) : Ev K (tFld K ta n) ρ d := fun B H0 σ τ H I Q q =>
  ha B H0 σ τ H I _ fun x H1 I1 => by
    obtain ⟨l, bs, bo, O, a1, a2, a3, a4, a5, a6⟩ := id I1
    have rx := a6 (x, .ins C gs) (List.mem_cons_self ..)
    cases rx with
    | ins hh rr =>
      obtain ⟨v, e1, e2⟩ := rr.look h
      refine ⟨_, C, _, _, v, rfl, (del_some.mp hh).2, hc, hn, e1, q v H1 ⟨l, bs, bo, O, a1, a2, a3, a4, a5, fun p hp => ?_⟩⟩
      rcases List.mem_cons.mp hp with rfl | hp
      · exact e2
      · exact a6 p (List.mem_cons_of_mem _ hp)
/-! ### len, slices -/
def lenD : D → Option Int
  | .lst ds => some ds.length
  | .tup ds => some ds.length
  | .rd ds => some ds.length
  | .str s => if s.length ≤ sizeLine then some s.length else none
  | _ => none
def rLen (K : PySem.W.Frag) : List V → Hp → VK → Prop := fun xs H Q => ∃ x n, xs = [x] ∧ LenV K x H n ∧ Q (.int n) H
theorem rc_len {n : Int} (h : lenD d = some n) : RCv K (rLen K) [d] (.int n) := fun B H0 σ ρ τ H vs hl I Q q => by
  obtain ⟨O, _, _, z⟩ := I.reps hl
  have fin : Q (.int n) H := q _ H ((zip_sub I).push fun _ => .int n)
  cases z with
  | cons a b =>
    cases b
    cases a with
    | lst hh rr => cases h; exact ⟨_, _, rfl, .inl ⟨_, SqL.of (del_some.mp hh).2, rr.length.symm⟩, fin⟩
    | rd hh rr => cases h; exact ⟨_, _, rfl, .inl ⟨_, (del_same _ _).seq hh, rr.length.symm⟩, fin⟩
    | tup hh rr => cases h; exact ⟨_, _, rfl, .inr ⟨_, SqT.of (del_some.mp hh).2, rr.length.symm⟩, fin⟩
    | str s =>
      simp only [lenD] at h
      split at h
      · rename_i hs
        cases h
        exact ⟨_, _, rfl, ⟨hs, rfl⟩, fin⟩
      · cases h
    | non => cases h
    | bl => cases h
    | int => cases h
    | opq => cases h
    | ins => cases h
    | dic => cases h
    | xo0 => cases h
    | xo1 => cases h
def EvO (K : PySem.W.Frag) (to : TO) (ρ : List Sl) (o : Option Int) : Prop := ∀ (B : Addr → Prop) (H0 : Hp) (σ : St) (τ : List (V × D)) (H : Hp), Ok K B H0 σ ρ τ H → ∀ Q : Option Int → Hp → Prop, (∀ H', Ok K B H0 σ ρ τ H' → Q o H') → to σ H Q
theorem evo_none : EvO K tNoPart ρ none := fun B H0 σ τ H I Q q => q H I
theorem evo_some {n : Int} (h : Ev K te ρ (.int n)) : EvO K (tPart te) ρ (some n) := fun B H0 σ τ H I Q q => h B H0 σ τ H I _ fun v H1 I1 => by
  obtain ⟨O, _, r1⟩ := I1.top
  cases r1
  exact ⟨n, rfl, q H1 I1.pop⟩
def cutD (xs : List D) (lo hi : Option Int) : List D := (xs.drop (HT.sIx xs.length 0 lo)).take (HT.sIx xs.length xs.length hi - HT.sIx xs.length 0 lo)
theorem Reps.cut {H : Hp} {vs : List V} {ds : List D} (r : Reps K H vs ds) (lo hi : Option Int) : Reps K H (cutV vs lo hi) (cutD ds lo hi) := by
  unfold cutV cutD
  rw [r.length]
  exact (r.drop _).take _
/-- a slice of a list: a new list -/
theorem ev_slL {tl th : TO} {lo hi : Option Int} (ha : Ev K te ρ d) (hd : d = .lst ds ∨ d = .rd ds) (hl : EvO K tl ρ lo) (hh : EvO K th ρ hi) : Ev K (tSl (rSlL K) te tl th) ρ (.lst (cutD ds lo hi)) := fun B H0 σ τ H I Q q =>
  ha B H0 σ τ H I _ fun x H1 I1 => hl B H0 σ _ H1 I1 _ fun H2 I2 => hh B H0 σ _ H2 I2 _ fun H3 I3 => by
    have key : ∃ a vs, x = .ref a ∧ SqL K H3 a vs ∧ ∃ O, Reps K (del H3 (un B O)) vs ds := by
      obtain ⟨l, bs, bo, O, a1, a2, a3, a4, a5, a6⟩ := id I3
      have rx := a6 (x, d) (List.mem_cons_self ..)
      rcases hd with rfl | rfl
      · cases rx with
        | lst hh rr => exact ⟨_, _, rfl, SqL.of (del_some.mp hh).2, O, rr⟩
      · cases rx with
        | rd hh rr => exact ⟨_, _, rfl, (del_same _ _).seq hh, O, rr⟩
    have key : ∃ a vs, x = .ref a ∧ SqL K H3 a vs ∧ (∀ (p : Addr) (o : HO), H3 p = none → Ok K B H0 σ ρ (vs.zip ds ++ τ) H3 ∧ vs.length = ds.length) := by
      obtain ⟨l, bs, bo, O, a1, a2, a3, a4, a5, a6⟩ := id I3
      have rx := a6 (x, d) (List.mem_cons_self ..)
      have go : ∀ vs, Reps K (del H3 (un B O)) vs ds → Ok K B H0 σ ρ (vs.zip ds ++ τ) H3 ∧ vs.length = ds.length := fun vs rr => ⟨⟨l, bs, bo, O, a1, a2, a3, a4, a5, fun p hp => by
        rcases List.mem_append.mp hp with hp | hp
        · obtain ⟨i, hi, e⟩ := List.getElem_of_mem hp
          rw [List.length_zip] at hi
          rw [List.getElem_zip] at e
          subst e
          have h1 : i < vs.length := by omega
          have h2 : i < ds.length := by omega
          obtain ⟨y, e1, e2⟩ := rr.get (i := i) (List.getElem?_eq_getElem h1)
          rw [List.getElem?_eq_getElem h2] at e1
          cases e1
          exact e2
        · exact a6 p (List.mem_cons_of_mem _ hp)⟩, rr.length⟩
      rcases hd with rfl | rfl
      · cases rx with
        | lst hh rr => exact ⟨_, _, rfl, SqL.of (del_some.mp hh).2, fun _ _ _ => go _ rr⟩
      · cases rx with
        | rd hh rr => exact ⟨_, _, rfl, (del_same _ _).seq hh, fun _ _ _ => go _ rr⟩
    obtain ⟨a, vs, rfl, hq, go⟩ := key
    refine ⟨a, vs, rfl, hq, fun p hp => ?_⟩
    obtain ⟨J, hl⟩ := go p (.lst []) hp
    refine q _ _ ((J.laid (d := .lst (cutD ds lo hi)) hp fun H' _ hn O hO hx => .lst (del_some.mpr ⟨hO, hn⟩) (Reps.cut (.of_zip hl fun y hy => hx y (List.mem_append_left _ hy)) lo hi)).sub fun y hy => ?_)
    rcases List.mem_cons.mp hy with rfl | hy
    · exact List.mem_cons_self ..
    · exact List.mem_cons_of_mem _ (List.mem_append_right _ hy)
/-- two lists joined -/
theorem r2_cat {es : List D} (hz : ds.length + es.length ≤ sizeLine) : R2v K rCat (.lst ds) (.lst es) (.lst (ds ++ es)) := fun B H0 σ ρ τ H x y I Q q => by
  have key : ∃ a b xs zs, x = .ref a ∧ y = .ref b ∧ H a = some (.lst xs) ∧ H b = some (.lst zs) ∧ xs.length = ds.length ∧ zs.length = es.length ∧ Ok K B H0 σ ρ ((xs ++ zs).zip (ds ++ es) ++ τ) H := by
    obtain ⟨l, bs, bo, O, a1, a2, a3, a4, a5, a6⟩ := id I
    have ry := a6 (y, .lst es) (List.mem_cons_self ..)
    have rx := a6 (x, .lst ds) (List.mem_cons_of_mem _ (List.mem_cons_self ..))
    cases rx with
    | lst h1 r1 =>
      cases ry with
      | lst h2 r2 =>
        refine ⟨_, _, _, _, rfl, rfl, (del_some.mp h1).2, (del_some.mp h2).2, r1.length, r2.length, l, bs, bo, O, a1, a2, a3, a4, a5, fun p hp => ?_⟩
        rcases List.mem_append.mp hp with hp | hp
        · have rr := r1.append r2
          obtain ⟨i, hi, e⟩ := List.getElem_of_mem hp
          rw [List.length_zip] at hi
          rw [List.getElem_zip] at e
          subst e
          obtain ⟨y, e1, e2⟩ := rr.get (i := i) (List.getElem?_eq_getElem (by omega))
          rw [List.getElem?_eq_getElem (by omega)] at e1
          cases e1
          exact e2
        · exact a6 p (List.mem_cons_of_mem _ (List.mem_cons_of_mem _ hp))
  obtain ⟨a, b, xs, zs, rfl, rfl, h1, h2, e1, e2, J⟩ := key
  refine ⟨a, b, xs, zs, rfl, rfl, h1, h2, by omega, fun p hp => q _ _ ((J.laid (d := .lst (ds ++ es)) hp fun H' _ hn O hO hx => .lst (del_some.mpr ⟨hO, hn⟩) (.of_zip (by rw [List.length_append, List.length_append, e1, e2]) fun y hy => hx y (List.mem_append_left _ hy))).sub fun y hy => ?_)⟩
  rcases List.mem_cons.mp hy with rfl | hy
  · exact List.mem_cons_self ..
  · exact List.mem_cons_of_mem _ (List.mem_append_right _ hy)
end

/-! ### a def's promise, by data -/
def sp (K : PySem.W.Frag) (F : List D → D → Prop) : Sp := fun vs H Q _ => ∃ (B : Addr → Prop) (ds : List D) (d : D), (∀ a, B a → Mu H a) ∧ Reps K (del H B) vs ds ∧ F ds d ∧ ∀ v H', Same H H' → Rep K (del H' B) v d → Q v H'
theorem ev_call {K : PySem.W.Frag} {ρ : List Sl} {ts : TA} {ds : List D} {d : D} {F : List D → D → Prop} {E : XK} (hs : EvA K ts ρ ds) (hf : F ds d) : Ev K (tCall (sp K F) [] E ts) ρ d := fun B H0 σ τ H I Q q =>
  hs B H0 σ τ H I _ fun vs H1 l I1 => by
    obtain ⟨ln, bs, bo, O, a1, a2, a3, a4, a5, a6⟩ := id I1
    refine ⟨un B O, ds, d, a2, by rw [List.append_nil]; exact .of_zip l fun p hp => a6 p (List.mem_append_left _ hp), hf, fun v H' e r => q v H' ?_⟩
    refine ⟨ln, bs, bo, O, a1.trans (del_mono e), fun a q => ?_, fun i d q => ?_, fun i ds q => ?_, a5, fun p hp => ?_⟩
    · exact (a2 a q).mono e
    · obtain ⟨v, z, r⟩ := a3 i d q
      exact ⟨v, z, r.mono (del_mono e)⟩
    · obtain ⟨a, vs, z, m, x, r⟩ := a4 i ds q
      exact ⟨a, vs, z, m, e _ _ x, r.mono (del_mono e)⟩
    · rcases List.mem_cons.mp hp with rfl | hp
      · exact r
      · exact (a6 p (List.mem_append_right _ hp)).mono (del_mono e)

/-! ### statements -/
structure Fx where
  K : PySem.W.Frag
  B : Addr → Prop
  H0 : Hp
  τ : List (V × D)
def Nx (X : Fx) (P : St → Hp → Prop) (ρ : List Sl) : Prop := ∀ σ H, Ok X.K X.B X.H0 σ ρ X.τ H → P σ H
def Sw (X : Fx) (t : TS) (D : Ends) (ρ : List Sl) : Prop := Nx X (t D) ρ
def Rt (X : Fx) (Q : VK) (d : D) : Prop := ∀ v H', Same X.H0 H' → Rep X.K (del H' X.B) v d → Q v H'
section
variable {X : Fx} {ρ ρ' : List Sl} {ta tb tc te : TE} {t u : TS} {c : TT} {ts : TA} {d e f : D} {ds : List D} {r : R2} {i : Nat} {En : Ends}
theorem sw_seq (h : Sw X t { En with nx := u En } ρ) : Sw X (tSeq t u) En ρ := h
theorem sw_next (h : Nx X En.nx ρ) : Sw X tNext En ρ := h
theorem set_get {α : Type} {ρ : List α} {i j : Nat} {x y : α} (h : (ρ.set i x)[j]? = some y) : (i = j ∧ x = y ∧ i < ρ.length) ∨ (i ≠ j ∧ ρ[j]? = some y) := by
  by_cases hj : i = j
  · subst hj
    by_cases hi : i < ρ.length
    · rw [List.getElem?_set_self hi] at h
      cases h
      exact .inl ⟨rfl, rfl, hi⟩
    · rw [List.getElem?_eq_none (by rw [List.length_set]; omega)] at h
      cases h
  · rw [List.getElem?_set_ne hj] at h
    exact .inr ⟨hj, h⟩
theorem Ok.set {K : PySem.W.Frag} {B : Addr → Prop} {H0 H : Hp} {σ : St} {ρ : List Sl} {τ : List (V × D)} {v : V} {d : D} (I : Ok K B H0 σ ρ ((v, d) :: τ) H) (i : Nat) : Ok K B H0 (σ.set i (some v)) (ρ.set i (.st d)) τ H := by
  obtain ⟨l, bs, bo, O, a1, a2, a3, a4, a5, a6⟩ := I
  refine ⟨by rw [List.length_set, List.length_set, l], bs, fun j e q => ?_, O, a1, a2, fun j e q => ?_, fun j ds q => ?_, fun j k ds es a q1 q2 q3 q4 => ?_, fun p hp => a6 p (List.mem_cons_of_mem _ hp)⟩
  · rcases set_get q with ⟨_, z, _⟩ | ⟨n, q⟩
    · cases z
    · rw [List.getElem?_set_ne n]
      exact bo j e q
  · rcases set_get q with ⟨rfl, z, hi⟩ | ⟨n, q⟩
    · cases z
      exact ⟨v, by rw [List.getElem?_set_self (by omega)], a6 _ (List.mem_cons_self ..)⟩
    · rw [List.getElem?_set_ne n]
      exact a3 j e q
  · rcases set_get q with ⟨_, z, _⟩ | ⟨n, q⟩
    · cases z
    · rw [List.getElem?_set_ne n]
      exact a4 j ds q
  · rcases set_get q1 with ⟨_, z, _⟩ | ⟨n1, q1⟩
    · cases z
    · rcases set_get q2 with ⟨_, z, _⟩ | ⟨n2, q2⟩
      · cases z
      · rw [List.getElem?_set_ne n1] at q3
        rw [List.getElem?_set_ne n2] at q4
        exact a5 j k ds es a q1 q2 q3 q4
/-- a borrowed thing is put into a slot -/
theorem Ok.setB {K : PySem.W.Frag} {B : Addr → Prop} {H0 H : Hp} {σ : St} {ρ : List Sl} {τ : List (V × D)} {v : V} {d : D} (I : Ok K B H0 σ ρ τ H) (r : Rep K H0 v d) (i : Nat) : Ok K B H0 (σ.set i (some v)) (ρ.set i (.bo d)) τ H := by
  obtain ⟨l, bs, bo, O, a1, a2, a3, a4, a5, a6⟩ := I
  refine ⟨by rw [List.length_set, List.length_set, l], bs, fun j e q => ?_, O, a1, a2, fun j e q => ?_, fun j ds q => ?_, fun j k ds es a q1 q2 q3 q4 => ?_, a6⟩
  · rcases set_get q with ⟨rfl, z, hi⟩ | ⟨n, q⟩
    · cases z
      exact ⟨v, by rw [List.getElem?_set_self (by omega)], r⟩
    · rw [List.getElem?_set_ne n]
      exact bo j e q
  · rcases set_get q with ⟨_, z, _⟩ | ⟨n, q⟩
    · cases z
    · rw [List.getElem?_set_ne n]
      exact a3 j e q
  · rcases set_get q with ⟨_, z, _⟩ | ⟨n, q⟩
    · cases z
    · rw [List.getElem?_set_ne n]
      exact a4 j ds q
  · rcases set_get q1 with ⟨_, z, _⟩ | ⟨n1, q1⟩
    · cases z
    · rcases set_get q2 with ⟨_, z, _⟩ | ⟨n2, q2⟩
      · cases z
      · rw [List.getElem?_set_ne n1] at q3
        rw [List.getElem?_set_ne n2] at q4
        exact a5 j k ds es a q1 q2 q3 q4
theorem sw_set (h : Ev X.K te ρ d) (q : Nx X En.nx (ρ.set i (.st d))) : Sw X (tAsg te (gName i)) En ρ := fun σ H I =>
  h X.B X.H0 σ X.τ H I _ fun v H1 I1 => q _ _ (I1.set i)
def Agree {α : Type} (ρ ρ' : List α) (js : List Nat) : Prop := ρ'.length = ρ.length ∧ ∀ j, j ∉ js → ρ'[j]? = ρ[j]?
theorem Agree.refl {α : Type} (ρ : List α) (js : List Nat) : Agree ρ ρ js := ⟨rfl, fun _ _ => rfl⟩
theorem Agree.trans {α : Type} {ρ ρ' ρ'' : List α} {js ks : List Nat} (h : Agree ρ ρ' js) (h' : Agree ρ' ρ'' ks) : Agree ρ ρ'' (js ++ ks) := ⟨h'.1.trans h.1, fun j hj => by
  rw [h'.2 j fun z => hj (List.mem_append_right _ z), h.2 j fun z => hj (List.mem_append_left _ z)]⟩
theorem Agree.of_set {α : Type} (ρ : List α) (i : Nat) (x : α) : Agree ρ (ρ.set i x) [i] := ⟨List.length_set .., fun j hj => by
  rw [List.getElem?_set_ne]
  intro e
  exact hj (by rw [e]; exact List.mem_cons_self ..)⟩
theorem Agree.mono {α : Type} {ρ ρ' : List α} {js ks : List Nat} (h : Agree ρ ρ' js) (hs : ∀ j, j ∈ js → j ∈ ks) : Agree ρ ρ' ks := ⟨h.1, fun j hj => h.2 j fun z => hj (hs j z)⟩
/-- a thing handed on: held, or borrowed (of the entry's heap) -/
def tx (b : Bool) (x : V) (d : D) : List (V × D) := if b then [] else [(x, d)]
/-- a target that takes d -/
structure GoX (bo : Bool) (K : PySem.W.Frag) (g : TG) (d : D) (ρ ρ' : List Sl) (js : List Nat) : Prop where
  run : ∀ (B : Addr → Prop) (H0 : Hp) (σ : St) (τ : List (V × D)) (H : Hp) (v : V), Ok K B H0 σ ρ (tx bo v d ++ τ) H → (bo = true → Rep K H0 v d) → ∀ Q : St → Hp → Prop,
    (∀ σ', Ok K B H0 σ' ρ' τ H → Agree σ σ' js → Q σ' H) → g v σ H Q
  ag : Agree ρ ρ' js
abbrev Go := GoX false
structure Gos (K : PySem.W.Frag) (g : TGs) (ds : List D) (ρ ρ' : List Sl) (js : List Nat) : Prop where
  run : ∀ (B : Addr → Prop) (H0 : Hp) (σ : St) (τ : List (V × D)) (H : Hp) (vs : List V), vs.length = ds.length → Ok K B H0 σ ρ (vs.zip ds ++ τ) H → ∀ Q : St → Hp → Prop,
    (∀ σ', Ok K B H0 σ' ρ' τ H → Agree σ σ' js → Q σ' H) → g vs σ H Q
  ag : Agree ρ ρ' js
theorem go_name {K : PySem.W.Frag} : Go K (gName i) d ρ (ρ.set i (.st d)) [i] := ⟨fun B H0 σ τ H v I _ Q q => q _ (Ok.set I i) (.of_set ..), .of_set ..⟩
theorem go_nameB {K : PySem.W.Frag} : GoX true K (gName i) d ρ (ρ.set i (.bo d)) [i] := ⟨fun B H0 σ τ H v I r Q q => q _ (Ok.setB I (r rfl) i) (.of_set ..), .of_set ..⟩
theorem gos_nil {K : PySem.W.Frag} : Gos K gNil [] ρ ρ [] := ⟨fun B H0 σ τ H vs l I Q q => ⟨List.length_eq_zero_iff.mp l, q σ (zip_sub I) (.refl _ _)⟩, .refl _ _⟩
theorem gos_cons {K : PySem.W.Frag} {g : TG} {gs : TGs} {ρ1 : List Sl} {js ks : List Nat} (h : Go K g d ρ ρ1 js) (h' : Gos K gs ds ρ1 ρ' ks) : Gos K (gCons g gs) (d :: ds) ρ ρ' (js ++ ks) := ⟨fun B H0 σ τ H vs l I Q q => by
  cases vs with
  | nil => cases l
  | cons v vs => exact ⟨v, vs, rfl, h.run B H0 σ (vs.zip ds ++ τ) H v I (fun z => nomatch z) _ fun σ1 I1 k1 => h'.run B H0 σ1 τ H vs (Nat.succ.inj l) I1 _ fun σ2 I2 k2 => q σ2 I2 (k1.trans k2)⟩, h.ag.trans h'.ag⟩
theorem go_tup {K : PySem.W.Frag} {n : Nat} {gs : TGs} {js : List Nat} (hn : ds.length = n) (h : Gos K gs ds ρ ρ' js) : Go K (gTup K n gs) (.tup ds) ρ ρ' js := ⟨fun B H0 σ τ H v I _ Q q => by
  obtain ⟨l, bs, bo, O, a1, a2, a3, a4, a5, a6⟩ := id I
  have rv := a6 (v, .tup ds) (List.mem_cons_self ..)
  cases rv with
  | tup hh rr =>
    refine ⟨_, _, rfl, SqT.of (del_some.mp hh).2, by rw [rr.length, hn], h.run B H0 σ τ H _ rr.length ⟨l, bs, bo, O, a1, a2, a3, a4, a5, fun p hp => ?_⟩ Q q⟩
    rcases List.mem_append.mp hp with hp | hp
    · obtain ⟨i, hi, e⟩ := List.getElem_of_mem hp
      rw [List.length_zip] at hi
      rw [List.getElem_zip] at e
      subst e
      obtain ⟨y, e1, e2⟩ := rr.get (i := i) (List.getElem?_eq_getElem (by omega))
      rw [List.getElem?_eq_getElem (by omega)] at e1
      cases e1
      exact e2
    · exact a6 p (List.mem_cons_of_mem _ hp), h.ag⟩
theorem sw_asg {g : TG} {js : List Nat} (h : Ev X.K te ρ d) (hg : Go X.K g d ρ ρ' js) (q : Nx X En.nx ρ') : Sw X (tAsg te g) En ρ := fun σ H I =>
  h X.B X.H0 σ X.τ H I _ fun v H1 I1 => hg.run X.B X.H0 σ X.τ H1 v I1 (fun z => nomatch z) _ fun σ' I2 _ => q σ' H1 I2
theorem sw_par {i j : Nat} (h : EvA X.K ts ρ [d, e]) (q : Nx X En.nx ((ρ.set i (.st d)).set j (.st e))) : Sw X (tPar i j ts) En ρ := fun σ H I =>
  h X.B X.H0 σ X.τ H I _ fun vs H1 l I1 => by
    match vs, l with
    | [v, w], _ => exact ⟨v, w, rfl, q _ _ ((show Ok X.K X.B X.H0 σ ρ ((v, d) :: (w, e) :: X.τ) H1 from I1).set i |>.set j)⟩
theorem sw_if {b : Bool} (h : EvT X.K c ρ b) (h1 : b = true → Sw X t En ρ) (h2 : b = false → Sw X u En ρ) : Sw X (tIfS c t u) En ρ := fun σ H I =>
  h X.B X.H0 σ X.τ H I _ fun H1 I1 => by
    cases b with
    | true => rw [if_pos rfl]; exact h1 rfl σ H1 I1
    | false => rw [if_neg Bool.false_ne_true]; exact h2 rfl σ H1 I1
theorem sw_ret (h : Ev X.K te ρ d) (q : Rt X En.rt d) : Sw X (tRet te) En ρ := fun σ H I =>
  h X.B X.H0 σ X.τ H I _ fun v H1 I1 => by
    obtain ⟨O, a1, r⟩ := I1.top
    exact q v H1 (a1.trans (del_same _ _)) (r.mono (del_sub fun a ha => .inl ha))
theorem sw_drop (h : Ev X.K te ρ d) (q : Nx X En.nx ρ) : Sw X (tDrop te) En ρ := fun σ H I =>
  h X.B X.H0 σ X.τ H I _ fun v H1 I1 => q σ H1 I1.pop
theorem sw_brk (h : Nx X En.bk ρ) : Sw X tBreak En ρ := h
theorem sw_while {tb : TS} (P : Nat → List Sl → Prop) {m : Nat} (p0 : P m ρ) (turn : ∀ m ρ, P m ρ → ∃ b, EvT X.K c ρ b ∧
      (b = true → ∀ N : St → Hp → Prop, (∀ m' ρ', m' < m → P m' ρ' → Nx X N ρ') → Sw X tb { En with nx := N, ct := N, bk := En.nx } ρ) ∧ (b = false → Nx X En.nx ρ)) : Sw X (tWhile c tb) En ρ := fun σ H I => by
  refine ⟨fun m σ H => ∃ ρ, P m ρ ∧ Ok X.K X.B X.H0 σ ρ X.τ H, ⟨m, ρ, p0, I⟩, ?_⟩
  rintro m σ H ⟨ρ, p, I⟩
  obtain ⟨b, hb, h1, h2⟩ := turn m ρ p
  refine hb X.B X.H0 σ X.τ H I _ fun H1 I1 => ?_
  cases b with
  | true =>
    rw [if_pos rfl]
    refine ⟨fun σ' H' => ∃ m', m' < m ∧ ∃ ρ, P m' ρ ∧ Ok X.K X.B X.H0 σ' ρ X.τ H', fun σ' H' z => z, ?_⟩
    exact h1 rfl _ (fun m' ρ' hm p' σ' H' I' => ⟨m', hm, ρ', p', I'⟩) σ H1 I1
  | false =>
    rw [if_neg Bool.false_ne_true]
    exact h2 rfl σ H1 I1
end

/-! ### a def -/
/-- the slots at a def's entry: f tells of each argument whether it is borrowed -/
def entry (ds : List D) (n : Nat) : List Sl := ds.map Sl.st ++ List.replicate n .no
def entryB (ds : List D) (n : Nat) : List Sl := ds.map Sl.bo ++ List.replicate n .no
theorem entry_get {α : Type} {ds : List D} {n i : Nat} {g : D → Sl} {s : Sl} (h : (ds.map g ++ List.replicate n Sl.no)[i]? = some s) : s = .no ∨ ∃ d, ds[i]? = some d ∧ s = g d := by
  by_cases hi : i < ds.length
  · rw [List.getElem?_append_left (by rw [List.length_map]; exact hi), List.getElem?_map] at h
    cases e : ds[i]? with
    | none => rw [e] at h; cases h
    | some d' =>
      rw [e] at h
      cases h
      exact .inr ⟨d', rfl, rfl⟩
  · rw [List.getElem?_append_right (by rw [List.length_map]; omega), List.getElem?_replicate] at h
    split at h
    · cases h
      exact .inl rfl
    · cases h
theorem start_get {vs : List V} {N : List Str} {i : Nat} {v : V} (h : vs[i]? = some v) : (L2.start N vs)[i]? = some (some v) := by
  have hi : i < vs.length := (List.getElem?_eq_some_iff.mp h).1
  unfold L2.start
  rw [List.getElem?_append_left (by rw [List.length_map]; exact hi), List.getElem?_map, h]
  all_goals rfl
theorem un_nil (B : Addr → Prop) : un B [] = B := by
  funext a
  exact propext ⟨fun z => z.elim id fun z => (nomatch z), .inl⟩
theorem onl_nil : Onl [] = fun _ => False := by
  funext a
  exact propext ⟨fun z => (nomatch z), False.elim⟩
theorem ok_start {K : PySem.W.Frag} {B : Addr → Prop} {H : Hp} {vs : List V} {ds : List D} {N : List Str} {n : Nat} (hB : ∀ a, B a → Mu H a) (r : Reps K (del H B) vs ds) (hn : N.length = ds.length + n) :
    Ok K B H (L2.start N vs) (entry ds n) [] H := by
  have hl := r.length
  refine ⟨?_, hB, fun i d q => ?_, [], by rw [onl_nil, del_nil]; exact Same.refl _, by rw [un_nil]; exact hB, fun i d q => ?_, fun i es q => ?_, fun i j es fs a q => ?_, fun p hp => nomatch hp⟩
  · unfold L2.start entry
    rw [List.length_append, List.length_map, List.length_replicate, List.length_append, List.length_map, List.length_replicate]
    omega
  · rcases entry_get (α := Unit) q with z | ⟨d, _, z⟩ <;> cases z
  · rw [un_nil]
    rcases entry_get (α := Unit) q with z | ⟨d', e, z⟩
    · cases z
    · cases z
      obtain ⟨v, e1, e2⟩ := r.get' e
      exact ⟨v, start_get e1, e2⟩
  · exfalso
    rcases entry_get (α := Unit) q with z | ⟨d, _, z⟩ <;> cases z
  · exfalso
    rcases entry_get (α := Unit) q with z | ⟨d, _, z⟩ <;> cases z
/-- all arguments borrowed: B' are further addresses that are not to be given out -/
theorem ok_startB {K : PySem.W.Frag} {B' : Addr → Prop} {H : Hp} {vs : List V} {ds : List D} {N : List Str} {n : Nat} (hB : ∀ a, B' a → Mu H a) (r : Reps K H vs ds) (hn : N.length = ds.length + n) :
    Ok K B' H (L2.start N vs) (entryB ds n) [] H := by
  have hl := r.length
  refine ⟨?_, hB, fun i d q => ?_, [], by rw [onl_nil, del_nil]; exact Same.refl _, by rw [un_nil]; exact hB, fun i d q => ?_, fun i es q => ?_, fun i j es fs a q => ?_, fun p hp => nomatch hp⟩
  · unfold L2.start entryB
    rw [List.length_append, List.length_map, List.length_replicate, List.length_append, List.length_map, List.length_replicate]
    omega
  · rcases entry_get (α := Unit) q with z | ⟨d', e, z⟩
    · cases z
    · cases z
      obtain ⟨v, e1, e2⟩ := r.get' e
      exact ⟨v, start_get e1, e2⟩
  · rcases entry_get (α := Unit) q with z | ⟨d, _, z⟩ <;> cases z
  · exfalso
    rcases entry_get (α := Unit) q with z | ⟨d, _, z⟩ <;> cases z
  · exfalso
    rcases entry_get (α := Unit) q with z | ⟨d, _, z⟩ <;> cases z
section
variable {P : Program} {w : World} {K : PySem.W.Frag} {mg : Str → Option Value} {base : Heap}
/-- THE RULE for a def by data: n further names; body: the term, and its reading by data -/
theorem def_ok {x qual : Str} {st : Stmt} {f : Addr} {fd : FuncData} {N ps : List Str} {k n : Nat} {F : List D → D → Prop} (Fn : Fun K x qual st f fd) (S : FnScope N ps (defScope st)) (len : ∀ ds d, F ds d → ds.length = ps.length) (hn : N.length = ps.length + n)
    (hbody : ∀ (cdv : Value) (A : Around) (outer : List Env) (s : Shared) (H : Hp) (E : XK), Room k (A.deeper (PyProof.Rows.envOfC qual (defScope st) s.heap.objs.size f cdv)) →
      ∃ t, PSs (cxOf CX0 P w K mg base N qual (defScope st) f cdv A outer s H E).nox (defBody st) t ∧
        ∀ (ds : List D) (d : D), F ds d → ∀ (X : Fx) (Q : VK), X.K = K → Rt X Q d → Sw X t { nx := fun _ H' => Q .non H', rt := Q } (entry ds n)) : FnOk P w K mg base CX0 (k + 1) f fd ps (sp K F) := by
  refine Fn.ok S (fun vs H Q E h => ?_) (fun cdv A outer s H vs Q E hr h => ?_)
  · obtain ⟨B, ds, d, _, r, hf, _⟩ := h
    rw [r.length, len ds d hf]
  · obtain ⟨B, ds, d, hB, r, hf, q⟩ := h
    obtain ⟨t, ht, hw⟩ := hbody cdv A outer s H E hr
    refine ⟨t, ht, ?_⟩
    exact hw ds d hf ⟨K, B, H, []⟩ Q rfl (fun v H' e r => q v H' e r) _ _ (ok_start hB r (by rw [hn, len ds d hf]))
end
end Z

namespace Z
open PySem L2

/-! ### operators, with all the kinds that they take -/
def orR (r r' : R2) : R2 := fun x y H Q => r x y H Q ∨ r' x y H Q
theorem OpR.or {X : Cx} {f : Value → Value → Sem Value} {r r' : R2} (h : OpR X f r) (h' : OpR X f r') : OpR X f (orR r r') := by
  intro pins s σ H x y v u Q I rx ry q
  rcases q with q | q
  · exact h pins s σ H x y v u Q I rx ry q
  · exact h' pins s σ H x y v u Q I rx ry q
def rAddS : R2 := fun x y H Q => ∃ i j, x = .str i ∧ y = .str j ∧ i.length + j.length ≤ sizeLine ∧ Q (.str (i ++ j)) H
def rAddA : R2 := orR (rI0 fun i j => .int (i + j)) (orR rCat rAddS)
def rSubA : R2 := rI0 fun i j => .int (i - j)
def CDivG (i j : Int) : Prop := j ≠ 0 ∧ Builtin.divisionGoesByPylong i j = false
def rDivA : R2 := rI CDivG fun i j => .int (i.fdiv j)
def rModA : R2 := rI (fun _ j => j ≠ 0) fun i j => .int (i.fmod j)
def rMulA : R2 := orR (rI IntMulOk fun i j => .int (i * j)) rRep
def rPowA : R2 := rI CPow fun i j => .int (i ^ j.toNat)
def rEqA (K : PySem.W.Frag) : R2 := orR rEq (rEqD K)
def rNeA (K : PySem.W.Frag) : R2 := orR rNe (rNeD K)
def rLtA : R2 := rI0 fun i j => .bl (decide (i < j))
def rLeA : R2 := rI0 fun i j => .bl (decide (i ≤ j))
def rGtA : R2 := rI0 fun i j => .bl (decide (j < i))
def rGeA : R2 := rI0 fun i j => .bl (decide (j ≤ i))
def rIsN : R2 := fun x y H Q => y = .non ∧ Q (.bl (decide (x = .non))) H
def rNotN : R2 := fun x y H Q => y = .non ∧ Q (.bl (!decide (x = .non))) H
def rAbs : List V → Hp → VK → Prop := fun xs H Q => ∃ i, xs = [.int i] ∧ Q (.int (if i < 0 then -i else i)) H
def rIntB : List V → Hp → VK → Prop := fun xs H Q => (∃ i, xs = [.int i] ∧ Q (.int i) H) ∨ ∃ k, xs = [.bl k] ∧ Q (.int (if k then 1 else 0)) H
def rDivmod : List V → Hp → VK → Prop := fun xs H Q => ∃ i j, xs = [.int i, .int j] ∧ CDivP i j ∧ ∀ p, H p = none → Q (.ref p) (upd H p (.tup [.int (i / j), .int (i % j)]))
/-- isinstance of an exception that is kept as a thing -/
def rIsX (K : PySem.W.Frag) : List V → Hp → VK → Prop := fun xs H Q => ∃ (a D : Addr) (c : V) (cv : Value) (b : Bool), xs = [.ref a, c] ∧ H a = some (XO (.ref D) none a) ∧ ExcC K D ∧ (∀ u, RelV c u → u = cv) ∧ PySem.W.kitOne K (.ref D) cv = some b ∧ Q (.bl b) H
def rIsA (K : PySem.W.Frag) : List V → Hp → VK → Prop := fun xs H Q => rIsi K xs H Q ∨ rIsX K xs H Q
section
variable {X : Cx}
theorem call_isX : CallR X (.builtin "isinstance") (rIsX X.K) := by
  intro pins s σ H xs us Q I r h
  obtain ⟨a, D, c, cv, b, rfl, ha, C, hcv, e, q⟩ := h
  match us, r with
  | [u1, u2], .cons r1 (.cons r2 .nil) =>
    cases (show u1 = Value.ref a from r1)
    cases hcv _ r2
    have ok := I.hok a _ ha
    obtain ⟨⟨oe, vs, hget, hc, hd, hv⟩, _⟩ := ok
    have J : PySem.W.InstAt s.heap a oe D none := by
      obtain ⟨oc, od, oda, osl⟩ := oe
      dsimp only at hc hd hv
      subst hc hd hv
      exact ⟨hget, rfl, rfl, trivial⟩
    exact PySem.W.kia_one (PySem.W.handS_kitx_exc C.hg C.hk C.hs C.hd C.ha C.hn C.ht C.hm) I.kIn J e (fun z => nomatch z) fun tk => ⟨.bl b, H, I.tok tk, rfl, q⟩
theorem call_isA : CallR X (.builtin "isinstance") (rIsA X.K) := CallR.or call_isi call_isX
theorem op_addA : OpR X (binaryOp .Add) rAddA := OpR.or op_add (OpR.or op_cat op_add_str)
theorem op_subA : OpR X (binaryOp .Sub) rSubA := op_sub
theorem op_divA : OpR X (binaryOp .FloorDiv) rDivA := opI fun _ _ _ _ _ _ _ hc q => PyProof.Rows.floordiv_int hc.1 q (.inl hc.2)
theorem op_modA : OpR X (binaryOp .Mod) rModA := op_modN
theorem op_mulA : OpR X (binaryOp .Mult) rMulA := OpR.or (opI fun _ _ _ _ _ _ _ hc q => PyProof.Rows.mul_int q hc) op_rep
theorem op_powA : OpR X (binaryOp .Pow) rPowA := op_pow
theorem op_eqA (hu : X.A.units + 64 < cLine) : OpR X (compareOp .Eq) (rEqA X.K) := OpR.or op_eq (op_eqD hu)
theorem op_neA (hu : X.A.units + 64 < cLine) : OpR X (compareOp .NotEq) (rNeA X.K) := OpR.or op_ne (op_neD hu)
theorem op_eqB {K : PySem.W.Frag} (h : X.K = K) (hu : X.A.units + 64 < cLine) : OpR X (compareOp .Eq) (rEqA K) := h ▸ op_eqA hu
theorem op_neB {K : PySem.W.Frag} (h : X.K = K) (hu : X.A.units + 64 < cLine) : OpR X (compareOp .NotEq) (rNeA K) := h ▸ op_neA hu
theorem call_isB {K : PySem.W.Frag} (h : X.K = K) : CallR X (.builtin "isinstance") (rIsA K) := h ▸ call_isA
theorem op_ltA : OpR X (compareOp .Lt) rLtA := op_lt
theorem op_leA : OpR X (compareOp .LtE) rLeA := op_le
theorem op_gtA : OpR X (compareOp .Gt) rGtA := op_gt
theorem op_geA : OpR X (compareOp .GtE) rGeA := op_ge
theorem op_isNA : OpR X (compareOp .Is) rIsN := op_isN
theorem call_absA : CallR X (.builtin "abs") rAbs := call_abs
theorem call_lenA : CallR X (.builtin "len") (rLen X.K) := call_len
theorem call_lenB {K : PySem.W.Frag} (h : X.K = K) : CallR X (.builtin "len") (rLen K) := h ▸ call_lenA
theorem call_divmodA : CallR X (.builtin "divmod") rDivmod := call_divmodW
theorem call_intA : CallR X (.type "int") rIntB := call_int1
theorem op_notNA : OpR X (compareOp .IsNot) rNotN := op_notN
end
section
variable {K : PySem.W.Frag} {ρ ρ' : List Sl} {ta tb tc te : TE} {t u : TT} {ts : TA} {d e f : D} {ds es : List D} {r r' : R2} {i : Nat}
theorem r2_inl (h : R2v K r d e f) : R2v K (orR r r') d e f := fun B H0 σ ρ τ H x y I Q q => .inl (h B H0 σ ρ τ H x y I Q q)
theorem r2_inr (h : R2v K r' d e f) : R2v K (orR r r') d e f := fun B H0 σ ρ τ H x y I Q q => .inr (h B H0 σ ρ τ H x y I Q q)
section
variable {a b : Int} {x y : Str}
theorem z_add (ha : Ev K ta ρ (.int a)) (hb : Ev K tb ρ (.int b)) : Ev K (tOp rAddA ta tb) ρ (.int (a + b)) := ev_op ha hb (r2_inl (r2_int0 fun _ => .int _))
theorem z_cat (ha : Ev K ta ρ (.lst ds)) (hb : Ev K tb ρ (.lst es)) (hz : ds.length + es.length ≤ sizeLine) : Ev K (tOp rAddA ta tb) ρ (.lst (ds ++ es)) := ev_op ha hb (r2_inr (r2_inl (r2_cat hz)))
theorem z_adds (ha : Ev K ta ρ (.str x)) (hb : Ev K tb ρ (.str y)) (hz : x.length + y.length ≤ sizeLine) : Ev K (tOp rAddA ta tb) ρ (.str (x ++ y)) := ev_op ha hb (r2_inr (r2_inr (r2_sc rfl rfl rfl fun H Q q => ⟨x, y, rfl, rfl, hz, q⟩)))
theorem z_sub (ha : Ev K ta ρ (.int a)) (hb : Ev K tb ρ (.int b)) : Ev K (tOp rSubA ta tb) ρ (.int (a - b)) := ev_op ha hb (r2_int0 fun _ => .int _)
theorem z_mul (ha : Ev K ta ρ (.int a)) (hb : Ev K tb ρ (.int b)) (h : CMulW a b) : Ev K (tOp rMulA ta tb) ρ (.int (a * b)) := ev_op ha hb (r2_inl (r2_int h.ok fun _ => .int _))
/-- * by a short number -/
theorem z_mulS (ha : Ev K ta ρ (.int a)) (hb : Ev K tb ρ (.int b)) (h : Builtin.Int.intBits b ≤ 64) : Ev K (tOp rMulA ta tb) ρ (.int (a * b)) := ev_op ha hb (r2_inl (r2_int (IntMulOk.of_right h) fun _ => .int _))
theorem z_mod (ha : Ev K ta ρ (.int a)) (hb : Ev K tb ρ (.int b)) (h : b ≠ 0) : Ev K (tOp rModA ta tb) ρ (.int (a.fmod b)) := ev_op ha hb (r2_int h fun _ => .int _)
theorem z_modp (ha : Ev K ta ρ (.int a)) (hb : Ev K tb ρ (.int b)) (h : 0 < b) : Ev K (tOp rModA ta tb) ρ (.int (a % b)) := by
  have q := z_mod ha hb (by omega)
  rw [Int.fmod_eq_emod_of_nonneg a (by omega)] at q
  exact q
theorem z_div (ha : Ev K ta ρ (.int a)) (hb : Ev K tb ρ (.int b)) (h : CDivG a b) : Ev K (tOp rDivA ta tb) ρ (.int (a.fdiv b)) := ev_op ha hb (r2_int h fun _ => .int _)
theorem z_divp (ha : Ev K ta ρ (.int a)) (hb : Ev K tb ρ (.int b)) (h : 0 < b) (h' : Builtin.divisionGoesByPylong a b = false) : Ev K (tOp rDivA ta tb) ρ (.int (a / b)) := by
  have q := z_div ha hb ⟨by omega, h'⟩
  rw [Int.fdiv_eq_ediv_of_nonneg a (by omega)] at q
  exact q
/-- // by a written number -/
theorem z_divs (ha : Ev K ta ρ (.int a)) (hb : Ev K tb ρ (.int b)) (h : 0 < b) (h' : b < 1073741824) : Ev K (tOp rDivA ta tb) ρ (.int (a / b)) := z_divp ha hb h (PyProof.noPylong_small (by omega))
theorem z_pow (ha : Ev K ta ρ (.int a)) (hb : Ev K tb ρ (.int b)) (h : CPow a b) {c : Int} (hc : a ^ b.toNat = c) : Ev K (tOp rPowA ta tb) ρ (.int c) := by
  subst hc
  exact ev_op ha hb (r2_int h fun _ => .int _)
theorem z_lt (ha : Ev K ta ρ (.int a)) (hb : Ev K tb ρ (.int b)) : Ev K (tOp rLtA ta tb) ρ (.bl (decide (a < b))) := ev_op ha hb (r2_int0 fun _ => .bl _)
theorem z_le (ha : Ev K ta ρ (.int a)) (hb : Ev K tb ρ (.int b)) : Ev K (tOp rLeA ta tb) ρ (.bl (decide (a ≤ b))) := ev_op ha hb (r2_int0 fun _ => .bl _)
theorem z_gt (ha : Ev K ta ρ (.int a)) (hb : Ev K tb ρ (.int b)) : Ev K (tOp rGtA ta tb) ρ (.bl (decide (b < a))) := ev_op ha hb (r2_int0 fun _ => .bl _)
theorem z_ge (ha : Ev K ta ρ (.int a)) (hb : Ev K tb ρ (.int b)) : Ev K (tOp rGeA ta tb) ρ (.bl (decide (b ≤ a))) := ev_op ha hb (r2_int0 fun _ => .bl _)
theorem z_eqI (ha : Ev K ta ρ (.int a)) (hb : Ev K tb ρ (.int b)) : Ev K (tOp (rEqA K) ta tb) ρ (.bl (decide (a = b))) := ev_op ha hb (r2_inl (r2_eq rfl rfl rfl (by show decide (V.int a = V.int b) = _; rw [dec_int]; rfl)))
theorem z_neI (ha : Ev K ta ρ (.int a)) (hb : Ev K tb ρ (.int b)) : Ev K (tOp (rNeA K) ta tb) ρ (.bl (!decide (a = b))) := ev_op ha hb (r2_inl (r2_ne rfl rfl rfl (by show (!decide (V.int a = V.int b)) = _; rw [dec_int]; rfl)))
theorem z_eqS (ha : Ev K ta ρ (.str x)) (hb : Ev K tb ρ (.str y)) : Ev K (tOp (rEqA K) ta tb) ρ (.bl (decide (x = y))) := ev_op ha hb (r2_inl (r2_eq rfl rfl rfl (by show decide (V.str x = V.str y) = _; rw [Bool.eq_iff_iff]; simp)))
theorem z_neS (ha : Ev K ta ρ (.str x)) (hb : Ev K tb ρ (.str y)) : Ev K (tOp (rNeA K) ta tb) ρ (.bl (!decide (x = y))) := ev_op ha hb (r2_inl (r2_ne rfl rfl rfl (by show (!decide (V.str x = V.str y)) = _; rw [Bool.eq_iff_iff]; simp)))
theorem z_eqB {x y : Bool} (ha : Ev K ta ρ (.bl x)) (hb : Ev K tb ρ (.bl y)) : Ev K (tOp (rEqA K) ta tb) ρ (.bl (decide (x = y))) := ev_op ha hb (r2_inl (r2_eq rfl rfl rfl (by show decide (V.bl x = V.bl y) = _; rw [Bool.eq_iff_iff]; simp)))
theorem z_eqs {k : Bool} (ha : Ev K ta ρ d) (hb : Ev K tb ρ e) (hd : isS d = true) (he : isS e = true) (h : scal (toV d) (toV e) = true) (hk : decide (toV d = toV e) = k) : Ev K (tOp (rEqA K) ta tb) ρ (.bl k) := ev_op ha hb (r2_inl (r2_eq h hd he hk))
def isNon : D → Bool
  | .non => true | .opq .non => true | _ => false
theorem z_isN (ha : Ev K ta ρ d) (hb : Ev K tb ρ .non) : Ev K (tOp rIsN ta tb) ρ (.bl (isNon d)) := ev_op ha hb fun B H0 σ ρ τ H x y I Q q => by
  obtain ⟨O, _, r1⟩ := I.top
  obtain ⟨O', _, r2⟩ := I.pop.top
  cases r1
  refine ⟨rfl, ?_⟩
  have e : decide (x = V.non) = isNon d := by
    cases r2 <;> first | rfl | skip
    cases x <;> rfl
  rw [e]
  exact q _ H (I.pop.pop.push fun _ => .bl _)
theorem z_notN (ha : Ev K ta ρ d) (hb : Ev K tb ρ .non) : Ev K (tOp rNotN ta tb) ρ (.bl (!isNon d)) := ev_op ha hb fun B H0 σ ρ τ H x y I Q q => by
  obtain ⟨O, _, r1⟩ := I.top
  obtain ⟨O', _, r2⟩ := I.pop.top
  cases r1
  refine ⟨rfl, ?_⟩
  have e : decide (x = V.non) = isNon d := by
    cases r2 <;> first | rfl | skip
    cases x <;> rfl
  rw [e]
  exact q _ H (I.pop.pop.push fun _ => .bl _)
end
/-! ### == of data -/
mutual
def toP : D → PyData
  | .non => .none | .bl b => .bool b | .int i => .int i | .str s => .str s | .opq _ => .none
  | .lst ds => .list (toPs ds) | .tup ds => .tuple (toPs ds) | .rd ds => .list (toPs ds) | .ins _ _ => .none | .dic _ => .none | .xo _ _ => .none
def toPs : List D → List PyData
  | [] => []
  | d :: ds => toP d :: toPs ds
end
mutual
def isP : D → Bool
  | .non => true | .bl _ => true | .int _ => true | .str _ => true | .opq _ => false
  | .lst ds => isPs ds | .tup ds => isPs ds | .rd ds => isPs ds | .ins _ _ => false | .dic _ => false | .xo _ _ => false
def isPs : List D → Bool
  | [] => true
  | d :: ds => isP d && isPs ds
end
mutual
theorem Rep.dp {H : Hp} : ∀ {v : V} {d : D}, Rep K H v d → isP d = true → Dp K H v (toP d)
  | _, _, .non, _ => .non
  | _, _, .bl b, _ => .bl b
  | _, _, .int b, _ => .int b
  | _, _, .str b, _ => .str b
  | _, _, .opq b, h => nomatch h
  | _, _, .lst a r, h => .lst (SqL.of a) (Reps.dp r h)
  | _, _, .tup a r, h => .tup (SqT.of a) (Reps.dp r h)
  | _, _, .rd a r, h => .lst a (Reps.dp r h)
  | _, _, .ins a r, h => nomatch h
  | _, _, .dic a r, h => nomatch h
  | _, _, .xo0 n a, h => nomatch h
  | _, _, .xo1 n a b r, h => nomatch h
theorem Reps.dp {H : Hp} : ∀ {v : List V} {d : List D}, Reps K H v d → isPs d = true → DpAll K H v (toPs d)
  | _, _, .nil, _ => .nil
  | _, _, .cons a r, h => by
    have h' : (isP _ && isPs _) = true := h
    rw [Bool.and_eq_true] at h'
    exact .cons (Rep.dp a h'.1) (Reps.dp r h'.2)
end
theorem r2_eqD (hd : isP d = true) (he : isP e = true) (sd : SeqAt.shaped (toP d) = true) (se : SeqAt.shaped (toP e) = true) {b : Bool} (hb : PyData.eqv (toP d) (toP e) = b) : R2v K (rEqD K) d e (.bl b) := fun B H0 σ ρ τ H x y I Q q => by
  obtain ⟨O, _, r1⟩ := I.top
  obtain ⟨O', _, r2⟩ := I.pop.top
  exact ⟨toP d, toP e, Rep.dp (r2.mono (del_same _ _)) hd, Rep.dp (r1.mono (del_same _ _)) he, sd, se, by rw [hb]; exact q _ H (I.pop.pop.push fun _ => .bl _)⟩
theorem r2_neD (hd : isP d = true) (he : isP e = true) (sd : SeqAt.shaped (toP d) = true) (se : SeqAt.shaped (toP e) = true) {b : Bool} (hb : (!PyData.eqv (toP d) (toP e)) = b) : R2v K (rNeD K) d e (.bl b) := fun B H0 σ ρ τ H x y I Q q => by
  obtain ⟨O, _, r1⟩ := I.top
  obtain ⟨O', _, r2⟩ := I.pop.top
  exact ⟨toP d, toP e, Rep.dp (r2.mono (del_same _ _)) hd, Rep.dp (r1.mono (del_same _ _)) he, sd, se, by rw [hb]; exact q _ H (I.pop.pop.push fun _ => .bl _)⟩
theorem z_eqD {b : Bool} (ha : Ev K ta ρ d) (hb : Ev K tb ρ e) (hd : isP d = true) (he : isP e = true) (sd : SeqAt.shaped (toP d) = true) (se : SeqAt.shaped (toP e) = true) (hk : PyData.eqv (toP d) (toP e) = b) : Ev K (tOp (rEqA K) ta tb) ρ (.bl b) := ev_op ha hb (r2_inr (r2_eqD hd he sd se hk))
theorem z_neD {b : Bool} (ha : Ev K ta ρ d) (hb : Ev K tb ρ e) (hd : isP d = true) (he : isP e = true) (sd : SeqAt.shaped (toP d) = true) (se : SeqAt.shaped (toP e) = true) (hk : (!PyData.eqv (toP d) (toP e)) = b) : Ev K (tOp (rNeA K) ta tb) ρ (.bl b) := ev_op ha hb (r2_inr (r2_neD hd he sd se hk))
/-! ### built-ins -/
def tyD : D → Option String
  | .non => some "NoneType" | .bl _ => some "bool" | .int _ => some "int" | .str _ => some "str" | .lst _ => some "list" | .tup _ => some "tuple" | .dic _ => some "dict" | _ => none
theorem rc_isi {n t : String} {b : Bool} (ht : tyD d = some t) (hk : kitB t n = some b) : RCv K (rIsi K) [d, .opq (.ty n)] (.bl b) := fun B H0 σ ρ τ H vs hl I Q q => by
  obtain ⟨O, _, _, z⟩ := I.reps hl
  have fin : Q (.bl b) H := q _ H ((zip_sub I).push fun _ => .bl b)
  cases z with
  | cons r1 z =>
    cases z with
    | cons r2 z =>
      cases z
      cases r2
      rename_i x
      have key : TyX K H x (.type t) := by
        cases r1 with
        | non => cases ht; exact .base .non
        | bl b => cases ht; exact .base (.bl b)
        | int b => cases ht; exact .base (.int b)
        | str b => cases ht; exact .base (.str b)
        | lst h _ => cases ht; exact .base (.lst (del_some.mp h).2)
        | tup h _ => cases ht; exact .base (.tup (del_some.mp h).2)
        | rd => cases ht
        | opq => cases ht
        | ins => cases ht
        | dic h _ => cases ht; exact .base (.dK (del_some.mp h).2)
        | xo0 => cases ht
        | xo1 => cases ht
      exact ⟨x, .ty n, .type t, .type n, b, rfl, .ty n, key, kit_ty hk, fin⟩
theorem z_isi {n t : String} {b : Bool} (ha : Ev K ta ρ d) (ht : tyD d = some t) (hk : kitB t n = some b) : Ev K (tCB (rIsA K) (tCons ta (tCons (tC (.ty n)) tNil))) ρ (.bl b) :=
  ev_cb (eva_cons ha (eva_cons ev_opq eva_nil)) (fun B H0 σ ρ τ H vs hl I Q q => .inl (rc_isi ht hk B H0 σ ρ τ H vs hl I Q q))
theorem z_abs {a : Int} (ha : Ev K ta ρ (.int a)) : Ev K (tCB rAbs (tCons ta tNil)) ρ (.int a.natAbs) := ev_cb (eva_cons ha eva_nil) (rc_sc rfl rfl fun H Q q => ⟨a, rfl, by
  have e : (if a < 0 then -a else a) = (a.natAbs : Int) := by split <;> omega
  rw [e]
  exact q⟩)
theorem z_len {n : Int} (ha : Ev K ta ρ d) (h : lenD d = some n) : Ev K (tCB (rLen K) (tCons ta tNil)) ρ (.int n) := ev_cb (eva_cons ha eva_nil) (rc_len h)
theorem z_sorted {ns ms : List Int} (ha : Ev K ta ρ (.lst (ns.map D.int))) (hl : ns.length < 64) (hp : ms.Perm ns) (hs : ms.Pairwise (· ≤ ·)) : Ev K (tCB (rSorted K) (tCons ta tNil)) ρ (.lst (ms.map D.int)) := ev_cb (eva_cons ha eva_nil) fun B H0 σ ρ τ H vs l I Q q => by
  obtain ⟨O, _, _, z⟩ := I.reps l
  cases z with
  | cons r1 z =>
    cases z
    cases r1 with
    | lst h rr =>
      rw [rr.ints] at h
      refine ⟨_, ns, rfl, SqL.of (del_some.mp h).2, hl, fun ms' p hp' hs' hn => ?_⟩
      have e : ms' = ms := PySem.W.ksm_same (hp'.trans hp.symm) hs' hs
      subst e
      exact q _ _ ((zip_sub I).laid hn fun H' _ hh O hO _ => .lst (del_some.mpr ⟨hO, hh⟩) (Reps.of_ints _))
theorem z_divmod {a b : Int} (ha : Ev K ta ρ (.int a)) (hb : Ev K tb ρ (.int b)) (hc : CDivP a b) : Ev K (tCB rDivmod (tCons ta (tCons tb tNil))) ρ (.tup [.int (a / b), .int (a % b)]) := ev_cb (eva_cons ha (eva_cons hb eva_nil)) fun B H0 σ ρ τ H vs l I Q q => by
  obtain ⟨O, _, _, z⟩ := I.reps l
  cases z with
  | cons r1 z => cases z with
    | cons r2 z =>
      cases z
      cases r1
      cases r2
      exact ⟨a, b, rfl, hc, fun p hp => q _ _ ((zip_sub I).laid hp fun H' _ hh O hO _ => .tup (del_some.mpr ⟨hO, hh⟩) (.cons (.int _) (.cons (.int _) .nil)))⟩
end

/-! ### unpacking a tuple or a list -/
def gSeq (K : PySem.W.Frag) (n : Nat) (t : TGs) : TG := fun v σ H Q => gTup K n t v σ H Q ∨ gLst K n t v σ H Q
theorem pg_seq {X : Cx} {es : List Expr} {k : Nat} {t : TGs} {n : Nat} {pos : Pos} (hc : X.calm = true) (h : PGs X es t)
    (hn : (assignEach es X.env).length = n := by rfl) (hst : (assignEach es X.env).findIdx? (·.1) = none := by rfl) : PG X (.Tuple es k pos) (gSeq X.K n t) :=
  ⟨fun pins s σ H v u Q I r q => q.elim (fun q => (pg_tup (k := k) (pos := pos) hc h hn hst).run pins s σ H v u Q I r q) fun q => (pg_lst (k := k) (pos := pos) hc h hn hst).run pins s σ H v u Q I r q⟩
theorem go_seqT {K : PySem.W.Frag} {ρ ρ' : List Sl} {ds : List D} {n : Nat} {gs : TGs} {js : List Nat} (hn : ds.length = n) (h : Gos K gs ds ρ ρ' js) : Go K (gSeq K n gs) (.tup ds) ρ ρ' js := ⟨fun B H0 σ τ H v I z Q q => .inl ((go_tup hn h).run B H0 σ τ H v I z Q q), h.ag⟩
theorem go_seqL {K : PySem.W.Frag} {ρ ρ' : List Sl} {ds : List D} {n : Nat} {gs : TGs} {js : List Nat} (hn : ds.length = n) (h : Gos K gs ds ρ ρ' js) : Go K (gSeq K n gs) (.lst ds) ρ ρ' js := ⟨fun B H0 σ τ H v I _ Q q => by
  obtain ⟨l, bs, bo, O, a1, a2, a3, a4, a5, a6⟩ := id I
  have rv := a6 (v, .lst ds) (List.mem_cons_self ..)
  cases rv with
  | lst hh rr =>
    refine .inr ⟨_, _, rfl, SqL.of (del_some.mp hh).2, by rw [rr.length, hn], h.run B H0 σ τ H _ rr.length ⟨l, bs, bo, O, a1, a2, a3, a4, a5, fun p hp => ?_⟩ Q q⟩
    rcases List.mem_append.mp hp with hp | hp
    · obtain ⟨i, hi, e⟩ := List.getElem_of_mem hp
      rw [List.length_zip] at hi
      rw [List.getElem_zip] at e
      subst e
      obtain ⟨y, e1, e2⟩ := rr.get (i := i) (List.getElem?_eq_getElem (by omega))
      rw [List.getElem?_eq_getElem (by omega)] at e1
      cases e1
      exact e2
    · exact a6 p (List.mem_cons_of_mem _ hp), h.ag⟩

/-! ### defs that are called -/
structure Gd (P : Program) (w : World) (K : PySem.W.Frag) (mg : Str → Option Value) (base : Heap) (x : Str) (k : Nat) (ps : List Str) (F : List D → D → Prop) : Prop where
  ex : ∃ f fd, FnOk P w K mg base CX0 k f fd ps (sp K F) ∧ mg x = some (.ref f) ∧ PySem.W.keepIn K (.ref f) = true ∧ Binds K fd ps []
section
variable {X : Cx} {e : Expr} {es : List Expr} {t : TA} {x : Str} {p pos : Pos} {k j : Nat} {ps : List Str} {F : List D → D → Prop}
theorem pe_gd (G : Gd X.prog X.w X.K X.mg X.base x k ps F) (hr : Room j X.A) (hj : k ≤ j) (hg : Gl X x) (ha : PA X (e :: es) t) (hdb : (x == ("__debug__" : Str)) = false := by decide) (he : starEach (e :: es) X.env = (false, eval e X.env) :: starEach es X.env := by rfl) (hpl : (backTo pos (starEach es X.env)).any (·.1) = false := by rfl) :
    PE X (.Call (.Name x p) (e :: es) [] pos) (tCall (sp X.K F) [] E0 t) := by
  obtain ⟨f, fd, h1, h2, h3, h4⟩ := G.ex
  exact pe_call h1 (hr.mono hj) hg h2 h3 h4 .nil pass0 ha hdb he hpl
end
end Z

namespace Z
open PySem L2

section
variable {X : Fx} {K : PySem.W.Frag} {ρ ρ' : List Sl} {ta tb tc te : TE} {t u : TS} {c : TT} {ts : TA} {d e f : D} {ds es : List D} {i : Nat} {En : Ends}
theorem z_intB {b : Bool} (ha : Ev K ta ρ (.bl b)) : Ev K (tCB rIntB (tCons ta tNil)) ρ (.int (if b then 1 else 0)) := ev_cb (eva_cons ha eva_nil) (rc_sc rfl rfl fun H Q q => .inr ⟨b, rfl, q⟩)
theorem z_intI {b : Int} (ha : Ev K ta ρ (.int b)) : Ev K (tCB rIntB (tCons ta tNil)) ρ (.int b) := ev_cb (eva_cons ha eva_nil) (rc_sc rfl rfl fun H Q q => .inl ⟨b, rfl, q⟩)
theorem z_neg {b : Int} (ha : Ev K ta ρ (.int b)) : Ev K (tUn (rU fun i => .int (-i)) ta) ρ (.int (-b)) := ev_un ha rfl rfl fun H Q q => ⟨b, rfl, q⟩

/-! ### the end of a def -/
theorem nx_end {Q : VK} (h : Rt X Q .non) : Nx X (fun _ H' => Q .non H') ρ := fun σ H I => h .non H (by
  obtain ⟨l, bs, bo, O, a1, _⟩ := I
  exact a1.trans (del_same _ _)) .non
theorem sw_retN (h : Rt X En.rt .non) : Sw X tRetN En ρ := fun σ H I => h .non H (by
  obtain ⟨l, bs, bo, O, a1, _⟩ := I
  exact a1.trans (del_same _ _)) .non
/-- a block's middle: whatever way, the locals stand as ρ' -/
theorem sw_cut (ρ' : List Sl) (h1 : ∀ N : St → Hp → Prop, Nx X N ρ' → Sw X t { En with nx := N } ρ) (h2 : Sw X u En ρ') : Sw X (tSeq t u) En ρ := h1 _ h2
/-- the same, what is known of the locals a word -/
theorem sw_cutP (P : List Sl → Prop) (h1 : ∀ N : St → Hp → Prop, (∀ ρ', P ρ' → Nx X N ρ') → Sw X t { En with nx := N } ρ) (h2 : ∀ ρ', P ρ' → Sw X u En ρ') : Sw X (tSeq t u) En ρ := h1 _ h2
theorem nx_more {P : St → Hp → Prop} {τ' : List (V × D)} (h : Nx X P ρ) : Nx { X with τ := τ' ++ X.τ } P ρ := fun σ H I => h σ H (Ok.sub I fun p hp => List.mem_append_right _ hp)
theorem sw_aug {a b : Int} {g : Int → Int → Int} (hx : ρ[i]? = some (.st (.int a))) (h : Ev X.K te ρ (.int b)) (q : Nx X En.nx (ρ.set i (.st (.int (g a b))))) : Sw X (tAug i te (ipI g)) En ρ := fun σ H I => by
  obtain ⟨l, bs, bo, O, a1, a2, a3, a4, a5, a6⟩ := id I
  obtain ⟨v, z, rr⟩ := a3 i _ hx
  cases rr
  refine ⟨.int a, z, h X.B X.H0 σ X.τ H I _ fun y H1 I1 => ?_⟩
  obtain ⟨O, _, r1⟩ := I1.top
  cases r1
  exact ⟨a, b, rfl, rfl, q _ _ ((I1.pop.push (v := .int (g a b)) (d := .int (g a b)) fun _ => .int _).set i)⟩

/-! ### what is walked -/
/-- at every turn the walk gives the next thing of ds, as long as τ' is held -/
def WalksX (bo : Bool) (K : PySem.W.Frag) (Hz : Hp) (J : It) (ds : List D) (τ' : List (V × D)) : Prop := ∀ (B : Addr → Prop) (H0 : Hp) (σ : St) (ρ : List Sl) (τ : List (V × D)) (H : Hp) (i : Nat), Same Hz H0 → (∀ p, p ∈ τ' → p ∈ τ) → Ok K B H0 σ ρ τ H →
  (ds.length ≤ i → J.stop i H) ∧ ∀ d, ds[i]? = some d → J.go i H ∧ ∀ x H', J.yld i H x H' → Ok K B H0 σ ρ (tx bo x d ++ τ) H' ∧ (bo = true → Rep K H0 x d)
def EvIX (bo : Bool) (K : PySem.W.Frag) (wi : TI) (ρ : List Sl) (ds : List D) : Prop := ∀ (B : Addr → Prop) (H0 : Hp) (σ : St) (τ : List (V × D)) (H : Hp), Ok K B H0 σ ρ τ H → ∀ R : It → Hp → Prop,
  (∀ J H' τ', WalksX bo K H0 J ds τ' → Ok K B H0 σ ρ (τ' ++ τ) H' → R J H') → wi σ H R
abbrev Walks (K : PySem.W.Frag) (Hz : Hp) := WalksX false K Hz
abbrev EvI := EvIX false
theorem walks_list {Hz : Hp} {a : Addr} (hd : d = .lst ds ∨ d = .rd ds) : Walks K Hz (Itl K a) ds [(.ref a, d)] := fun B H0 σ ρ τ H i _ hm I => by
  obtain ⟨l, bs, bo, O, a1, a2, a3, a4, a5, a6⟩ := id I
  have rv : Rep K (del H (un B O)) (.ref a) d := a6 _ (hm _ (List.mem_cons_self ..))
  have key : ∃ vs, SqL K H a vs ∧ Reps K (del H (un B O)) vs ds := by
    rcases hd with rfl | rfl
    · cases rv with
      | lst hh rr => exact ⟨_, SqL.of (del_some.mp hh).2, rr⟩
    · cases rv with
      | rd hh rr => exact ⟨_, (del_same _ _).seq hh, rr⟩
  obtain ⟨vs, hq, rr⟩ := key
  refine ⟨fun hi => ⟨vs, hq, by rw [rr.length]; exact hi⟩, fun d' hd' => ?_⟩
  obtain ⟨x, e1, e2⟩ := rr.get' hd'
  refine ⟨⟨vs, x, hq, e1⟩, fun x' H' y => ?_⟩
  obtain ⟨rfl, y⟩ := y
  have e := y vs hq
  rw [e1] at e
  cases e
  refine ⟨⟨l, bs, bo, O, a1, a2, a3, a4, a5, fun p hp => ?_⟩, fun z => nomatch z⟩
  rcases List.mem_cons.mp hp with rfl | hp
  · exact e2
  · exact a6 p hp
theorem evi_list (h : Ev K te ρ d) (hd : d = .lst ds ∨ d = .rd ds) : EvI K (iList K te) ρ ds := fun B H0 σ τ H I R q => h B H0 σ τ H I _ fun x H1 I1 => by
  obtain ⟨l, bs, bo, O, a1, a2, a3, a4, a5, a6⟩ := id I1
  have rv : Rep K (del H1 (un B O)) x d := a6 _ (List.mem_cons_self ..)
  have key : ∃ a, x = .ref a ∧ ∃ vs, SqL K H1 a vs := by
    rcases hd with rfl | rfl
    · cases rv with
      | lst hh rr => exact ⟨_, rfl, _, SqL.of (del_some.mp hh).2⟩
    · cases rv with
      | rd hh rr => exact ⟨_, rfl, _, (del_same _ _).seq hh⟩
  obtain ⟨a, rfl, hx⟩ := key
  exact ⟨a, rfl, hx, q _ H1 [(.ref a, d)] (walks_list hd) I1⟩
def rangeD (lo : Int) (n : Nat) : List D := (List.range n).map fun i => .int (lo + (i : Nat))
theorem rangeD_length (lo : Int) (n : Nat) : (rangeD lo n).length = n := by unfold rangeD; rw [List.length_map, List.length_range]
theorem rangeD_get {lo : Int} {n i : Nat} {d : D} (h : (rangeD lo n)[i]? = some d) : i < n ∧ d = .int (lo + (i : Nat)) := by
  unfold rangeD at h
  rw [List.getElem?_map] at h
  by_cases hi : i < n
  · rw [List.getElem?_range hi] at h
    cases h
    exact ⟨hi, rfl⟩
  · rw [List.getElem?_eq_none (by rw [List.length_range]; omega)] at h
    cases h
theorem walks_range {Hz : Hp} {lo : Int} {n : Nat} : Walks K Hz (Itr lo n) (rangeD lo n) [] := fun B H0 σ ρ τ H i _ _ I => by
  refine ⟨fun hi => by rw [rangeD_length] at hi; exact hi, fun d hd => ?_⟩
  obtain ⟨h1, rfl⟩ := rangeD_get hd
  refine ⟨h1, fun x H' y => ?_⟩
  obtain ⟨rfl, rfl⟩ := y
  exact ⟨I.push fun _ => .int _, fun z => nomatch z⟩
theorem evi_range1 {n : Int} (h : Ev K te ρ (.int n)) (h0 : -(2 ^ 62) ≤ n) (h1 : n < 2 ^ 62) : EvI K (iRng1 (tCons te tNil)) ρ (rangeD 0 n.toNat) := fun B H0 σ τ H I R q =>
  eva_cons h eva_nil B H0 σ τ H I _ fun vs H1 l I1 => by
    obtain ⟨O, _, _, z⟩ := I1.reps l
    cases z with
    | cons r1 z =>
      cases z
      cases r1
      exact ⟨n, rfl, h0, h1, q _ H1 [] walks_range (zip_sub I1)⟩
theorem evi_range2 {m n : Int} (h : Ev K te ρ (.int m)) (h' : Ev K ta ρ (.int n)) (h0 : -(2 ^ 62) ≤ m) (h1 : m < 2 ^ 62) (h2 : -(2 ^ 62) ≤ n) (h3 : n < 2 ^ 62) : EvI K (iRng2 (tCons te (tCons ta tNil))) ρ (rangeD m (n - m).toNat) := fun B H0 σ τ H I R q =>
  eva_cons h (eva_cons h' eva_nil) B H0 σ τ H I _ fun vs H1 l I1 => by
    obtain ⟨O, _, _, z⟩ := I1.reps l
    cases z with
    | cons r1 z => cases z with
      | cons r2 z =>
        cases z
        cases r1
        cases r2
        exact ⟨m, n, rfl, ⟨h0, h1, h2, h3⟩, q _ H1 [] walks_range (zip_sub I1)⟩
theorem walks_zip {Hz : Hp} {a b : Addr} {d e : D} {ds es : List D} (hd : d = .lst ds ∨ d = .rd ds) (he : e = .lst es ∨ e = .rd es) : Walks K Hz (Itz K a b) ((ds.zip es).map fun p => .tup [p.1, p.2]) [(.ref a, d), (.ref b, e)] := fun B H0 σ ρ τ H i _ hm I => by
  obtain ⟨l, bs, bo, O, a1, a2, a3, a4, a5, a6⟩ := id I
  have get : ∀ (a : Addr) (d : D) (ds : List D), (d = .lst ds ∨ d = .rd ds) → Rep K (del H (un B O)) (.ref a) d → ∃ vs, SqL K H a vs ∧ Reps K (del H (un B O)) vs ds := fun a d ds hd rv => by
    rcases hd with rfl | rfl
    · cases rv with
      | lst hh rr => exact ⟨_, SqL.of (del_some.mp hh).2, rr⟩
    · cases rv with
      | rd hh rr => exact ⟨_, (del_same _ _).seq hh, rr⟩
  obtain ⟨vs, hq, rr⟩ := get a d ds hd (a6 _ (hm _ (List.mem_cons_self ..)))
  obtain ⟨ws, hq', rr'⟩ := get b e es he (a6 _ (hm _ (List.mem_cons_of_mem _ (List.mem_cons_self ..))))
  refine ⟨fun hi => ⟨vs, ws, hq, hq', ?_⟩, fun y hy => ?_⟩
  · rw [List.length_map, List.length_zip] at hi
    rw [rr.length, rr'.length]
    omega
  · rw [List.getElem?_map] at hy
    cases ez : (ds.zip es)[i]? with
    | none => rw [ez] at hy; cases hy
    | some p =>
      rw [ez] at hy
      cases hy
      obtain ⟨e1, e2⟩ := List.getElem?_zip_eq_some.mp ez
      obtain ⟨x, f1, f2⟩ := rr.get' e1
      obtain ⟨x', g1, g2⟩ := rr'.get' e2
      refine ⟨⟨vs, ws, x, x', hq, hq', f1, g1⟩, fun v H' y => ?_⟩
      obtain ⟨T, y1, y2, rfl, hT, rfl, q1, q2⟩ := y
      have k1 := q1 vs hq
      have k2 := q2 ws hq'
      rw [f1] at k1
      rw [g1] at k2
      cases k1
      cases k2
      have J : Ok K B H0 σ ρ ((x, p.1) :: (x', p.2) :: τ) H := ⟨l, bs, bo, O, a1, a2, a3, a4, a5, fun p hp => by
        rcases List.mem_cons.mp hp with rfl | hp
        · exact f2
        · rcases List.mem_cons.mp hp with rfl | hp
          · exact g2
          · exact a6 p hp⟩
      refine ⟨(J.laid (d := .tup [p.1, p.2]) hT fun H' _ hh O hO hx => .tup (del_some.mpr ⟨hO, hh⟩) (.cons (hx _ (List.mem_cons_self ..)) (.cons (hx _ (List.mem_cons_of_mem _ (List.mem_cons_self ..))) .nil))).sub fun y hy => ?_, fun z => nomatch z⟩
      rcases List.mem_cons.mp hy with rfl | hy
      · exact List.mem_cons_self ..
      · exact List.mem_cons_of_mem _ (List.mem_cons_of_mem _ (List.mem_cons_of_mem _ hy))
theorem evi_zip {d e : D} {ds es : List D} (h : Ev K ta ρ d) (h' : Ev K tb ρ e) (hd : d = .lst ds ∨ d = .rd ds) (he : e = .lst es ∨ e = .rd es) : EvI K (iZip K (tCons ta (tCons tb tNil))) ρ ((ds.zip es).map fun p => .tup [p.1, p.2]) := fun B H0 σ τ H I R q =>
  eva_cons h (eva_cons h' eva_nil) B H0 σ τ H I _ fun vs H1 l I1 => by
    obtain ⟨O, _, _, z⟩ := I1.reps l
    have get : ∀ (x : V) (d : D) (ds : List D), (d = .lst ds ∨ d = .rd ds) → Rep K (del H1 (un B O)) x d → ∃ a vs, x = .ref a ∧ SqL K H1 a vs := fun a d ds hd rv => by
      rcases hd with rfl | rfl
      · cases rv with
        | lst hh rr => exact ⟨_, _, rfl, SqL.of (del_some.mp hh).2⟩
      · cases rv with
        | rd hh rr => exact ⟨_, _, rfl, (del_same _ _).seq hh⟩
    cases z with
    | cons r1 z => cases z with
      | cons r2 z =>
        cases z
        obtain ⟨a, xs, rfl, hx⟩ := get _ d ds hd r1
        obtain ⟨b, ys, rfl, hy⟩ := get _ e es he r2
        exact ⟨a, b, xs, ys, rfl, hx, hy, q _ H1 [(.ref a, d), (.ref b, e)] (walks_zip hd he) I1⟩
/-- a for loop -/
theorem sw_for {bo : Bool} {wi : TI} {g : TG} {tb : TS} (h : EvIX bo X.K wi ρ ds) (P : Nat → List Sl → Prop) (p0 : P 0 ρ)
    (turn : ∀ (τ' : List (V × D)) (i : Nat) (d : D) (ρ1 : List Sl), ds[i]? = some d → P i ρ1 → ∃ ρ2 js, GoX bo X.K g d ρ1 ρ2 js ∧ ∀ N : St → Hp → Prop, (∀ ρ3, P (i + 1) ρ3 → Nx { X with τ := τ' ++ X.τ } N ρ3) → Sw { X with τ := τ' ++ X.τ } tb { En with nx := N, ct := N, bk := En.nx } ρ2)
    (done : ∀ ρ1, P ds.length ρ1 → Nx X En.nx ρ1) : Sw X (tFor wi g tb) En ρ := fun σ H I => h X.B X.H0 σ X.τ H I _ fun J H1 τ' hw I1 => by
  refine ⟨fun i m σ H => m = ds.length - i ∧ i ≤ ds.length ∧ ∃ ρ1, P i ρ1 ∧ Ok X.K X.B X.H0 σ ρ1 (τ' ++ X.τ) H, ⟨_, rfl, Nat.zero_le _, ρ, p0, I1⟩, ?_⟩
  rintro i m σ H ⟨rfl, hi, ρ1, p1, I⟩
  obtain ⟨w1, w2⟩ := hw _ _ σ ρ1 _ H i (Same.refl _) (fun p hp => List.mem_append_left _ hp) I
  by_cases hlt : i < ds.length
  · obtain ⟨go, y⟩ := w2 ds[i] (List.getElem?_eq_getElem hlt)
    obtain ⟨ρ2, js, hg, hb⟩ := turn τ' i ds[i] ρ1 (List.getElem?_eq_getElem hlt) p1
    refine .inr ⟨go, fun σ' H' => ∃ ρ3, P (i + 1) ρ3 ∧ Ok X.K X.B X.H0 σ' ρ3 (τ' ++ X.τ) H', fun σ' H' ⟨ρ3, p3, I3⟩ => ⟨_, by omega, rfl, hlt, ρ3, p3, I3⟩, fun x H' hy => ?_⟩
    refine hg.run _ _ σ _ H' x (y x H' hy).1 (y x H' hy).2 _ fun σ2 I2 _ => ?_
    exact hb _ (fun ρ3 p3 σ' H' I' => ⟨ρ3, p3, I'⟩) σ2 H' I2
  · have e : i = ds.length := by omega
    subst e
    exact .inl ⟨w1 (Nat.le_refl _), done ρ1 p1 σ H (Ok.sub I fun p hp => List.mem_append_right _ hp)⟩
end

/-! ### new lists -/
/-- a list just made: nobody else has it -/
def EvN (K : PySem.W.Frag) (te : TE) (ρ : List Sl) (ds : List D) : Prop := ∀ (B : Addr → Prop) (H0 : Hp) (σ : St) (τ : List (V × D)) (H : Hp), Ok K B H0 σ ρ τ H → ∀ Q : VK,
  (∀ p vs Hb H', Same H0 Hb → H0 p = none → Hb p = some (.lst vs) → vs.length = ds.length → Ok K (ons p B) Hb σ ρ (vs.zip ds ++ τ) H' → Q (.ref p) H') → te σ H Q
section
variable {X : Fx} {K : PySem.W.Frag} {ρ ρ' : List Sl} {ta tb tc te : TE} {t u : TS} {c : TT} {ts : TA} {d e f : D} {ds es : List D} {i : Nat} {En : Ends} {B : Addr → Prop} {H0 Hb H : Hp} {σ : St} {τ : List (V × D)} {p : Addr} {vs : List V}
/-- .. given to everybody -/
theorem Ok.share (h0 : Same H0 Hb) (hbo : ∀ (i : Nat) (d : D), ρ[i]? = some (.bo d) → ∃ v, σ[i]? = some (some v) ∧ Rep K H0 v d) (hb : ∀ a, B a → Mu H0 a) (hn : H0 p = none) (hp : Hb p = some (.lst vs)) (hl : vs.length = ds.length) (I : Ok K (ons p B) Hb σ ρ (vs.zip ds ++ τ) H) : Ok K B H0 σ ρ ((.ref p, .lst ds) :: τ) H := by
  obtain ⟨l, bs, bo, O, a1, a2, a3, a4, a5, a6⟩ := I
  have hpO := a1 p _ hp
  obtain ⟨hpO, hpH⟩ := del_some.mp hpO
  have hpB : ¬ B p := fun z => by
    obtain ⟨o, e, _⟩ := hb p z
    rw [hn] at e
    cases e
  have mm : Same (del H (un (ons p B) O)) (del H (un B O)) := del_sub fun a ha => by
    rcases ha with ha | ha
    · exact .inl (.inr ha)
    · exact .inr ha
  refine ⟨l, hb, hbo, O, h0.trans a1, fun a ha => a2 a (by
    rcases ha with ha | ha
    · exact .inl (.inr ha)
    · exact .inr ha), fun i d q => ?_, fun i ds q => ?_, a5, fun x hx => ?_⟩
  · obtain ⟨v, z, r⟩ := a3 i d q
    exact ⟨v, z, r.mono mm⟩
  · obtain ⟨a, vs, z, m, x, r⟩ := a4 i ds q
    exact ⟨a, vs, z, m, x, r.mono mm⟩
  · rcases List.mem_cons.mp hx with rfl | hx
    · refine .lst (del_some.mpr ⟨fun z => ?_, hpH⟩) ((Reps.of_zip hl fun y hy => a6 y (List.mem_append_left _ hy)).mono mm)
      rcases z with z | z
      · exact hpB z
      · exact hpO z
    · exact (a6 x (List.mem_append_right _ hx)).mono mm
theorem EvN.ev (h : EvN K te ρ ds) : Ev K te ρ (.lst ds) := fun B H0 σ τ H I Q q => h B H0 σ τ H I Q fun p vs Hb H' h0 hn hp hl I' => q _ H' (I'.share h0 I.bo I.bs hn hp hl)
/-- .. put into a slot, to be filled -/
theorem sw_own (h : EvN X.K te ρ ds) (q : Nx X En.nx (ρ.set i (.ow ds))) : Sw X (tAsg te (gName i)) En ρ := fun σ H I => h X.B X.H0 σ X.τ H I _ fun p vs Hb H' h0 hn hp hl I' => by
  refine q _ H' ?_
  obtain ⟨l, bs, bo, O, a1, a2, a3, a4, a5, a6⟩ := I'
  obtain ⟨hpO, hpH⟩ := del_some.mp (a1 p _ hp)
  have hpB : ¬ X.B p := fun z => by
    obtain ⟨o, e, _⟩ := I.bs p z
    rw [hn] at e
    cases e
  have ee : un X.B (p :: O) = un (ons p X.B) O := by
    funext b
    apply propext
    constructor
    · rintro (h | h)
      · exact .inl (.inr h)
      · rcases List.mem_cons.mp h with h | h
        · exact .inl (.inl h)
        · exact .inr h
    · rintro ((h | h) | h)
      · exact .inr (by rw [h]; exact List.mem_cons_self ..)
      · exact .inl h
      · exact .inr (List.mem_cons_of_mem _ h)
  refine ⟨by rw [List.length_set, List.length_set, l], I.bs, fun j d q => ?_, p :: O, fun b o e => ?_, fun a ha => a2 a (by rw [ee] at ha; exact ha), fun j d q => ?_, fun j ds' q => ?_, fun j k ds' es' a q1 q2 q3 q4 => ?_, fun x hx => ?_⟩
  · rcases set_get q with ⟨_, z, _⟩ | ⟨n, q⟩
    · cases z
    · rw [List.getElem?_set_ne n]
      exact I.bo j d q
  · obtain ⟨z1, z2⟩ := del_some.mp (a1 b o (h0 b o e))
    refine del_some.mpr ⟨fun z => ?_, z2⟩
    rcases List.mem_cons.mp z with rfl | z
    · rw [hn] at e
      cases e
    · exact z1 z
  · rw [ee]
    rcases set_get q with ⟨_, z, _⟩ | ⟨n, q⟩
    · cases z
    · rw [List.getElem?_set_ne n]
      exact a3 j d q
  · rw [ee]
    rcases set_get q with ⟨rfl, z, hi⟩ | ⟨n, q⟩
    · cases z
      exact ⟨p, vs, by rw [List.getElem?_set_self (by omega)], List.mem_cons_self .., hpH, .of_zip hl fun y hy => a6 y (List.mem_append_left _ hy)⟩
    · rw [List.getElem?_set_ne n]
      obtain ⟨a, vs, z, m, x, r⟩ := a4 j ds' q
      exact ⟨a, vs, z, List.mem_cons_of_mem _ m, x, r⟩
  · have cases1 : ∀ (j : Nat) (ds' : List D), (ρ.set i (.ow ds))[j]? = some (.ow ds') → (σ.set i (some (.ref p)))[j]? = some (some (.ref a)) → (i = j ∧ a = p) ∨ (i ≠ j ∧ a ≠ p ∧ ρ[j]? = some (.ow ds') ∧ σ[j]? = some (some (.ref a))) := fun j ds' q q' => by
      rcases set_get q with ⟨rfl, z, hi⟩ | ⟨hj, q⟩
      · rw [List.getElem?_set_self (by omega)] at q'
        cases q'
        exact .inl ⟨rfl, rfl⟩
      · rw [List.getElem?_set_ne hj] at q'
        refine .inr ⟨hj, fun z => ?_, q, q'⟩
        subst z
        obtain ⟨a', vs', z, m, _⟩ := a4 j ds' q
        rw [q'] at z
        cases z
        exact hpO m
    rcases cases1 j ds' q1 q3 with ⟨h1, h2⟩ | ⟨h1, h2, h3, h4⟩
    · rcases cases1 k es' q2 q4 with ⟨k1, k2⟩ | ⟨k1, k2, k3, k4⟩
      · omega
      · exact absurd h2 k2
    · rcases cases1 k es' q2 q4 with ⟨k1, k2⟩ | ⟨k1, k2, k3, k4⟩
      · exact absurd k2 h2
      · exact a5 j k ds' es' a h3 k3 h4 k4
  · rw [ee]
    exact a6 x (List.mem_append_right _ hx)
/-- an object just laid, nobody has it yet -/
theorem Ok.newAt (I : Ok K B H0 σ ρ τ H) (hp : H p = none) (o : HO) (hm : isMut o = true) : Ok K (ons p B) (upd H0 p o) σ ρ τ (upd H p o) := by
  obtain ⟨ln, bs, bo, O, a1, a2, a3, a4, a5, a6⟩ := I
  have nin : ¬ un B O p := fun z => by
    obtain ⟨o, e, _⟩ := a2 p z
    rw [hp] at e
    cases e
  have hn : H0 p = none := (a1.trans (del_same _ _)).free hp
  have ee : Same (del H (un B O)) (del (upd H p o) (un (ons p B) O)) := fun b u e => by
    obtain ⟨z1, z2⟩ := del_some.mp e
    have hb : b ≠ p := ne_of_none z2 hp
    refine del_some.mpr ⟨fun z => ?_, by rw [upd_ne hb]; exact z2⟩
    rcases z with (z | z) | z
    · exact hb z
    · exact z1 (.inl z)
    · exact z1 (.inr z)
  refine ⟨ln, fun a ha => ?_, fun i d h => ?_, O, fun b u e => ?_, fun a ha => ?_, fun i d h => ?_, fun j ds' h => ?_, a5, fun x hx => (a6 x hx).mono ee⟩
  · rcases ha with rfl | ha
    · exact ⟨_, upd_same, hm⟩
    · exact (bs a ha).mono (same_upd _ hn)
  · obtain ⟨v, z, r⟩ := bo i d h
    exact ⟨v, z, r.mono (same_upd _ hn)⟩
  · by_cases hb : b = p
    · subst hb
      rw [upd_same] at e
      cases e
      exact del_some.mpr ⟨fun z => nin (.inr z), upd_same⟩
    · rw [upd_ne hb] at e
      obtain ⟨z1, z2⟩ := del_some.mp (a1 b u e)
      exact del_some.mpr ⟨z1, by rw [upd_ne hb]; exact z2⟩
  · by_cases hb : a = p
    · subst hb
      exact ⟨_, upd_same, hm⟩
    · exact (a2 a (by
        rcases ha with (ha | ha) | ha
        · exact absurd ha hb
        · exact .inl ha
        · exact .inr ha)).mono (same_upd _ hp)
  · obtain ⟨v, z, r⟩ := a3 i d h
    exact ⟨v, z, r.mono ee⟩
  · obtain ⟨a, vs', z, m, x, r⟩ := a4 j ds' h
    exact ⟨a, vs', z, m, same_upd _ hp _ _ x, r.mono ee⟩
theorem evn_lst (hs : EvA K ts ρ ds) (hl : Nat.ble ds.length 1000 = true := by rfl) : EvN K (tLst ts) ρ ds := fun B H0 σ τ H I Q q => hs B H0 σ τ H I _ fun vs H1 l I1 => ⟨by rw [l]; exact le_sz hl, fun p hp => by
  have hn : H0 p = none := by
    obtain ⟨ln, bs, bo, O, a1, a2, a3, a4, a5, a6⟩ := I1
    exact (a1.trans (del_same _ _)).free hp
  exact q p vs (upd H0 p (.lst vs)) _ (same_upd _ hn) hn upd_same l (I1.newAt hp _ rfl)⟩
/-! ### lists of the def's own -/
theorem Ok.own {ds : List D} (I : Ok K B H0 σ ρ τ H) (h : ρ[i]? = some (.ow ds)) : ∃ a vs, σ[i]? = some (some (.ref a)) ∧ H a = some (.lst vs) ∧ vs.length = ds.length ∧ Ok K B H0 σ ρ (vs.zip ds ++ τ) H := by
  obtain ⟨l, bs, bo, O, a1, a2, a3, a4, a5, a6⟩ := I
  obtain ⟨a, vs, z, m, x, r⟩ := a4 i ds h
  refine ⟨a, vs, z, x, r.length, l, bs, bo, O, a1, a2, a3, a4, a5, fun p hp => ?_⟩
  rcases List.mem_append.mp hp with hp | hp
  · obtain ⟨j, hj, e⟩ := List.getElem_of_mem hp
    rw [List.length_zip] at hj
    rw [List.getElem_zip] at e
    subst e
    obtain ⟨y, e1, e2⟩ := r.get (i := j) (List.getElem?_eq_getElem (by omega))
    rw [List.getElem?_eq_getElem (by omega)] at e1
    cases e1
    exact e2
  · exact a6 p hp
/-- the list in the slot is written anew -/
theorem Ok.put {ds es : List D} {ws : List V} {a : Addr} (I : Ok K B H0 σ ρ (ws.zip es ++ τ) H) (h : ρ[i]? = some (.ow ds)) (ha : σ[i]? = some (some (.ref a))) (hl : ws.length = es.length) : Ok K B H0 σ (ρ.set i (.ow es)) τ (upd H a (.lst ws)) := by
  obtain ⟨l, bs, bo, O, a1, a2, a3, a4, a5, a6⟩ := I
  obtain ⟨a', vs, z, m, x, r⟩ := a4 i ds h
  rw [ha] at z
  cases z
  have e1 : del (upd H a (.lst ws)) (Onl O) = del H (Onl O) := del_upd m
  have e2 : del (upd H a (.lst ws)) (un B O) = del H (un B O) := del_upd (.inr m)
  refine ⟨by rw [List.length_set, l], bs, fun j d q => ?_, O, by rw [e1]; exact a1, fun b hb => ?_, fun j d q => ?_, fun j ds' q => ?_, fun j k ds' es' b q1 q2 q3 q4 => ?_, fun p hp => by rw [e2]; exact a6 p (List.mem_append_right _ hp)⟩
  · rcases set_get q with ⟨_, z, _⟩ | ⟨n, q⟩
    · cases z
    · exact bo j d q
  · by_cases hba : b = a
    · subst hba
      exact ⟨_, upd_same, rfl⟩
    · obtain ⟨o, q, m⟩ := a2 b hb
      exact ⟨o, by rw [upd_ne hba]; exact q, m⟩
  · rcases set_get q with ⟨_, z, _⟩ | ⟨n, q⟩
    · cases z
    · rw [e2]
      exact a3 j d q
  · rw [e2]
    rcases set_get q with ⟨rfl, z, hi⟩ | ⟨hj, q⟩
    · cases z
      exact ⟨a, ws, ha, m, upd_same, .of_zip hl fun y hy => a6 y (List.mem_append_left _ hy)⟩
    · obtain ⟨b, vs', z, m', x', r'⟩ := a4 j ds' q
      have hba : b ≠ a := fun e => by
        subst e
        exact hj (a5 i j ds ds' b h q ha z)
      exact ⟨b, vs', z, m', by rw [upd_ne hba]; exact x', r'⟩
  · have back : ∀ (j : Nat) (ds' : List D), (ρ.set i (.ow es))[j]? = some (.ow ds') → ∃ ds'', ρ[j]? = some (.ow ds'') := fun j ds' q => by
      rcases set_get q with ⟨rfl, z, hi⟩ | ⟨hj, q⟩
      · exact ⟨ds, h⟩
      · exact ⟨_, q⟩
    obtain ⟨d1, z1⟩ := back j ds' q1
    obtain ⟨d2, z2⟩ := back k es' q2
    exact a5 j k d1 d2 b z1 z2 q3 q4
/-- found.append(e) -/
theorem sw_app (h : ρ[i]? = some (.ow ds)) (he : Ev X.K te ρ d) (hz : ds.length < sizeLine) (q : Nx X En.nx (ρ.set i (.ow (ds ++ [d])))) : Sw X (tDrop (tBM X.K "list" rAppend (tVar i) (tCons te tNil))) En ρ := fun σ H I => by
  obtain ⟨a, vs, ha, hH, hl, I1⟩ := I.own h
  refine ⟨.ref a, ha, .inl ⟨rfl, _, SqL.of hH⟩, eva_cons he eva_nil X.B X.H0 σ X.τ H I _ fun ws H2 l I2 => ?_⟩
  obtain ⟨a', vs', ha', hH', hl', I3⟩ := I2.own h
  rw [ha] at ha'
  cases ha'
  match ws, l with
  | [y], _ =>
    refine ⟨a, vs', y, rfl, rfl, hH', by rw [hl']; exact hz, q σ _ (Ok.put (ws := vs' ++ [y]) (es := ds ++ [d]) (ds := ds) ?_ h ha (by rw [List.length_append, List.length_append, hl']; rfl))⟩
    refine I3.sub fun p hp => ?_
    rw [List.zip_append hl'] at hp
    rcases List.mem_append.mp hp with hp | hp
    · rcases List.mem_append.mp hp with hp | hp
      · exact List.mem_append_left _ hp
      · exact List.mem_append_right _ (List.mem_append_left _ hp)
    · exact List.mem_append_right _ (List.mem_append_right _ hp)
/-- found[k] = e -/
theorem sw_put {k : Int} {j : Nat} (h : ρ[i]? = some (.ow ds)) (he : Ev X.K te ρ d) (hk : Ev X.K ta ρ (.int k)) (hj : ixN ds.length k = some j) (q : Nx X En.nx (ρ.set i (.ow (ds.set j d)))) : Sw X (tAsg te (gSub (tVar i) ta rSetL)) En ρ := fun σ H I =>
  he X.B X.H0 σ X.τ H I _ fun v H1 I1 => by
    obtain ⟨a, vs, ha, hH, hl, _⟩ := I1.own h
    refine ⟨.ref a, ha, hk X.B X.H0 σ _ H1 I1 _ fun w H2 I2 => ?_⟩
    obtain ⟨a', vs', ha', hH', hl', I3⟩ := I2.own h
    rw [ha] at ha'
    cases ha'
    obtain ⟨O, _, r1⟩ := I2.top
    cases r1
    refine ⟨a, vs', k, j, rfl, rfl, hH', by rw [hl']; exact hj, q σ _ (Ok.put (ws := vs'.set j v) (es := ds.set j d) (ds := ds) ?_ h ha (by rw [List.length_set, List.length_set, hl']))⟩
    obtain ⟨l, bs, bo, O, a1, a2, a3, a4, a5, a6⟩ := I3
    refine ⟨l, bs, bo, O, a1, a2, a3, a4, a5, fun p hp => ?_⟩
    have rr : Reps X.K (del H2 (un X.B O)) (vs'.set j v) (ds.set j d) := (Reps.of_zip hl' fun y hy => a6 y (List.mem_append_left _ hy)).set j (a6 (v, d) (List.mem_append_right _ (List.mem_cons_of_mem _ (List.mem_cons_self ..))))
    rcases List.mem_append.mp hp with hp | hp
    · obtain ⟨j, hj, e⟩ := List.getElem_of_mem hp
      rw [List.length_zip] at hj
      rw [List.getElem_zip] at e
      subst e
      obtain ⟨y, e1, e2⟩ := rr.get (i := j) (List.getElem?_eq_getElem (by omega))
      rw [List.getElem?_eq_getElem (by omega)] at e1
      cases e1
      exact e2
    · exact a6 p (List.mem_append_right _ (List.mem_cons_of_mem _ (List.mem_cons_of_mem _ hp)))
/-- an own list is own no more -/
theorem Ok.freeze {ds : List D} (I : Ok K B H0 σ ρ τ H) (h : ρ[i]? = some (.ow ds)) : Ok K B H0 σ (ρ.set i (.st (.lst ds))) τ H := by
  obtain ⟨l, bs, bo, O, a1, a2, a3, a4, a5, a6⟩ := I
  obtain ⟨a, vs, z, m, x, r⟩ := a4 i ds h
  have hi : i < ρ.length := by
    rcases Nat.lt_or_ge i ρ.length with z | z
    · exact z
    · rw [List.getElem?_eq_none z] at h
      cases h
  have haB : ¬ B a := fun q => by
    obtain ⟨o, e, _⟩ := bs a q
    exact absurd m (del_some.mp (a1 a o e)).1
  have mm : Same (del H (Onl O)) (del H (Onl (O.filter (· ≠ a)))) := del_sub fun b hb => (List.mem_filter.mp hb).1
  have sub : ∀ b, un B (O.filter (· ≠ a)) b → un B O b := fun b hb => by
    rcases hb with hb | hb
    · exact .inl hb
    · exact .inr (List.mem_filter.mp hb).1
  have mm' : Same (del H (un B O)) (del H (un B (O.filter (· ≠ a)))) := del_sub sub
  refine ⟨by rw [List.length_set, l], bs, fun j d q => ?_, O.filter (· ≠ a), a1.trans mm, fun b hb => a2 b (sub b hb), fun j d q => ?_, fun j ds' q => ?_, fun j k ds' es' b q1 q2 q3 q4 => ?_, fun p hp => (a6 p hp).mono mm'⟩
  · rcases set_get q with ⟨_, z, _⟩ | ⟨n, q⟩
    · cases z
    · exact bo j d q
  · rcases set_get q with ⟨rfl, z', hi⟩ | ⟨n, q⟩
    · cases z'
      refine ⟨.ref a, z, .lst (del_some.mpr ⟨fun q => ?_, x⟩) (r.mono mm')⟩
      rcases q with q | q
      · exact haB q
      · have := (List.mem_filter.mp q).2
        simp at this
    · obtain ⟨v, z, r⟩ := a3 j d q
      exact ⟨v, z, r.mono mm'⟩
  · rcases set_get q with ⟨_, z', _⟩ | ⟨hj, q⟩
    · cases z'
    · obtain ⟨b, vs', z', m', x', r'⟩ := a4 j ds' q
      refine ⟨b, vs', z', List.mem_filter.mpr ⟨m', ?_⟩, x', r'.mono mm'⟩
      simp only [ne_eq, decide_not, Bool.not_eq_true', decide_eq_false_iff_not]
      intro e
      subst e
      exact hj (a5 i j ds ds' b h q z z')
  · have back : ∀ (j : Nat) (ds' : List D), (ρ.set i (.st (.lst ds)))[j]? = some (.ow ds') → ρ[j]? = some (.ow ds') := fun j ds' q => by
      rcases set_get q with ⟨_, z', _⟩ | ⟨hj, q⟩
      · cases z'
      · exact q
    exact a5 j k ds' es' b (back j ds' q1) (back k es' q2) q3 q4
theorem nx_freeze {P : St → Hp → Prop} (h : ρ[i]? = some (.ow ds)) (q : Nx X P (ρ.set i (.st (.lst ds)))) : Nx X P ρ := fun σ H I => q σ H (I.freeze h)
/-- reading an own list -/
theorem ev_ixO {k : Int} (h : ρ[i]? = some (.ow ds)) (hk : Ev K ta ρ (.int k)) (hd : atI ds k = some d) : Ev K (tOp (rIx K) (tVar i) ta) ρ d := fun B H0 σ τ H I Q q => by
  obtain ⟨a, vs, ha, hH, hl, I1⟩ := I.own h
  refine ⟨.ref a, ha, hk B H0 σ τ H I _ fun w H2 I2 => ?_⟩
  obtain ⟨O, _, r1⟩ := I2.top
  cases r1
  obtain ⟨a', vs', ha', hH', hl', I3⟩ := I2.own h
  rw [ha] at ha'
  cases ha'
  obtain ⟨l, bs, bo, O, a1, a2, a3, a4, a5, a6⟩ := I3
  obtain ⟨v, e1, e2⟩ := (Reps.of_zip hl' fun y hy => a6 y (List.mem_append_left _ hy)).at hd
  refine .inl ⟨a, vs', k, v, rfl, rfl, SqL.of hH', e1, q v H2 ⟨l, bs, bo, O, a1, a2, a3, a4, a5, fun p hp => ?_⟩⟩
  rcases List.mem_cons.mp hp with rfl | hp
  · exact e2
  · exact a6 p (List.mem_append_right _ (List.mem_cons_of_mem _ hp))
theorem ev_lenO (h : ρ[i]? = some (.ow ds)) : Ev K (tCB (rLen K) (tCons (tVar i) tNil)) ρ (.int ds.length) := fun B H0 σ τ H I Q q => by
  obtain ⟨a, vs, ha, hH, hl, I1⟩ := I.own h
  exact ⟨.ref a, ha, .ref a, vs.length, rfl, .inl ⟨_, SqL.of hH, rfl⟩, by rw [hl]; exact q _ H (I.push fun _ => .int _)⟩
/-! ### comprehensions -/
def wipeS (ρ : List Sl) : List Nat → List Sl
  | [] => ρ
  | v :: vs => (wipeS ρ vs).set v .no
theorem Ok.setNo (I : Ok K B H0 σ ρ τ H) (i : Nat) : Ok K B H0 (σ.set i none) (ρ.set i .no) τ H := by
  obtain ⟨l, bs, bo, O, a1, a2, a3, a4, a5, a6⟩ := I
  have st : ∀ (j : Nat) (s : Sl), s ≠ .no → (ρ.set i .no)[j]? = some s → i ≠ j ∧ ρ[j]? = some s := fun j s hs q => by
    rcases set_get q with ⟨_, z, _⟩ | q
    · exact absurd z.symm hs
    · exact q
  refine ⟨by rw [List.length_set, List.length_set, l], bs, fun j d q => ?_, O, a1, a2, fun j d q => ?_, fun j ds q => ?_, fun j k ds es b q1 q2 q3 q4 => ?_, a6⟩
  · obtain ⟨n, q⟩ := st j _ (by intro z; cases z) q
    rw [List.getElem?_set_ne n]
    exact bo j d q
  · obtain ⟨n, q⟩ := st j _ (by intro z; cases z) q
    rw [List.getElem?_set_ne n]
    exact a3 j d q
  · obtain ⟨n, q⟩ := st j _ (by intro z; cases z) q
    rw [List.getElem?_set_ne n]
    exact a4 j ds q
  · obtain ⟨n1, q1⟩ := st j _ (by intro z; cases z) q1
    obtain ⟨n2, q2⟩ := st k _ (by intro z; cases z) q2
    rw [List.getElem?_set_ne n1] at q3
    rw [List.getElem?_set_ne n2] at q4
    exact a5 j k ds es b q1 q2 q3 q4
theorem Ok.wipe (I : Ok K B H0 σ ρ τ H) : ∀ vs : List Nat, Ok K B H0 (L2.wipe σ vs) (wipeS ρ vs) τ H
  | [] => I
  | v :: vs => (Ok.wipe I vs).setNo v
theorem wipe_eq {σ σ2 : St} {vs : List Nat} (hl : σ2.length = σ.length) (h : ∀ j, j ∉ vs → σ2[j]? = (L2.wipe σ vs)[j]?) : L2.wipe σ2 vs = L2.wipe σ vs := by
  have out : ∀ (σ : St) (vs : List Nat) (j : Nat), j ∉ vs → (L2.wipe σ vs)[j]? = σ[j]? := fun σ vs => by
    induction vs with
    | nil => intro j _; rfl
    | cons v vs ih =>
      intro j hj
      show ((L2.wipe σ vs).set v none)[j]? = _
      rw [List.getElem?_set_ne (fun e => hj (by rw [e]; exact List.mem_cons_self ..)), ih j fun z => hj (List.mem_cons_of_mem _ z)]
  have inn : ∀ (σ : St) (vs : List Nat) (j : Nat), j ∈ vs → j < σ.length → (L2.wipe σ vs)[j]? = some none := fun σ vs => by
    induction vs with
    | nil => intro j hj; cases hj
    | cons v vs ih =>
      intro j hj hlt
      show ((L2.wipe σ vs).set v none)[j]? = _
      by_cases e : v = j
      · subst e
        rw [List.getElem?_set_self (by rw [wipe_length]; exact hlt)]
      · rw [List.getElem?_set_ne e]
        rcases List.mem_cons.mp hj with rfl | hj
        · exact absurd rfl e
        · exact ih j hj hlt
  apply List.ext_getElem?
  intro j
  by_cases hj : j ∈ vs
  · by_cases hlt : j < σ.length
    · rw [inn σ vs j hj hlt, inn σ2 vs j hj (by omega)]
    · rw [List.getElem?_eq_none (by rw [wipe_length]; omega), List.getElem?_eq_none (by rw [wipe_length]; omega)]
  · rw [out σ2 vs j hj, h j hj]
/-- what is held of the slots vs, put aside -/
theorem Ok.aside (I : Ok K B H0 σ ρ τ H) : ∀ vs : List Nat, ∃ τs : List (V × D), Ok K B H0 σ ρ (τs ++ τ) H ∧ ∀ j d, j ∈ vs → ρ[j]? = some (.st d) → ∃ v, σ[j]? = some (some v) ∧ (v, d) ∈ τs
  | [] => ⟨[], I, fun _ _ h => nomatch h⟩
  | v :: vs => by
    obtain ⟨τs, I1, h1⟩ := Ok.aside I vs
    cases e : ρ[v]? with
    | none => exact ⟨τs, I1, fun j d hj hd => by
        rcases List.mem_cons.mp hj with rfl | hj
        · rw [e] at hd; cases hd
        · exact h1 j d hj hd⟩
    | some s =>
      cases s with
      | no => exact ⟨τs, I1, fun j d hj hd => by
          rcases List.mem_cons.mp hj with rfl | hj
          · rw [e] at hd; cases hd
          · exact h1 j d hj hd⟩
      | ow ds => exact ⟨τs, I1, fun j d hj hd => by
          rcases List.mem_cons.mp hj with rfl | hj
          · rw [e] at hd; cases hd
          · exact h1 j d hj hd⟩
      | bo ds => exact ⟨τs, I1, fun j d hj hd => by
          rcases List.mem_cons.mp hj with rfl | hj
          · rw [e] at hd; cases hd
          · exact h1 j d hj hd⟩
      | st d =>
        obtain ⟨l, bs, bo, O, a1, a2, a3, a4, a5, a6⟩ := I1
        obtain ⟨x, e1, e2⟩ := a3 v d e
        refine ⟨(x, d) :: τs, ⟨l, bs, bo, O, a1, a2, a3, a4, a5, fun p hp => ?_⟩, fun j d' hj hd => ?_⟩
        · rcases List.mem_cons.mp hp with rfl | hp
          · exact e2
          · exact a6 p hp
        · rcases List.mem_cons.mp hj with rfl | hj
          · rw [e] at hd
            cases hd
            exact ⟨x, e1, List.mem_cons_self ..⟩
          · obtain ⟨y, z1, z2⟩ := h1 j d' hj hd
            exact ⟨y, z1, List.mem_cons_of_mem _ z2⟩
/-- and taken back -/
theorem Ok.back {σ2 : St} {ρ2 : List Sl} {vs : List Nat} (I : Ok K B H0 σ2 ρ2 τ H) (l0 : σ.length = ρ.length) (hσ : Agree σ σ2 vs) (hρ : Agree ρ ρ2 vs) (hn : ∀ j ds, j ∈ vs → ρ[j]? ≠ some (.ow ds))
    (hs : ∀ j d, j ∈ vs → ρ[j]? = some (.st d) → ∃ v, σ[j]? = some (some v) ∧ (v, d) ∈ τ) (hbo : ∀ (i : Nat) (d : D), ρ[i]? = some (.bo d) → ∃ v, σ[i]? = some (some v) ∧ Rep K H0 v d) : Ok K B H0 σ ρ τ H := by
  obtain ⟨l, bs, bo, O, a1, a2, a3, a4, a5, a6⟩ := I
  have no : ∀ (j : Nat) (ds : List D), ρ[j]? = some (.ow ds) → j ∉ vs := fun j ds q z => hn j ds z q
  refine ⟨l0, bs, hbo, O, a1, a2, fun j d q => ?_, fun j ds q => ?_, fun j k ds es b q1 q2 q3 q4 => ?_, a6⟩
  · by_cases hj : j ∈ vs
    · obtain ⟨v, e1, e2⟩ := hs j d hj q
      exact ⟨v, e1, a6 _ e2⟩
    · rw [← hρ.2 j hj] at q
      obtain ⟨v, e1, e2⟩ := a3 j d q
      rw [hσ.2 j hj] at e1
      exact ⟨v, e1, e2⟩
  · have hj := no j ds q
    rw [← hρ.2 j hj] at q
    obtain ⟨a, vs', e1, e2⟩ := a4 j ds q
    rw [hσ.2 j hj] at e1
    exact ⟨a, vs', e1, e2⟩
  · have hj := no j ds q1
    have hk := no k es q2
    rw [← hρ.2 j hj] at q1
    rw [← hρ.2 k hk] at q2
    rw [← hσ.2 j hj] at q3
    rw [← hσ.2 k hk] at q4
    exact a5 j k ds es b q1 q2 q3 q4
theorem wipe_agree (σ : St) : ∀ vs : List Nat, Agree σ (L2.wipe σ vs) vs
  | [] => .refl _ _
  | v :: vs => ((wipe_agree σ vs).trans (.of_set _ v none)).mono fun j hj => by
    rcases List.mem_append.mp hj with hj | hj
    · exact List.mem_cons_of_mem _ hj
    · rw [List.mem_singleton.mp hj]; exact List.mem_cons_self ..
theorem wipeS_agree (ρ : List Sl) : ∀ vs : List Nat, Agree ρ (wipeS ρ vs) vs
  | [] => .refl _ _
  | v :: vs => ((wipeS_agree ρ vs).trans (Agree.of_set (wipeS ρ vs) v Sl.no)).mono fun j hj => by
    rcases List.mem_append.mp hj with hj | hj
    · exact List.mem_cons_of_mem _ hj
    · rw [List.mem_singleton.mp hj]; exact List.mem_cons_self ..
theorem filterMap_le {α β : Type} (F : α → Option β) : ∀ l : List α, (l.filterMap F).length ≤ l.length
  | [] => Nat.le_refl _
  | a :: l => by
    have ih := filterMap_le F l
    rw [List.filterMap_cons]
    cases F a with
    | none => exact Nat.le_succ_of_le ih
    | some b => exact Nat.succ_le_succ ih
/-- a comprehension: a new list -/
theorem evn_lc {bo : Bool} {wi : TI} {g : TG} {tt : TT} {te : TE} {vs : List Nat} (h : EvIX bo K wi ρ ds) (F : D → Option D) (hz : ds.length ≤ sizeLine) (hn : ∀ j ds, j ∈ vs → ρ[j]? ≠ some (.ow ds))
    (turn : ∀ (i : Nat) (d : D), ds[i]? = some d → ∃ ρ2 js, GoX bo K g d (wipeS ρ vs) ρ2 js ∧ (∀ j, j ∈ js → j ∈ vs) ∧ ∃ b, EvT K tt ρ2 b ∧ (b = true → ∃ y, Ev K te ρ2 y ∧ F d = some y) ∧ (b = false → F d = none)) :
    EvN K (tLc wi g tt te vs) ρ (ds.filterMap F) := fun B H0 σ τ H I Q q => h B H0 σ τ H I _ fun J H1 τ' hw I1 Dd hD => by
  have hn0 : H0 Dd = none := by
    obtain ⟨l, bs, bo, O, a1, _⟩ := I1
    exact (a1.trans (del_same _ _)).free hD
  refine ⟨fun i m H => m = ds.length - i ∧ i ≤ ds.length ∧ ∃ acc Hb, Same H0 Hb ∧ Hb Dd = some (.lst acc) ∧ acc.length = ((ds.take i).filterMap F).length ∧ Ok K (ons Dd B) Hb σ ρ (acc.zip ((ds.take i).filterMap F) ++ (τ' ++ τ)) H, ⟨_, rfl, Nat.zero_le _, [], upd H0 Dd (.lst []), same_upd _ hn0, upd_same, rfl, ?_⟩, ?_⟩
  · exact I1.newAt hD _ rfl
  · rintro i m H ⟨rfl, hi, acc, Hb, h0, hb, hl, I2⟩
    obtain ⟨w1, w2⟩ := hw _ _ σ ρ _ H i h0 (fun p hp => List.mem_append_right _ (List.mem_append_left _ hp)) I2
    by_cases hlt : i < ds.length
    · obtain ⟨go, y⟩ := w2 ds[i] (List.getElem?_eq_getElem hlt)
      obtain ⟨ρ2, js, hg, hjs, b, hT, hb1, hb2⟩ := turn i ds[i] (List.getElem?_eq_getElem hlt)
      have tk : (ds.take (i + 1)).filterMap F = (ds.take i).filterMap F ++ (F ds[i]).toList := by
        rw [List.take_succ, List.filterMap_append, List.getElem?_eq_getElem hlt]
        show _ ++ List.filterMap F [ds[i]] = _
        rw [List.filterMap_cons]
        cases F ds[i] <;> rfl
      refine .inr ⟨go, fun H' => ∃ acc Hb, Same H0 Hb ∧ Hb Dd = some (.lst acc) ∧ acc.length = ((ds.take (i + 1)).filterMap F).length ∧ Ok K (ons Dd B) Hb σ ρ (acc.zip ((ds.take (i + 1)).filterMap F) ++ (τ' ++ τ)) H', fun H' z => ⟨_, by omega, rfl, hlt, z⟩, fun x H' hy => ?_⟩
      have I3 := (y x H' hy).1
      obtain ⟨τs, I3', hs⟩ := I3.aside vs
      have I3'' : Ok K (ons Dd B) Hb σ ρ (tx bo x ds[i] ++ (τs ++ (acc.zip ((ds.take i).filterMap F) ++ (τ' ++ τ)))) H' := I3'.sub fun p hp => by
        rcases List.mem_append.mp hp with hp | hp
        · exact List.mem_append_right _ (List.mem_append_left _ hp)
        · rcases List.mem_append.mp hp with hp | hp
          · exact List.mem_append_left _ hp
          · exact List.mem_append_right _ (List.mem_append_right _ hp)
      refine hg.run _ _ _ _ H' x (I3''.wipe vs) (y x H' hy).2 _ fun σ2 I4 k1 => ⟨wipe_eq (by rw [k1.1, wipe_length]) fun j hj => k1.2 j fun z => hj (hjs j z), ?_⟩
      have gσ : Agree σ σ2 vs := ((wipe_agree σ vs).trans k1).mono fun j hj => by
        rcases List.mem_append.mp hj with hj | hj
        · exact hj
        · exact hjs j hj
      have gρ : Agree ρ ρ2 vs := ((wipeS_agree ρ vs).trans hg.ag).mono fun j hj => by
        rcases List.mem_append.mp hj with hj | hj
        · exact hj
        · exact hjs j hj
      have back : ∀ (τ2 : List (V × D)) (H'' : Hp), Ok K (ons Dd B) Hb σ2 ρ2 (τ2 ++ (τs ++ (acc.zip ((ds.take i).filterMap F) ++ (τ' ++ τ)))) H'' → Ok K (ons Dd B) Hb σ ρ (τ2 ++ (τs ++ (acc.zip ((ds.take i).filterMap F) ++ (τ' ++ τ)))) H'' := fun τ2 H'' J => J.back I3.len gσ gρ hn (fun j d hj hd => by
        obtain ⟨v, e1, e2⟩ := hs j d hj hd
        exact ⟨v, e1, List.mem_append_right _ (List.mem_append_left _ e2)⟩) I3.bo
      refine hT _ _ _ _ _ I4 _ fun H3 I5 => ?_
      cases b with
      | false =>
        rw [if_neg Bool.false_ne_true]
        have hF := hb2 rfl
        rw [hF] at tk
        refine ⟨acc, Hb, h0, hb, by rw [tk, hl]; simp, ?_⟩
        have J := back [] H3 I5
        refine J.sub fun p hp => ?_
        rw [tk] at hp
        rw [show (Option.toList (none : Option D)) = [] from rfl, List.append_nil] at hp
        exact List.mem_append_right [] (List.mem_append_right _ hp)
      | true =>
        rw [if_pos rfl]
        obtain ⟨yd, hE, hF⟩ := hb1 rfl
        rw [hF] at tk
        refine hE _ _ _ _ _ I5 _ fun v H4 I6 => ?_
        have J := back [(v, yd)] H4 I6
        have hDH : H4 Dd = some (.lst acc) ∧ ∀ O : List Addr, Same Hb (del H4 (Onl O)) → Dd ∉ O := by
          refine ⟨?_, fun O a1 => (del_some.mp (a1 Dd _ hb)).1⟩
          obtain ⟨l, bs, bo, O, a1, _⟩ := J
          exact (del_some.mp (a1 Dd _ hb)).2
        refine ⟨acc, hDH.1, ?_, acc ++ [v], upd Hb Dd (.lst (acc ++ [v])), fun b o e => ?_, upd_same, ?_, ?_⟩
        · have z1 := filterMap_le F (ds.take i)
          rw [hl]
          rw [List.length_take] at z1
          omega
        · rw [upd_ne (ne_of_none e hn0)]
          exact h0 b o e
        · rw [tk, List.length_append, List.length_append, hl]
          rfl
        · obtain ⟨l, bs, bo, O, a1, a2, a3, a4, a5, a6⟩ := J
          have hDO := hDH.2 O a1
          have e2 : del (upd H4 Dd (.lst (acc ++ [v]))) (un (ons Dd B) O) = del H4 (un (ons Dd B) O) := del_upd (.inl (.inl rfl))
          refine ⟨l, fun a ha => ?_, fun j d q => ?_, O, fun b o e => ?_, fun a ha => ?_, ?_, ?_, a5, fun p hp => ?_⟩
          · by_cases h : a = Dd
            · subst h; exact ⟨_, upd_same, rfl⟩
            · obtain ⟨o, e, m⟩ := bs a ha
              exact ⟨o, by rw [upd_ne h]; exact e, m⟩
          · obtain ⟨x', z, r⟩ := I.bo j d q
            exact ⟨x', z, r.mono fun b o e => by rw [upd_ne (ne_of_none e hn0)]; exact h0 b o e⟩
          · by_cases h : b = Dd
            · subst h
              rw [upd_same] at e
              cases e
              exact del_some.mpr ⟨hDO, upd_same⟩
            · rw [upd_ne h] at e
              obtain ⟨z1, z2⟩ := del_some.mp (a1 b o e)
              exact del_some.mpr ⟨z1, by rw [upd_ne h]; exact z2⟩
          · by_cases h : a = Dd
            · subst h; exact ⟨_, upd_same, rfl⟩
            · obtain ⟨o, e, m⟩ := a2 a ha
              exact ⟨o, by rw [upd_ne h]; exact e, m⟩
          · rw [e2]; exact a3
          · rw [e2]
            intro j ds' q
            obtain ⟨a, vs', z, m, x', r⟩ := a4 j ds' q
            exact ⟨a, vs', z, m, by rw [upd_ne (fun e => hDO (by rw [← e]; exact m))]; exact x', r⟩
          · rw [e2]
            refine a6 p ?_
            rw [tk, show (Option.toList (some yd)) = [yd] from rfl, List.zip_append hl] at hp
            rcases List.mem_append.mp hp with hp | hp
            · rcases List.mem_append.mp hp with hp | hp
              · exact List.mem_append_right _ (List.mem_append_right _ (List.mem_append_left _ hp))
              · exact List.mem_append_left _ hp
            · exact List.mem_append_right _ (List.mem_append_right _ (List.mem_append_right _ hp))
    · have e : i = ds.length := by omega
      subst e
      rw [List.take_length] at I2 hl
      exact .inl ⟨w1 (Nat.le_refl _), q Dd acc Hb H h0 hn0 hb hl (I2.sub fun p hp => by
        rcases List.mem_append.mp hp with hp | hp
        · exact List.mem_append_left _ hp
        · exact List.mem_append_right _ (List.mem_append_right _ hp))⟩
theorem evt_yes : EvT K tYes ρ true := fun B H0 σ τ H I Q q => q H I
/-- without a test -/
theorem evn_map {bo : Bool} {wi : TI} {g : TG} {te : TE} {vs : List Nat} (h : EvIX bo K wi ρ ds) (F : D → D) (hz : ds.length ≤ sizeLine) (hn : ∀ j ds, j ∈ vs → ρ[j]? ≠ some (.ow ds))
    (turn : ∀ (i : Nat) (d : D), ds[i]? = some d → ∃ ρ2 js, GoX bo K g d (wipeS ρ vs) ρ2 js ∧ (∀ j, j ∈ js → j ∈ vs) ∧ Ev K te ρ2 (F d)) :
    EvN K (tLc wi g tYes te vs) ρ (ds.map F) := by
  have k := evn_lc (tt := tYes) (te := te) (g := g) h (fun d => some (F d)) hz hn fun i d hd => by
    obtain ⟨ρ2, js, h1, h2, h3⟩ := turn i d hd
    exact ⟨ρ2, js, h1, h2, true, evt_yes, fun _ => ⟨_, h3, rfl⟩, fun z => nomatch z⟩
  have e : ds.filterMap (fun d => some (F d)) = ds.map F := by
    clear h hz hn turn k
    induction ds with
    | nil => rfl
    | cons a l ih => rw [List.filterMap_cons, List.map_cons, ih]
  rw [e] at k
  exact k
/-! ### a statement and what follows it -/
section
variable {r : R2} {b : Bool} {t1 t2 : TS}
theorem sq_set (h : Ev X.K te ρ d) (q : Sw X u En (ρ.set i (.st d))) : Sw X (tSeq (tAsg te (gName i)) u) En ρ := sw_seq (sw_set h q)
theorem sq_asg {g : TG} {js : List Nat} (h : Ev X.K te ρ d) (hg : Go X.K g d ρ ρ' js) (q : Sw X u En ρ') : Sw X (tSeq (tAsg te g) u) En ρ := sw_seq (sw_asg h hg q)
theorem sq_par {i j : Nat} (h : EvA X.K ts ρ [d, e]) (q : Sw X u En ((ρ.set i (.st d)).set j (.st e))) : Sw X (tSeq (tPar i j ts) u) En ρ := sw_seq (sw_par h q)
theorem sq_own (h : EvN X.K te ρ ds) (q : Sw X u En (ρ.set i (.ow ds))) : Sw X (tSeq (tAsg te (gName i)) u) En ρ := sw_seq (sw_own h q)
theorem sq_app (h : ρ[i]? = some (.ow ds)) (he : Ev X.K te ρ d) (hz : ds.length < sizeLine) (q : Sw X u En (ρ.set i (.ow (ds ++ [d])))) : Sw X (tSeq (tDrop (tBM X.K "list" rAppend (tVar i) (tCons te tNil))) u) En ρ := sw_seq (sw_app h he hz q)
theorem sq_put {k : Int} {j : Nat} (h : ρ[i]? = some (.ow ds)) (he : Ev X.K te ρ d) (hk : Ev X.K ta ρ (.int k)) (hj : ixN ds.length k = some j) (q : Sw X u En (ρ.set i (.ow (ds.set j d)))) : Sw X (tSeq (tAsg te (gSub (tVar i) ta rSetL)) u) En ρ := sw_seq (sw_put h he hk hj q)
theorem sq_aug {a b : Int} {g : Int → Int → Int} (hx : ρ[i]? = some (.st (.int a))) (h : Ev X.K te ρ (.int b)) (q : Sw X u En (ρ.set i (.st (.int (g a b))))) : Sw X (tSeq (tAug i te (ipI g)) u) En ρ := sw_seq (sw_aug hx h q)
theorem sq_drop (h : Ev X.K te ρ d) (q : Sw X u En ρ) : Sw X (tSeq (tDrop te) u) En ρ := sw_seq (sw_drop h q)
theorem sq_if (h : EvT X.K c ρ b) (h1 : b = true → Sw X t1 { En with nx := u En } ρ) (h2 : b = false → Sw X t2 { En with nx := u En } ρ) : Sw X (tSeq (tIfS c t1 t2) u) En ρ := sw_seq (sw_if h h1 h2)
/-- an if whose first way leaves, without an else -/
theorem sq_ifL (h : EvT X.K c ρ b) (h1 : b = true → Sw X t1 { En with nx := u En } ρ) (h2 : b = false → Sw X u En ρ) : Sw X (tSeq (tIfS c t1 tNext) u) En ρ := sw_seq (sw_if h h1 fun hb => h2 hb)
theorem sq_next (h : Sw X u En ρ) : Sw X tNext { En with nx := u En } ρ := h
theorem sq_while {tb : TS} (P : Nat → List Sl → Prop) {m : Nat} (p0 : P m ρ) (turn : ∀ m ρ, P m ρ → ∃ b, EvT X.K c ρ b ∧
      (b = true → ∀ N : St → Hp → Prop, (∀ m' ρ', m' < m → P m' ρ' → Nx X N ρ') → Sw X tb { nx := N, rt := En.rt, bk := u En, ct := N } ρ) ∧ (b = false → Sw X u En ρ)) : Sw X (tSeq (tWhile c tb) u) En ρ := sw_seq (sw_while P p0 turn)
theorem sq_for {bo : Bool} {wi : TI} {g : TG} {tb : TS} (h : EvIX bo X.K wi ρ ds) (P : Nat → List Sl → Prop) (p0 : P 0 ρ)
    (turn : ∀ (τ' : List (V × D)) (i : Nat) (d : D) (ρ1 : List Sl), ds[i]? = some d → P i ρ1 → ∃ ρ2 js, GoX bo X.K g d ρ1 ρ2 js ∧ ∀ N : St → Hp → Prop, (∀ ρ3, P (i + 1) ρ3 → Nx { X with τ := τ' ++ X.τ } N ρ3) → Sw { X with τ := τ' ++ X.τ } tb { nx := N, rt := En.rt, bk := u En, ct := N } ρ2)
    (done : ∀ ρ1, P ds.length ρ1 → Sw X u En ρ1) : Sw X (tSeq (tFor wi g tb) u) En ρ := sw_seq (sw_for h P p0 turn done)
theorem sq_freeze (h : ρ[i]? = some (.ow ds)) (q : Sw X u En (ρ.set i (.st (.lst ds)))) : Sw X u En ρ := nx_freeze h q
end
end
end Z

namespace Z
open PySem L2
/-! plain facts -/
theorem fmod_eq (a b : Int) : a.fmod b = a - b * a.fdiv b := Int.fmod_def a b
theorem gcd_fmod (a b : Int) : Int.gcd b (a.fmod b) = Int.gcd a b := by
  rw [fmod_eq, Int.gcd_sub_mul_left_right, Int.gcd_comm]
theorem fmod_pos (a : Int) {b : Int} (h : 0 < b) : 0 ≤ a.fmod b ∧ a.fmod b < b := ⟨Int.fmod_nonneg_of_pos a h, Int.fmod_lt_of_pos a h⟩
theorem fmod_neg (a : Int) {b : Int} (h : b < 0) : b < a.fmod b ∧ a.fmod b ≤ 0 := by
  have h1 := fmod_pos (-a) (b := -b) (by omega)
  rw [Int.neg_fmod_neg] at h1
  omega
theorem fmod_lt (a : Int) {b : Int} (h : b ≠ 0) : (a.fmod b).natAbs < b.natAbs := by
  rcases Int.lt_or_gt_of_ne h with h | h
  · have h1 := fmod_neg a h
    omega
  · have h1 := fmod_pos a h
    omega
theorem fdiv_le (a : Int) {b : Int} (h : b ≠ 0) : (a.fdiv b).natAbs ≤ a.natAbs := by
  have e := Int.mul_fdiv_add_fmod a b
  have hl := fmod_lt a h
  generalize hq : a.fdiv b = q at *
  generalize hr : a.fmod b = r at *
  have e1 : (b * q).natAbs = b.natAbs * q.natAbs := Int.natAbs_mul b q
  by_cases hq0 : q.natAbs ≤ 1
  · by_cases ha : a = 0
    · subst ha
      rw [Int.zero_fdiv] at hq
      omega
    · omega
  · have h2 : 2 * q.natAbs ≤ b.natAbs * q.natAbs ∨ b.natAbs = 1 := by
      by_cases hb : b.natAbs = 1
      · exact .inr hb
      · exact .inl (Nat.mul_le_mul_right _ (by omega))
    rcases h2 with h2 | h2
    · have h3 : b.natAbs * 2 ≤ b.natAbs * q.natAbs := Nat.mul_le_mul_left _ (by omega)
      have h4 : b.natAbs * q.natAbs = b.natAbs * (q.natAbs - 1) + b.natAbs := by
        rw [← Nat.mul_succ]
        congr 1
        omega
      have h5 : 1 * (q.natAbs - 1) ≤ b.natAbs * (q.natAbs - 1) := Nat.mul_le_mul_right _ (by omega)
      omega
    · rw [h2, Nat.one_mul] at e1
      omega
theorem log_lt {k : Nat} (h : k < 2 ^ 500) : k.log2 < 9000 := Nat.lt_of_lt_of_le (PySem.Flt.log2_lt_of (by omega) h) (by omega)
theorem law_sp {K : PySem.W.Frag} {F : List D → D → Prop} {H : Hp} {a : Addr} {ns : List Int} {E : XK} (hS : SqL K H a (ns.map V.int)) (hF : F [.rd (ns.map D.int)] (.bl true)) : sp K F [.ref a] H (fun v _ => v = .bl true) E :=
  ⟨fun _ => False, [.rd (ns.map D.int)], .bl true, (fun _ h => h.elim), .cons (.rd (by rw [del_nil]; exact hS) (Reps.of_ints _)) .nil, hF, fun v H' _ r => by cases r; rfl⟩
/-- the k-th number of a script -/
def cellOf (ns : List Int) (k : Nat) : Int := (ns[k]?).getD 0
theorem cell_cut (ns : List Int) (k : Nat) (hl : ns.length ≤ 63) : cutD (ns.map D.int) (some (k : Int)) (some ((k : Int) + 1)) = ((ns.drop k).take 1).map D.int := by
  unfold cutD
  have e : ((k : Int) + 1) = ((k + 1 : Nat) : Int) := by omega
  rw [e, HT.sIx_nat, HT.sIx_nat, List.length_map, ← List.map_drop, ← List.map_take]
  congr 1
  by_cases h : k < ns.length
  · rw [show min k ns.length = k by omega, show min (k + 1) ns.length - k = 1 by omega]
  · rw [List.drop_eq_nil_of_le (show ns.length ≤ min k ns.length by omega), List.drop_eq_nil_of_le (show ns.length ≤ k by omega), List.take_nil, List.take_nil]
theorem cell_at (ns : List Int) (k : Nat) : atI (((ns.drop k).take 1).map D.int ++ [D.int 0]) 0 = some (D.int (cellOf ns k)) := by
  have e : (0 : Int) = ((0 : Nat) : Int) := rfl
  conv => lhs; rw [e]
  refine atI_nat ?_
  unfold cellOf
  by_cases h : k < ns.length
  · rw [List.drop_eq_getElem_cons h, List.getElem?_eq_getElem h]
    rfl
  · rw [List.drop_eq_nil_of_le (show ns.length ≤ k by omega), List.getElem?_eq_none (show ns.length ≤ k by omega)]
    rfl
theorem log_lt9 {k : Nat} (h : k < 2 ^ 8999) : k.log2 < 9000 := Nat.lt_of_lt_of_le (PySem.Flt.log2_lt_of (by omega) h) (by omega)
/-- no pylong by a divisor below 2 ^ 8999 -/
theorem noPy {x y : Int} (h : y.natAbs < 2 ^ 8999) : Builtin.divisionGoesByPylong x y = false := PyProof.noPylong_of_log2 (log_lt9 h)
theorem pow_le2 {a b : Nat} (h : a ≤ b) : (2 : Nat) ^ a ≤ 2 ^ b := Nat.pow_le_pow_right (by omega) h
theorem lt_pow {k a : Nat} (h : k < 2 ^ a) (b : Nat) (hb : a ≤ b) : k < 2 ^ b := Nat.lt_of_lt_of_le h (pow_le2 hb)
theorem mulW {i j : Int} {a b : Nat} (ha : i.natAbs < 2 ^ a) (hb : j.natAbs < 2 ^ b) (h : a + b ≤ 999998) : CMulW i j :=
  wide_mul (a := a + 1) (b := b + 1) (Nat.lt_trans ha (Nat.pow_lt_pow_right (by omega) (by omega))) (Nat.lt_trans hb (Nat.pow_lt_pow_right (by omega) (by omega))) (by omega) (by omega) (by omega)
/-- a fraction as data -/
abbrev fr (p : Int × Int) : D := .tup [.int p.1, .int p.2]
def IsFr (p : Int × Int) : Prop := 0 < p.2 ∧ Int.gcd p.1 p.2 = 1
def lowest (t b : Int) : Int × Int := (t / (Int.gcd t b : Nat), b / (Int.gcd t b : Nat))
theorem lowest_fr {t b : Int} (h : 0 < b) : IsFr (lowest t b) := by
  have g := Int.gcd_pos_of_ne_zero_right t (show b ≠ 0 by omega)
  refine ⟨?_, Int.gcd_ediv_gcd_ediv_gcd g⟩
  have h1 := Int.gcd_dvd_right t b
  have h2 := Int.ediv_mul_cancel h1
  show 0 < b / ((Int.gcd t b : Nat) : Int)
  by_cases z : 0 < b / ((Int.gcd t b : Nat) : Int)
  · exact z
  · have := Int.mul_nonpos_of_nonpos_of_nonneg (a := b / ((Int.gcd t b : Nat) : Int)) (b := ((Int.gcd t b : Nat) : Int)) (by omega) (by omega)
    omega
theorem lowest_mul (t b : Int) : (lowest t b).1 * (Int.gcd t b : Nat) = t ∧ (lowest t b).2 * (Int.gcd t b : Nat) = b := ⟨Int.ediv_mul_cancel (Int.gcd_dvd_left t b), Int.ediv_mul_cancel (Int.gcd_dvd_right t b)⟩
theorem lowest_le (t b : Int) : (lowest t b).1.natAbs ≤ t.natAbs ∧ (lowest t b).2.natAbs ≤ b.natAbs := by
  have h := lowest_mul t b
  by_cases g : Int.gcd t b = 0
  · have z := Int.gcd_eq_zero_iff.mp g
    unfold lowest
    rw [z.1, z.2]
    decide
  · have k1 := Int.natAbs_mul (lowest t b).1 (Int.gcd t b : Nat)
    have k2 := Int.natAbs_mul (lowest t b).2 (Int.gcd t b : Nat)
    rw [h.1] at k1
    rw [h.2] at k2
    rw [Int.natAbs_natCast] at k1 k2
    have j1 : (lowest t b).1.natAbs * 1 ≤ (lowest t b).1.natAbs * Int.gcd t b := Nat.mul_le_mul_left _ (by omega)
    have j2 : (lowest t b).2.natAbs * 1 ≤ (lowest t b).2.natAbs * Int.gcd t b := Nat.mul_le_mul_left _ (by omega)
    omega
theorem gcd_le_r {t b : Int} (h : b ≠ 0) : Int.gcd t b ≤ b.natAbs := Int.gcd_le_natAbs_right t h
theorem min_max_perm (a b : Nat) : ([((min a b : Nat) : Int), ((max a b : Nat) : Int)] : List Int).Perm [(a : Int), (b : Int)] ∧ ([((min a b : Nat) : Int), ((max a b : Nat) : Int)] : List Int).Pairwise (· ≤ ·) := by
  refine ⟨?_, by simp; omega⟩
  rcases Nat.le_total a b with h | h
  · rw [Nat.min_eq_left h, Nat.max_eq_right h]
  · rw [Nat.min_eq_right h, Nat.max_eq_left h]
    exact List.Perm.swap ..
/-- the fraction that the program makes of two numbers -/
def ratioF (t b : Int) : Int × Int := (t.fdiv (if b < 0 then 0 - (Int.gcd t b : Nat) else (Int.gcd t b : Nat)), b.fdiv (if b < 0 then 0 - (Int.gcd t b : Nat) else (Int.gcd t b : Nat)))
theorem fdiv_exact {x g : Int} (hg : g ≠ 0) (h : g ∣ x) : x.fdiv g * g = x := Int.fdiv_mul_cancel_of_fmod_eq_zero (Int.fmod_eq_zero_of_dvd h)
theorem ratioF_spec {t b : Int} (h : b ≠ 0) : IsFr (ratioF t b) ∧ (ratioF t b).1 * b = t * (ratioF t b).2 := by
  have g0 := Int.gcd_pos_of_ne_zero_right t h
  have d1 := Int.gcd_dvd_left t b
  have d2 := Int.gcd_dvd_right t b
  have key : ∀ s : Int, (s = (Int.gcd t b : Nat) ∧ 0 < b) ∨ (s = 0 - (Int.gcd t b : Nat) ∧ b < 0) → 0 < b.fdiv s ∧ Int.gcd (t.fdiv s) (b.fdiv s) = 1 ∧ t.fdiv s * b = t * b.fdiv s := fun s hs => by
    have s0 : s ≠ 0 := by omega
    have sa : s.natAbs = Int.gcd t b := by omega
    have e1 : s ∣ t := by
      rcases hs with ⟨rfl, _⟩ | ⟨rfl, _⟩
      · exact d1
      · rw [Int.zero_sub]; exact Int.neg_dvd.mpr d1
    have e2 : s ∣ b := by
      rcases hs with ⟨rfl, _⟩ | ⟨rfl, _⟩
      · exact d2
      · rw [Int.zero_sub]; exact Int.neg_dvd.mpr d2
    have f1 := fdiv_exact s0 e1
    have f2 := fdiv_exact s0 e2
    generalize t.fdiv s = p at *
    generalize b.fdiv s = q at *
    refine ⟨?_, ?_, ?_⟩
    · rcases hs with ⟨hs, hb⟩ | ⟨hs, hb⟩
      · by_cases z : 0 < q
        · exact z
        · have := Int.mul_nonpos_of_nonpos_of_nonneg (a := q) (b := s) (by omega) (by omega)
          omega
      · by_cases z : 0 < q
        · exact z
        · have := Int.mul_nonneg_of_nonpos_of_nonpos (a := q) (b := s) (by omega) (by omega)
          omega
    · have k : Int.gcd (p * s) (q * s) = Int.gcd p q * s.natAbs := Int.gcd_mul_right p s q
      rw [f1, f2, sa] at k
      have : Int.gcd t b * 1 = Int.gcd t b * Int.gcd p q := by
        rw [Nat.mul_one, Nat.mul_comm]
        exact k
      exact (Nat.eq_of_mul_eq_mul_left g0 this).symm
    · rw [← f1, ← f2, Int.mul_comm q s, Int.mul_assoc]
  unfold ratioF IsFr
  by_cases hb : b < 0
  · simp only [if_pos hb]
    have k := key _ (.inr ⟨rfl, hb⟩)
    exact ⟨⟨k.1, k.2.1⟩, k.2.2⟩
  · simp only [if_neg hb]
    have k := key _ (.inl ⟨rfl, by omega⟩)
    exact ⟨⟨k.1, k.2.1⟩, k.2.2⟩
theorem ratioF_le {t b : Int} (h : b ≠ 0) : (ratioF t b).1.natAbs ≤ t.natAbs ∧ (ratioF t b).2.natAbs ≤ b.natAbs := by
  have g0 := Int.gcd_pos_of_ne_zero_right t h
  unfold ratioF
  split
  · exact ⟨fdiv_le _ (by omega), fdiv_le _ (by omega)⟩
  · exact ⟨fdiv_le _ (by omega), fdiv_le _ (by omega)⟩
theorem add_lt {a b : Int} {k : Nat} (ha : a.natAbs < 2 ^ k) (hb : b.natAbs < 2 ^ k) : (a + b).natAbs < 2 ^ (k + 1) ∧ (a - b).natAbs < 2 ^ (k + 1) := by
  have : (2 : Nat) ^ (k + 1) = 2 * 2 ^ k := by rw [Nat.pow_succ, Nat.mul_comm]
  omega
end Z

namespace Z
open PySem L2
/-! ### data without lists, dicts, instances -/
mutual
def nm : D → Bool
  | .non => true | .bl _ => true | .int _ => true | .str _ => true | .opq _ => true
  | .lst _ => false | .tup ds => nms ds | .rd ds => nms ds | .ins _ _ => false | .dic _ => false | .xo _ none => true | .xo _ (some (_, d)) => nm d
def nms : List D → Bool
  | [] => true
  | d :: ds => nm d && nms ds
end
def KeepI (H H' : Hp) : Prop := ∀ a o, H a = some o → isMut o = false → H' a = some o
theorem KeepI.sq {K : PySem.W.Frag} {H H' : Hp} (e : KeepI H H') {a : Addr} {xs : List V} (h : SqL K H a xs) (hn : H a ≠ some (.lst xs)) : SqL K H' a xs := by
  rcases h with (h | ⟨o, h⟩) | h
  · exact absurd h hn
  · exact .inl (.inr ⟨o, e _ _ h rfl⟩)
  · exact .inr h
section
variable {K : PySem.W.Frag} {H H' : Hp}
mutual
def noRd : D → Bool
  | .rd _ => false | .tup ds => noRds ds | .xo _ (some (_, d)) => noRd d | _ => true
def noRds : List D → Bool
  | [] => true
  | d :: ds => noRd d && noRds ds
end
mutual
theorem Rep.nm (e : KeepI H H') : ∀ {v : V} {d : D}, Rep K H v d → Z.nm d = true → noRd d = true → Rep K H' v d
  | _, _, .non, _, _ => .non
  | _, _, .bl b, _, _ => .bl b
  | _, _, .int b, _, _ => .int b
  | _, _, .str b, _, _ => .str b
  | _, _, .opq b, _, _ => .opq b
  | _, _, .lst a r, h, _ => nomatch h
  | _, _, .tup a r, h, h' => .tup (e _ _ a rfl) (Reps.nm e r h h')
  | _, _, .rd a r, _, h => nomatch h
  | _, _, .ins a r, h, _ => nomatch h
  | _, _, .dic a r, h, _ => nomatch h
  | _, _, .xo0 n a, _, _ => .xo0 n (e _ _ a rfl)
  | _, _, .xo1 n a b r, h, h' => .xo1 n (e _ _ a rfl) (e _ _ b rfl) (Rep.nm e r h h')
theorem Reps.nm (e : KeepI H H') : ∀ {v : List V} {d : List D}, Reps K H v d → nms d = true → noRds d = true → Reps K H' v d
  | _, _, .nil, _, _ => .nil
  | _, _, .cons a r, h, h' => by
    have g : (Z.nm _ && nms _) = true := h
    have g' : (noRd _ && noRds _) = true := h'
    rw [Bool.and_eq_true] at g g'
    exact .cons (Rep.nm e a g.1 g'.1) (Reps.nm e r g.2 g'.2)
end
end
/-- what is known to be without lists, for a reader of the entry's heap -/
def flat (d : D) : Bool := nm d && noRd d
theorem keep_del {H H' : Hp} {P : Addr → Prop} (e : Same H H') (h : ∀ a, P a → Mu H' a) : KeepI H (del H' P) := fun a o q m => by
  refine del_some.mpr ⟨fun z => ?_, e _ _ q⟩
  obtain ⟨o', q', m'⟩ := h a z
  rw [e _ _ q] at q'
  cases q'
  rw [m] at m'
  cases m'
section
variable {X : Fx} {K : PySem.W.Frag} {ρ ρ' : List Sl} {ta tb tc te : TE} {t u : TS} {c : TT} {ts : TA} {d e f : D} {ds es : List D} {i : Nat} {En : Ends} {B : Addr → Prop} {H0 H : Hp} {σ : St} {τ : List (V × D)} {v : V}
/-- a thing of the entry's heap, without lists, is held -/
theorem Ok.hold (I : Ok K B H0 σ ρ τ H) (r : Rep K H0 v d) (h : flat d = true) : Ok K B H0 σ ρ ((v, d) :: τ) H := by
  obtain ⟨l, bs, bo, O, a1, a2, a3, a4, a5, a6⟩ := I
  refine ⟨l, bs, bo, O, a1, a2, a3, a4, a5, fun p hp => ?_⟩
  rcases List.mem_cons.mp hp with rfl | hp
  · unfold flat at h
    rw [Bool.and_eq_true] at h
    exact r.nm (keep_del (a1.trans (del_same _ _)) a2) h.1 h.2
  · exact a6 p hp
/-- gives a thing of the entry's heap -/
def EvH (K : PySem.W.Frag) (te : TE) (ρ : List Sl) (d : D) : Prop := ∀ (B : Addr → Prop) (H0 : Hp) (σ : St) (τ : List (V × D)) (H : Hp), Ok K B H0 σ ρ τ H → ∀ Q : VK, (∀ v H', Ok K B H0 σ ρ τ H' → Rep K H0 v d → Q v H') → te σ H Q
theorem evh_var (h : ρ[i]? = some (.bo d)) : EvH K (tVar i) ρ d := fun B H0 σ τ H I Q q => by
  obtain ⟨v, z, r⟩ := I.bo i d h
  exact ⟨v, z, q v H I r⟩
theorem EvH.ev (h : EvH K te ρ d) (hf : flat d = true) : Ev K te ρ d := fun B H0 σ τ H I Q q => h B H0 σ τ H I Q fun v H' I' r => q v H' (I'.hold r hf)
theorem ev_varB (h : ρ[i]? = some (.bo d)) (hf : flat d = true) : Ev K (tVar i) ρ d := (evh_var h).ev hf
theorem same0 (I : Ok K B H0 σ ρ τ H) : Same H0 H := by
  obtain ⟨l, bs, bo, O, a1, _⟩ := I
  exact a1.trans (del_same _ _)
theorem evh_ix {k : Int} (ha : EvH K ta ρ d) (hb : Ev K tb ρ (.int k)) (h : ixD d k = some f) : EvH K (tOp (rIx K) ta tb) ρ f := fun B H0 σ τ H I Q q =>
  ha B H0 σ τ H I _ fun x H1 I1 r1 => hb B H0 σ τ H1 I1 _ fun y H2 I2 => by
    obtain ⟨O, _, ry⟩ := I2.top
    cases ry
    have e := same0 I2
    have fin : ∀ v, Rep K H0 v f → Q v H2 := fun v hv => q v H2 I2.pop hv
    cases r1 with
    | lst hh rr =>
      obtain ⟨v, e1, e2⟩ := rr.at h
      exact .inl ⟨_, _, k, v, rfl, rfl, SqL.of (e _ _ hh), e1, fin v e2⟩
    | rd hh rr =>
      obtain ⟨v, e1, e2⟩ := rr.at h
      exact .inl ⟨_, _, k, v, rfl, rfl, e.seq hh, e1, fin v e2⟩
    | tup hh rr =>
      obtain ⟨v, e1, e2⟩ := rr.at h
      exact .inr (.inl ⟨_, _, k, v, rfl, rfl, SqT.of (e _ _ hh), e1, fin v e2⟩)
    | str s =>
      simp only [ixD] at h
      split at h
      · rename_i hs
        cases ec : atI s.cps.toList k with
        | none => rw [ec] at h; cases h
        | some c =>
          rw [ec] at h
          cases h
          exact .inr (.inr ⟨s, k, c, rfl, rfl, hs, ec, fin _ (.str _)⟩)
      · cases h
    | non => cases h
    | bl => cases h
    | int => cases h
    | opq => cases h
    | ins => cases h
    | dic => cases h
    | xo0 => cases h
    | xo1 => cases h
theorem evh_fld {C : Addr} {gs : List (Str × D)} {n : Str} (ha : EvH K ta ρ (.ins C gs)) (hc : Cls K C) (hn : NoAttr K C n) (h : gs.lookup n = some d) : EvH K (tFld K ta n) ρ d := fun B H0 σ τ H I Q q =>
  ha B H0 σ τ H I _ fun x H1 I1 r1 => by
    cases r1 with
    | ins hh rr =>
      obtain ⟨v, e1, e2⟩ := rr.look h
      exact ⟨_, C, _, _, v, rfl, same0 I1 _ _ hh, hc, hn, e1, q v H1 I1 e2⟩
theorem ev_lenH {n : Int} (ha : EvH K ta ρ d) (h : lenD d = some n) : Ev K (tCB (rLen K) (tCons ta tNil)) ρ (.int n) := fun B H0 σ τ H I Q q =>
  ha B H0 σ τ H I _ fun x H1 I1 r1 => by
    have e := same0 I1
    have fin : Q (.int n) H1 := q _ H1 (I1.push fun _ => .int n)
    cases r1 with
    | lst hh rr => cases h; exact ⟨_, _, rfl, .inl ⟨_, SqL.of (e _ _ hh), rr.length.symm⟩, fin⟩
    | rd hh rr => cases h; exact ⟨_, _, rfl, .inl ⟨_, e.seq hh, rr.length.symm⟩, fin⟩
    | tup hh rr => cases h; exact ⟨_, _, rfl, .inr ⟨_, SqT.of (e _ _ hh), rr.length.symm⟩, fin⟩
    | str s =>
      simp only [lenD] at h
      split at h
      · rename_i hs
        cases h
        exact ⟨_, _, rfl, ⟨hs, rfl⟩, fin⟩
      · cases h
    | non => cases h
    | bl => cases h
    | int => cases h
    | opq => cases h
    | ins => cases h
    | dic => cases h
    | xo0 => cases h
    | xo1 => cases h
theorem ev_isiH {n t : String} {b : Bool} (ha : EvH K ta ρ d) (ht : tyD d = some t) (hk : kitB t n = some b) : Ev K (tCB (rIsA K) (tCons ta (tCons (tC (.ty n)) tNil))) ρ (.bl b) := fun B H0 σ τ H I Q q =>
  ha B H0 σ τ H I _ fun x H1 I1 r1 => by
    have e := same0 I1
    have fin : Q (.bl b) H1 := q _ H1 (I1.push fun _ => .bl b)
    have key : TyX K H1 x (.type t) := by
      cases r1 with
      | non => cases ht; exact .base .non
      | bl b => cases ht; exact .base (.bl b)
      | int b => cases ht; exact .base (.int b)
      | str b => cases ht; exact .base (.str b)
      | lst h _ => cases ht; exact .base (.lst (e _ _ h))
      | tup h _ => cases ht; exact .base (.tup (e _ _ h))
      | rd => cases ht
      | opq => cases ht
      | ins => cases ht
      | dic h _ => cases ht; exact .base (.dK (e _ _ h))
      | xo0 => cases ht
      | xo1 => cases ht
    exact .inl ⟨x, .ty n, .type t, .type n, b, rfl, .ty n, key, kit_ty hk, fin⟩
/-- a walk over a list of the entry's heap -/
theorem evi_listH (h : EvH K te ρ d) (hd : d = .lst ds ∨ d = .rd ds) : EvIX true K (iList K te) ρ ds := fun B H0 σ τ H I R q => h B H0 σ τ H I _ fun x H1 I1 r1 => by
  have key : ∃ a vs, x = .ref a ∧ SqL K H0 a vs ∧ Reps K H0 vs ds := by
    rcases hd with rfl | rfl
    · cases r1 with
      | lst hh rr => exact ⟨_, _, rfl, SqL.of hh, rr⟩
    · cases r1 with
      | rd hh rr => exact ⟨_, _, rfl, hh, rr⟩
  obtain ⟨a, vs, rfl, hx, rr⟩ := key
  refine ⟨a, rfl, ⟨vs, (same0 I1).seq hx⟩, q _ H1 [] (fun B' H0' σ' ρ' τ' H' i hz _ I' => ?_) I1⟩
  have hq := (hz.trans (same0 I')).seq hx
  refine ⟨fun hi => ⟨vs, hq, by rw [rr.length]; exact hi⟩, fun d' hd' => ?_⟩
  obtain ⟨y, e1, e2⟩ := rr.get' hd'
  refine ⟨⟨vs, y, hq, e1⟩, fun x' H'' y' => ?_⟩
  obtain ⟨rfl, y'⟩ := y'
  have e := y' vs hq
  rw [e1] at e
  cases e
  exact ⟨I', fun _ => e2.mono hz⟩
/-- .. whose things are without lists: they are held -/
theorem EvIX.hold {wi : TI} (h : EvIX true K wi ρ ds) (hf : ∀ d, d ∈ ds → flat d = true) : EvI K wi ρ ds := fun B H0 σ τ H I R q => h B H0 σ τ H I R fun J H' τ' hw I' => q J H' τ' (fun B1 H01 σ1 ρ1 τ1 H1 i hz hm I1 => by
  obtain ⟨w1, w2⟩ := hw B1 H01 σ1 ρ1 τ1 H1 i hz hm I1
  refine ⟨w1, fun d hd => ?_⟩
  obtain ⟨g, y⟩ := w2 d hd
  refine ⟨g, fun x H'' hy => ?_⟩
  obtain ⟨I2, r⟩ := y x H'' hy
  exact ⟨I2.hold (r rfl) (hf d (List.mem_of_getElem? hd)), fun z => nomatch z⟩) I'
/-- zip of two lists of the entry's heap, whose things are without lists -/
theorem evi_zipH {d e : D} {ds es : List D} (h : EvH K ta ρ d) (h' : EvH K tb ρ e) (hd : d = .lst ds ∨ d = .rd ds) (he : e = .lst es ∨ e = .rd es) (hf : ∀ d, d ∈ ds → flat d = true) (hf' : ∀ d, d ∈ es → flat d = true) : EvI K (iZip K (tCons ta (tCons tb tNil))) ρ ((ds.zip es).map fun p => .tup [p.1, p.2]) := fun B H0 σ τ H I R q =>
  h B H0 σ τ H I _ fun x H1 I1 r1 => h' B H0 σ τ H1 I1 _ fun y H2 I2 r2 => by
    have get : ∀ (x : V) (d : D) (ds : List D), (d = .lst ds ∨ d = .rd ds) → Rep K H0 x d → ∃ a vs, x = .ref a ∧ SqL K H0 a vs ∧ Reps K H0 vs ds := fun a d ds hd rv => by
      rcases hd with rfl | rfl
      · cases rv with
        | lst hh rr => exact ⟨_, _, rfl, SqL.of hh, rr⟩
      · cases rv with
        | rd hh rr => exact ⟨_, _, rfl, hh, rr⟩
    obtain ⟨a, vs, rfl, hx, rr⟩ := get x d ds hd r1
    obtain ⟨b, ws, rfl, hy, rr'⟩ := get y e es he r2
    refine ⟨a, b, vs, ws, rfl, (same0 I2).seq hx, (same0 I2).seq hy, q _ H2 [] (fun B' H0' σ' ρ' τ' H' i hz _ I' => ?_) I2⟩
    have hq := (hz.trans (same0 I')).seq hx
    have hq' := (hz.trans (same0 I')).seq hy
    refine ⟨fun hi => ⟨vs, ws, hq, hq', ?_⟩, fun y hy => ?_⟩
    · rw [List.length_map, List.length_zip] at hi
      rw [rr.length, rr'.length]
      omega
    · rw [List.getElem?_map] at hy
      cases ez : (ds.zip es)[i]? with
      | none => rw [ez] at hy; cases hy
      | some p =>
        rw [ez] at hy
        cases hy
        obtain ⟨e1, e2⟩ := List.getElem?_zip_eq_some.mp ez
        obtain ⟨x, f1, f2⟩ := rr.get' e1
        obtain ⟨x', g1, g2⟩ := rr'.get' e2
        refine ⟨⟨vs, ws, x, x', hq, hq', f1, g1⟩, fun v H'' y => ?_⟩
        obtain ⟨T, y1, y2, rfl, hT, rfl, q1, q2⟩ := y
        have k1 := q1 vs hq
        have k2 := q2 ws hq'
        rw [f1] at k1
        rw [g1] at k2
        cases k1
        cases k2
        have J := (I'.hold (g2.mono hz) (hf' _ (List.mem_of_getElem? e2))).hold (f2.mono hz) (hf _ (List.mem_of_getElem? e1))
        refine ⟨(J.laid (d := .tup [p.1, p.2]) hT fun H' _ hh O hO hx => .tup (del_some.mpr ⟨hO, hh⟩) (.cons (hx _ (List.mem_cons_self ..)) (.cons (hx _ (List.mem_cons_of_mem _ (List.mem_cons_self ..))) .nil))).sub fun y hy => ?_, fun z => nomatch z⟩
        rcases List.mem_cons.mp hy with rfl | hy
        · exact List.mem_cons_self ..
        · exact List.mem_cons_of_mem _ (List.mem_cons_of_mem _ (List.mem_cons_of_mem _ hy))
/-! ### arguments that are only lent -/
def EvL (K : PySem.W.Frag) (ta : TA) (ρ : List Sl) (ds : List D) : Prop := ∀ (B : Addr → Prop) (H0 : Hp) (σ : St) (τ : List (V × D)) (H : Hp), Ok K B H0 σ ρ τ H → ∀ Q : List V → Hp → Prop, (∀ vs H', Ok K B H0 σ ρ τ H' → Reps K H' vs ds → Q vs H') → ta σ H Q
theorem evl_nil : EvL K tNil ρ [] := fun B H0 σ τ H I Q q => q [] H I .nil
theorem evl_st (ha : Ev K ta ρ d) (hs : EvL K ts ρ ds) : EvL K (tCons ta ts) ρ (d :: ds) := fun B H0 σ τ H I Q q =>
  ha B H0 σ τ H I _ fun x H1 I1 => hs B H0 σ _ H1 I1 _ fun vs H2 I2 r => q (x :: vs) H2 I2.pop (.cons (by
    obtain ⟨O, _, r2⟩ := I2.top
    exact r2.mono (del_same _ _)) r)
theorem evl_bo (ha : EvH K ta ρ d) (hs : EvL K ts ρ ds) : EvL K (tCons ta ts) ρ (d :: ds) := fun B H0 σ τ H I Q q =>
  ha B H0 σ τ H I _ fun x H1 I1 r1 => hs B H0 σ _ H1 I1 _ fun vs H2 I2 r => q (x :: vs) H2 I2 (.cons (r1.mono (same0 I2)) r)
theorem evl_ow {es : List D} (h : ρ[i]? = some (.ow es)) (hs : EvL K ts ρ ds) : EvL K (tCons (tVar i) ts) ρ (.lst es :: ds) := fun B H0 σ τ H I Q q => by
  obtain ⟨a, vs, ha, hH, hl, I1⟩ := I.own h
  refine ⟨.ref a, ha, hs B H0 σ τ H I _ fun ws H2 I2 r => q (.ref a :: ws) H2 I2 (.cons ?_ r)⟩
  obtain ⟨l, bs, bo, O, a1, a2, a3, a4, a5, a6⟩ := I2
  obtain ⟨a', vs', z, m, x, rr⟩ := a4 i es h
  rw [ha] at z
  cases z
  exact .lst x (rr.mono (del_same _ _))
/-- a promise whose answer holds none of the lists that stood ahead -/
def spN (K : PySem.W.Frag) (F : List D → D → Prop) : Sp := fun vs H Q _ => ∃ (ds : List D) (d : D), Reps K H vs ds ∧ F ds d ∧ ∀ v H', Same H H' → Rep K (del H' (Mu H)) v d → Q v H'
theorem z_call {F : List D → D → Prop} {E : XK} (hs : EvL K ts ρ ds) (hf : F ds d) : Ev K (tCall (spN K F) [] E ts) ρ d := fun B H0 σ τ H I Q q =>
  hs B H0 σ τ H I _ fun vs H1 I1 r => ⟨ds, d, by rw [List.append_nil]; exact r, hf, fun v H' e rr => q v H' (by
    obtain ⟨ln, bs, bo, O, a1, a2, a3, a4, a5, a6⟩ := I1
    refine ⟨ln, bs, bo, O, a1.trans (del_mono e), fun a q => (a2 a q).mono e, fun i d q => ?_, fun i ds q => ?_, a5, fun p hp => ?_⟩
    · obtain ⟨v, z, r⟩ := a3 i d q
      exact ⟨v, z, r.mono (del_mono e)⟩
    · obtain ⟨a, vs, z, m, x, r⟩ := a4 i ds q
      exact ⟨a, vs, z, m, e _ _ x, r.mono (del_mono e)⟩
    · rcases List.mem_cons.mp hp with rfl | hp
      · exact rr.mono (del_sub a2)
      · exact (a6 p hp).mono (del_mono e))⟩
end
section
variable {P : Program} {w : World} {K : PySem.W.Frag} {mg : Str → Option Value} {base : Heap}
theorem def_okN {x qual : Str} {st : Stmt} {f : Addr} {fd : FuncData} {N ps : List Str} {k n : Nat} {F : List D → D → Prop} (Fn : Fun K x qual st f fd) (S : FnScope N ps (defScope st)) (len : ∀ ds d, F ds d → ds.length = ps.length) (hn : N.length = ps.length + n)
    (hbody : ∀ (cdv : Value) (A : Around) (outer : List Env) (s : Shared) (H : Hp) (E : XK), Room k (A.deeper (PyProof.Rows.envOfC qual (defScope st) s.heap.objs.size f cdv)) →
      ∃ t, PSs (cxOf CX0 P w K mg base N qual (defScope st) f cdv A outer s H E).nox (defBody st) t ∧
        ∀ (ds : List D) (d : D), F ds d → ∀ (X : Fx) (Q : VK), X.K = K → Rt X Q d → Sw X t { nx := fun _ H' => Q .non H', rt := Q } (entryB ds n)) : FnOk P w K mg base CX0 (k + 1) f fd ps (spN K F) := by
  refine Fn.ok S (fun vs H Q E h => ?_) (fun cdv A outer s H vs Q E hr h => ?_)
  · obtain ⟨ds, d, r, hf, _⟩ := h
    rw [r.length, len ds d hf]
  · obtain ⟨ds, d, r, hf, q⟩ := h
    obtain ⟨t, ht, hw⟩ := hbody cdv A outer s H E hr
    refine ⟨t, ht, ?_⟩
    exact hw ds d hf ⟨K, Mu H, H, []⟩ Q rfl (fun v H' e r => q v H' e r) _ _ (ok_startB (fun _ h => h) r (by rw [hn, len ds d hf]))
end
structure GdN (P : Program) (w : World) (K : PySem.W.Frag) (mg : Str → Option Value) (base : Heap) (x : Str) (k : Nat) (ps : List Str) (F : List D → D → Prop) : Prop where
  ex : ∃ f fd, FnOk P w K mg base CX0 k f fd ps (spN K F) ∧ mg x = some (.ref f) ∧ PySem.W.keepIn K (.ref f) = true ∧ Binds K fd ps []
section
variable {X : Cx} {e : Expr} {es : List Expr} {t : TA} {x : Str} {p pos : Pos} {k j : Nat} {ps : List Str} {F : List D → D → Prop}
theorem pe_gdN (G : GdN X.prog X.w X.K X.mg X.base x k ps F) (hr : Room j X.A) (hj : k ≤ j) (hg : Gl X x) (ha : PA X (e :: es) t) (hdb : (x == ("__debug__" : Str)) = false := by decide) (he : starEach (e :: es) X.env = (false, eval e X.env) :: starEach es X.env := by rfl) (hpl : (backTo pos (starEach es X.env)).any (·.1) = false := by rfl) :
    PE X (.Call (.Name x p) (e :: es) [] pos) (tCall (spN X.K F) [] E0 t) := by
  obtain ⟨f, fd, h1, h2, h3, h4⟩ := G.ex
  exact pe_call h1 (hr.mono hj) hg h2 h3 h4 .nil pass0 ha hdb he hpl
end
/-- a slot forgotten -/
theorem nx_drop {X : Fx} {P : L2.St → Hp → Prop} {ρ : List Sl} {i : Nat} (h : Nx X P (ρ.set i .no)) : Nx X P ρ := fun σ H I => h σ H (by
  obtain ⟨l, bs, bo, O, a1, a2, a3, a4, a5, a6⟩ := I
  have st : ∀ (j : Nat) (s : Sl), s ≠ .no → (ρ.set i .no)[j]? = some s → ρ[j]? = some s := fun j s hs q => by
    rcases set_get q with ⟨_, z, _⟩ | q
    · exact absurd z.symm hs
    · exact q.2
  exact ⟨by rw [List.length_set, l], bs, fun j d q => bo j d (st j _ (by intro z; cases z) q), O, a1, a2, fun j d q => a3 j d (st j _ (by intro z; cases z) q), fun j ds q => a4 j ds (st j _ (by intro z; cases z) q),
    fun j k ds es b q1 q2 => a5 j k ds es b (st j _ (by intro z; cases z) q1) (st k _ (by intro z; cases z) q2), a6⟩)
theorem law_spN {K : PySem.W.Frag} {F : List D → D → Prop} {H : Hp} {a : Addr} {ns : List Int} {E : XK} (hS : SqL K H a (ns.map V.int)) (hF : F [.rd (ns.map D.int)] (.bl true)) : spN K F [.ref a] H (fun v _ => v = .bl true) E :=
  ⟨[.rd (ns.map D.int)], .bl true, .cons (.rd hS (Reps.of_ints _)) .nil, hF, fun v H' _ r => by cases r; rfl⟩
end Z

namespace Z
open PySem L2
section
variable {X : Cx} {pins : List (Addr × Obj)} {σ : L2.St} {H : Hp} {s : Shared}
/-- out of an except suite, its exception still pinned -/
theorem inv_leave {a : Addr} {q : Addr × Obj} {more : List (Addr × Obj)} (I : Inv (X.suite a (q :: (X.pn ++ pins))) more σ H s) (ok : X.Ok) : Inv X (q :: pins) σ H s := by
  have pp : ∀ p, p ∈ X.pn ++ q :: pins → p ∈ (q :: (X.pn ++ pins)) ++ more := fun p hp => by
    simp only [List.mem_append, List.mem_cons] at hp ⊢
    rcases hp with h | h | h
    · exact .inl (.inr (.inl h))
    · exact .inl (.inl h)
    · exact .inl (.inr (.inr h))
  constructor
  · exact ok
  · exact I.os
  · exact I.bare
  · exact I.base
  · exact I.loc
  · exact I.cell
  · exact I.free
  · exact I.freeC
  · exact fun p hp => I.pin p (pp p hp)
  · exact I.hok
  · exact I.len
/-- a pinned exception of our own time is tracked from now on -/
theorem inv_track {a : Addr} {oe : Obj} {cls : Value} {d : Option Addr} (J : Inv X ((a, oe) :: pins) σ H s) (n0 : X.s_0.heap.get? a = none) (apart : ∀ p, p ∈ X.pn ++ pins → p.1 ≠ a) (hz : Zc cls d oe) (hd : ∃ vs, oe.data = .fields vs) : Inv X pins σ (upd H a (XO cls d a)) s := by
  have pa := J.pin (a, oe) (List.mem_append_right _ (List.mem_cons_self ..))
  have he : s.heap.get? a = some oe := pa.1
  have na : H a = none := pa.2.1
  have off : ∀ {b : Addr} {o : HO}, H b = some o → upd H a (XO cls d a) b = some o := fun {b o} q => (upd_ne (ne_of_none q na)).trans q
  constructor
  · exact J.ok
  · exact J.os
  · exact J.bare
  · constructor
    · exact J.base.keep
    · exact J.base.slot
    · intro b o e n hx
      have hb : b ≠ a := fun z => by
        subst z
        rw [n0] at e
        cases e
      exact (upd_ne hb).trans (J.base.free b o e n hx)
    · exact J.base.there
    · exact fun b xs e => off (J.base.tups b xs e)
    · exact fun b o u e => off (J.base.frzs b o u e)
    · intro b ps e
      obtain ⟨m, q⟩ := J.base.tbls b ps e
      exact ⟨m, off q⟩
  · exact J.loc
  · exact J.cell
  · exact (upd_ne (Ne.symm pa.2.2.1)).trans J.free
  · intro x c e
    have hc : c ≠ a := fun z => by
      subst z
      obtain ⟨v, o, ho, hdat⟩ := J.cell x c e
      rw [he] at ho
      cases ho
      exact pa.2.2.2.2 _ hdat
    exact (upd_ne hc).trans (J.freeC x c e)
  · intro p hp
    have q := J.pin p (by
      simp only [List.mem_append, List.mem_cons] at hp ⊢
      rcases hp with h | h
      · exact .inl h
      · exact .inr (.inr h))
    exact ⟨q.1, (upd_ne (apart p hp)).trans q.2.1, q.2.2⟩
  · intro b u e
    by_cases hb : b = a
    · subst hb
      rw [upd_same] at e
      cases e
      obtain ⟨vs, hd⟩ := hd
      exact ⟨⟨oe, vs, he, hz.1, hz.2, hd⟩, ⟨oe, he⟩, fun h1 h2 ⟨o1, v1, q1, r1⟩ k => ⟨o1, v1, k o1 q1, r1⟩⟩
    · rw [upd_ne hb] at e
      exact (J.hok b u e).stay (fun _ _ _ q => q) (fun _ q => off q) fun _ _ q => off q
  · exact J.len
end
/-- the ends behind a suite whose exception, at a, is kept; slot i was its name's -/
def keepEnds (D : Ends) (i : Nat) (a : Addr) (o : HO) : Ends where
  nx := fun σ H => D.nx (σ.set i none) (upd H a o)
  rt := fun v H => D.rt v (upd H a o)
  bk := fun σ H => D.bk (σ.set i none) (upd H a o)
  ct := fun σ H => D.ct (σ.set i none) (upd H a o)
/-- what the clause wishes: the exception is kept as a thing behind its suite -/
def wKeep (K : PySem.W.Frag) (c : Value) (i : Nat) (ts : Addr → Value → Option Addr → TS) (Wout : WX) (D : Ends) : WX := fun cls d σ H =>
  ∃ b, PySem.W.exmOne K cls c = some b ∧ (b = false → Wout cls d σ H) ∧
    (b = true → ∀ a, H a = none → ts a cls d (keepEnds D i a (XO cls d a)) (σ.set i (some (.ref a))) H)
section
variable {X : Cx} {pins : List (Addr × Obj)}
/-- where an exception lies that is about to be looked at: off the frames, none of what stood at the entry, none of what is pinned -/
structure Lies (X : Cx) (pins : List (Addr × Obj)) (a : Addr) : Prop where
  loc : a ≠ X.env.locals
  fs : a ∉ X.fs
  fresh : X.s_0.heap.get? a = none
  apart : ∀ p, p ∈ X.pn ++ pins → p.1 ≠ a
theorem lies_of {B : Heap} {a : Addr} {Zf : Obj → Prop} {h : Heap} {sI : Shared} {σ : L2.St} {H : Hp} (hs : X.stack = X.env :: X.outer) (hf : X.env.frame = some X.env.locals) (hex : X.ex = []) (J : Inv X pins σ H sI)
    (nb : ∀ b o, sI.heap.get? b = some o → b ∉ frs X.stack → B.get? b = some o) (fl : HandSPX.FlyingZ B (X.env :: X.outer) a Zf h) : Lies X pins a := by
  obtain ⟨oe, vs, he, _, hd⟩ := fl.there
  have nfr : a ∉ frs (X.env :: X.outer) := fun hm => by
    obtain ⟨_, o, e, hno⟩ := fl.2.2.1.mem hm
    rw [he] at e
    cases e
    exact hno _ hd
  have nI : sI.heap.get? a = none := by
    cases e : sI.heap.get? a with
    | none => rfl
    | some o =>
      have z := nb a o e (hs ▸ nfr)
      rw [fl.2.1] at z
      cases z
  constructor
  · intro z
    exact nfr (List.mem_filterMap.mpr ⟨X.env, List.mem_cons_self .., by rw [hf, z]⟩)
  · intro hm
    obtain ⟨e, h1, h2⟩ := List.mem_filterMap.mp hm
    exact nfr (List.mem_filterMap.mpr ⟨e, List.mem_cons_of_mem _ h1, h2⟩)
  · cases e : X.s_0.heap.get? a with
    | none => rfl
    | some o =>
      obtain ⟨o', z⟩ := J.base.there a o e (by rw [hex]; exact fun z => nomatch z)
      rw [nI] at z
      cases z
  · intro p hp z
    have q := (J.pin p hp).1
    rw [z, nI] at q
    cases q
variable {x n : Str} {c : Value} {i : Nat} {body suite : List Stmt} {b₀ : Stmt} {px p1 p2 : Pos} {tb : WX → TS} {ts : Addr → Value → Option Addr → TS} {Wout : WX}
theorem ps_try_keep (hs : X.stack = X.env :: X.outer) (hf : X.env.frame = some X.env.locals) (hex : X.ex = []) (hN : X.N.Nodup) (hi : X.N[i]? = some n) (hln : X.env.kindOf n = some .local) (hc : Names X x c) (tk : Takes X Wout)
    (hb : ∀ (W : WX) (pn : List (Addr × Obj)) (xe : Value → Shared → Prop), Takes (X.tr pn xe) W → PassesOwn (model X.prog X.w) X.A X.env xe → PSs (X.tr pn xe) body (tb W))
    (hsu : ∀ (a : Addr) (oe : Obj) (cls : Value) (d : Option Addr) (pn : List (Addr × Obj)), Zc cls d oe → (∃ vs, oe.data = .fields vs) → PSs (X.suite a ((a, oe) :: pn)) (b₀ :: suite) (ts a cls d)) :
    PS X (.Try body [.ExceptHandler (some (.Name x px)) (some n) (b₀ :: suite) p1] [] [] p2) (fun D σ H => tb (wKeep X.K c i ts Wout D) D σ H) := by
  constructor
  intro pins s σ H D I h
  have ok := I.ok
  have frames : X.A.frames = some (X.env :: X.outer) := ok.frames.trans (congrArg some hs)
  let hand : List ExceptHandler := [.ExceptHandler (some (.Name x px)) (some n) (b₀ :: suite) p1]
  let M := model X.prog X.w
  -- what stands behind a raise: the frame noted, the flight over, the clauses asked
  let xe : Value → Shared → Prop := fun e s₁ => wpAny M X.A (noteFrame e X.env) (fun _ s₂ => wpAny M X.A (setFlight e none) (fun _ s₃ => wpAny M X.A (handleBy e X.env hand) (SP X pins D) X.xe s₃) X.xe s₂) X.xe s₁
  have catches : Takes (X.tr (X.pn ++ pins) xe) (wKeep X.K c i ts Wout D) := by
    intro u s' air
    obtain ⟨a, B, sI, pins', σ', H', cls, d, eu, Jt, nb, up, sky, na, os, ag, b, hb1, hno, hyes⟩ := air
    subst eu
    have J : Inv X pins σ' H' sI := Jt.ofTry ok
    have sky' : Sky B (X.env :: X.outer) a (Zc cls d) X.env.locals s'.heap := hs ▸ sky
    show wpAny M X.A (noteFrame (.ref a) X.env) _ _ _
    apply Sky.land Zc.steady frames hf sky'
    intro h3 fl3 up3
    have L := lies_of hs hf hex J nb fl3
    have back : ∀ {hh : Heap}, HandSPX.FlyingZ B (X.env :: X.outer) a (Zc cls d) hh → sI.heap.UpToSlots hh → Inv X pins σ' H' { s' with heap := hh } := fun fl u => J.landed nb fl.1 u os ag
    have inSuite : ∀ {hh : Heap}, HandSPX.FlyingZ B (X.env :: X.outer) a (Zc cls d) hh → sI.heap.UpToSlots hh → ∃ oe, Zc cls d oe ∧ (∃ vs, oe.data = .fields vs) ∧ hh.get? a = some oe ∧ Inv (X.suite a ((a, oe) :: (X.pn ++ pins))) [] σ' H' { s' with heap := hh } := fun fl u => by
      obtain ⟨oe, vs, he, hz, hd⟩ := fl.there
      exact ⟨oe, hz, ⟨vs, hd⟩, he, (back fl u).suite he hd na L.loc L.fs⟩
    obtain ⟨oe3, hz3, _, he3, S3⟩ := inSuite fl3 (up.trans up3)
    apply wpAny_handleBy_cons
    rotate_left
    · intro q
      cases q
    apply codeAny_handlers_test
    have isOf : PySem.W.Looks M h3 (typeOf (.ref a)) cls := fun _ _ _ _ k q => wpAny_typeOf_ref (k _ _ he3) (hz3.1.symm ▸ q)
    have asks := PySem.W.exm_one (M := M) (back fl3 (up.trans up3)).kIn isOf hb1
    have named : ∀ {Q E : Value → Shared → Prop}, Q c { s' with heap := h3 } → wpAny M (X.A.mark (some (.ref a))) (eval (.Name x px) X.env) Q E { s' with heap := h3 } := fun {Q E} q => by
      rcases hc with ⟨g1, g2, g3 | ⟨g3, g4, g5⟩⟩
      · exact ld_glob S3 g1 g3 q g2
      · exact ld_blt S3 g1 g3 g4 q g5 g2
    apply named
    apply asks.here
    cases b
    · -- none of ours: it goes on
      show wpAny _ X.A (handleBy (.ref a) X.env []) _ _ _
      apply wpAny_handleBy_nil
      obtain ⟨_, _, _, oe, vs, T, oT, _, he, _, hd, h1, _⟩ := id fl3
      unfold PySem.passOn
      apply wpAny_bind
      apply wpAny_field he hd h1
      have nT : ¬ ((Value.ref T == Value.none) = true) := by simp
      rw [if_neg nT]
      have flies : wpAny M X.A (setFlight (.ref a) X.env.frame) (fun _ s4 => wpAny M X.A (throw (.ref a) : Sem Flow) (SP X pins D) X.xe s4) X.xe { s' with heap := h3 } := by
        rw [hf]
        apply HandSPX.setFlight_upZ fl3
        intro h4 fl4 up4
        apply wpAny_throw
        apply tk
        exact ⟨a, B, sI, pins, σ', H', cls, d, rfl, J, nb, (up.trans up3).trans up4, .inr (.inr (hs ▸ fl4)), na, os, ag, hno rfl⟩
      first
        | exact wpAny_bind (wpAny_pure (wpAny_bind flies))
        | exact wpAny_bind flies
    · -- ours: the suite
      apply codeAny_handlers_suite_as
      apply HandSPX.lands_againZ fl3
      intro h4 fl4 up4
      obtain ⟨oe4, hz4, hd4, he4, S4⟩ := inSuite fl4 ((up.trans up3).trans up4)
      have hloc : Loc X.env.scope n := .inl hln
      apply store_ok (X := X.suite a ((a, oe4) :: (X.pn ++ pins))) (v := .ref a) S4 hN hi hloc rfl (hf := .inr hln)
      intro s5 S5
      have run := (hsu a oe4 cls d (X.pn ++ pins) hz4 hd4).run [] s5 _ H' _ S5 (hyes rfl a na)
      have behind : ∀ {σ6 : L2.St} {H6 : Hp} {s6 : Shared} {Q : Shared → Prop}, Inv (X.suite a ((a, oe4) :: (X.pn ++ pins))) [] σ6 H6 s6 → (∀ s7, Inv X pins (σ6.set i none) (upd H6 a (XO cls d a)) s7 → Q s7) →
          wpAny M X.A (do bindName X.env n .none; unbindBehindTheSuite X.env n p1) (fun _ s7 => Q s7) X.xe s6 := fun {σ6 H6 s6 Q} S6 hq =>
        gone_ok (inv_leave S6 ok) hN hi hln fun s7 J7 => hq s7 (inv_track J7 L.fresh L.apart hz4 hd4)
      apply wpAny_mono run
      · intro f s6 hsp
        cases f
        · obtain ⟨σ6, H6, S6, q6⟩ := hsp
          exact behind S6 fun s7 J7 => ⟨_, _, J7, q6⟩
        · obtain ⟨σ6, H6, S6, q6⟩ := hsp
          exact behind S6 fun s7 J7 => ⟨_, _, J7, q6⟩
        · obtain ⟨σ6, H6, S6, q6⟩ := hsp
          exact behind S6 fun s7 J7 => ⟨_, _, J7, q6⟩
        · obtain ⟨v6, σ6, H6, S6, r6, q6⟩ := hsp
          exact behind S6 fun s7 J7 => ⟨_, _, _, J7, r6, q6⟩
      · exact fun _ _ z => False.elim z
  apply wpAny_Try_except
  apply wpAny_mono ((hb _ (X.pn ++ pins) xe catches PassesOwn.looking).run [] s σ H D (I.toTry _) h)
  · intro f s1 hsp
    cases f
    · obtain ⟨σ', H', J, q⟩ := hsp
      exact wpAny_execs_nil ⟨σ', H', J.ofTry ok, q⟩
    · obtain ⟨σ', H', J, q⟩ := hsp
      exact ⟨σ', H', J.ofTry ok, q⟩
    · obtain ⟨σ', H', J, q⟩ := hsp
      exact ⟨σ', H', J.ofTry ok, q⟩
    · obtain ⟨v, σ', H', J, r, q⟩ := hsp
      exact ⟨v, σ', H', J.ofTry ok, r, q⟩
  · exact fun _ _ z => z
end
/-! ### promises of defs that may raise -/
inductive Out where
  | ret (d : D) | exc (x : Str) (own : Option (Str × D))
/-- what is wanted of an outcome: Q of an answer, E of an error -/
def Wants (K : PySem.W.Frag) (B : Addr → Prop) (H : Hp) (Q : VK) (E : XK) : Out → Prop
  | .ret d => ∀ v H', Same H H' → Rep K (del H' B) v d → Q v H'
  | .exc x none => ∀ C H', PySem.W.nsIn K mainGlobals x = some (some (.ref C)) → Same H H' → E (.ref C) none H'
  | .exc x (some (f, d)) => ∀ C dx v H', PySem.W.nsIn K mainGlobals x = some (some (.ref C)) → Same H H' → H' dx = some (.xd [(f, v)]) → Rep K (del H' B) v d → E (.ref C) (some dx) H'
def spX (K : PySem.W.Frag) (F : List D → Out → Prop) : Sp := fun vs H Q E => ∃ (B : Addr → Prop) (ds : List D) (o : Out), (∀ a, B a → Mu H a) ∧ Reps K (del H B) vs ds ∧ F ds o ∧ Wants K B H Q E o
def RtO (X : Fx) (Q : VK) (E : XK) (o : Out) : Prop := Wants X.K X.B X.H0 Q E o
section
variable {P : Program} {w : World} {K : PySem.W.Frag} {mg : Str → Option Value} {base : Heap}
theorem def_okX {x qual : Str} {st : Stmt} {f : Addr} {fd : FuncData} {N ps : List Str} {k n : Nat} {F : List D → Out → Prop} (Fn : Fun K x qual st f fd) (S : FnScope N ps (defScope st)) (len : ∀ ds o, F ds o → ds.length = ps.length) (hn : N.length = ps.length + n)
    (hbody : ∀ (cdv : Value) (A : Around) (outer : List Env) (s : Shared) (H : Hp) (E : XK), Room k (A.deeper (PyProof.Rows.envOfC qual (defScope st) s.heap.objs.size f cdv)) →
      ∃ t, PSs (cxOf (L2.CX P w) P w K mg base N qual (defScope st) f cdv A outer s H E) (defBody st) t ∧
        ∀ (ds : List D) (o : Out), F ds o → ∀ (X : Fx) (Q : VK), X.K = K → RtO X Q E o → Sw X t { nx := fun _ H' => Q .non H', rt := Q } (entry ds n)) : FnOk P w K mg base (L2.CX P w) (k + 1) f fd ps (spX K F) := by
  refine Fn.okX S (fun vs H Q E h => ?_) (fun cdv A outer s H vs Q E hr h => ?_)
  · obtain ⟨B, ds, o, _, r, hf, _⟩ := h
    rw [r.length, len ds o hf]
  · obtain ⟨B, ds, o, hB, r, hf, q⟩ := h
    obtain ⟨t, ht, hw⟩ := hbody cdv A outer s H E hr
    exact ⟨t, ht, hw ds o hf ⟨K, B, H, []⟩ Q rfl q _ _ (ok_start hB r (by rw [hn, len ds o hf]))⟩
end
structure GdX (P : Program) (w : World) (K : PySem.W.Frag) (mg : Str → Option Value) (base : Heap) (x : Str) (k : Nat) (ps : List Str) (F : List D → Out → Prop) : Prop where
  ex : ∃ f fd, FnOk P w K mg base (L2.CX P w) k f fd ps (spX K F) ∧ mg x = some (.ref f) ∧ PySem.W.keepIn K (.ref f) = true ∧ Binds K fd ps []
/-- an own class of errors without __init__ -/
structure ErrC (K : PySem.W.Frag) (mg : Str → Option Value) (x : Str) : Prop where
  ex : ∃ C, mg x = some (.ref C) ∧ PySem.W.nsIn K mainGlobals x = some (some (.ref C)) ∧ PySem.W.excIn K C [.type "ValueError", .type "Exception", .type "BaseException", .type "object"] "ValueError.__new__" = true ∧ PySem.W.keepIn K (.ref C) = true ∧ PySem.W.subIn K (.ref C) (.type "BaseException") = some true ∧ PySem.W.typeIn K (.ref C) = some (.type "type")
def tRaiseN (K : PySem.W.Frag) (x : Str) (W : WX) : TS := fun _ σ H => ∀ C, PySem.W.nsIn K mainGlobals x = some (some (.ref C)) → W (.ref C) none σ H
/-- the try whose error is kept: i the slot of the clause's name, j the slot that keeps it -/
def tTryK (K : PySem.W.Frag) (F : List D → Out → Prop) (c : Value) (i j : Nat) (ta : TA) : TS := fun D σ H => ta σ H fun vs H1 => spX K F vs H1 (fun _ H2 => D.nx σ H2) fun cls d H2 =>
  wKeep K c i (fun _ _ _ => tAsg (tVar i) (gName j)) (fun _ _ _ _ => False) D cls d σ H2
section
variable {X : Cx} {e : Expr} {es : List Expr} {t : TA} {x : Str} {p p2 pos pos2 : Pos} {k j kk : Nat} {ps : List Str} {F : List D → Out → Prop} {E : XK} {W : WX} {m : Str}
/-- the call never raises here -/
theorem pe_gdX0 (G : GdX X.prog X.w X.K X.mg X.base x k ps F) (hr : Room kk X.A) (hj : k ≤ kk) (hg : Gl X x) (ha : PA X (e :: es) t) (hdb : (x == ("__debug__" : Str)) = false := by decide) (he : starEach (e :: es) X.env = (false, eval e X.env) :: starEach es X.env := by rfl) (hpl : (backTo pos (starEach es X.env)).any (·.1) = false := by rfl) :
    PE X (.Call (.Name x p) (e :: es) [] pos) (tCall (spX X.K F) [] E0 t) := by
  obtain ⟨f, fd, h1, h2, h3, h4⟩ := G.ex
  exact pe_call h1 (hr.mono hj) hg h2 h3 h4 .nil passL ha hdb he hpl
/-- what the call raises goes on -/
theorem pe_gdXr (tk : Takes X (fun cls d _ H => E cls d H)) (G : GdX X.prog X.w X.K X.mg X.base x k ps F) (hr : Room kk X.A) (hj : k ≤ kk) (hg : Gl X x) (ha : PA X (e :: es) t) (hdb : (x == ("__debug__" : Str)) = false := by decide) (he : starEach (e :: es) X.env = (false, eval e X.env) :: starEach es X.env := by rfl) (hpl : (backTo pos (starEach es X.env)).any (·.1) = false := by rfl) :
    PE X (.Call (.Name x p) (e :: es) [] pos) (tCall (spX X.K F) [] E t) := by
  obtain ⟨f, fd, h1, h2, h3, h4⟩ := G.ex
  exact pe_call h1 (hr.mono hj) hg h2 h3 h4 .nil (passes_call tk fun _ _ _ _ h => h) ha hdb he hpl
theorem ps_raiseN {jj : Nat} (hc : X.calm = true) (T : ErrC X.K X.mg x) (tk : Takes X W) (hg : Gl X x) (hdb : (x == ("__debug__" : Str)) = false := by decide) :
    PS X (.Raise (some (.Call (.Name x p) [.Constant (.str m) jj p2] [] pos)) none pos2) (tRaiseN X.K x W) := by
  obtain ⟨C, g1, g2, g3, g4, g5, g6⟩ := T.ex
  have R := ps_raise (pos := pos2) hc tk (pmk_own (m := m) (j := jj) (p := p) (p2 := p2) (pos := pos) PySem.F.excBase_ValueError g3 g1 g4 (raises_own g5 g6) hg hdb)
  exact ⟨fun pins s σ H D I h => R.run pins s σ H D I (h C g2)⟩
theorem ps_tryK {f n y : Str} {i j : Nat} {c : Value} {px p1 p3 q1 q2 q3 : Pos} (hs : X.stack = X.env :: X.outer) (hf : X.env.frame = some X.env.locals) (hex : X.ex = []) (hN : X.N.Nodup) (hi : X.N[i]? = some n) (hln : X.env.kindOf n = some .local)
    (hj : X.N[j]? = some y) (hyl : X.env.scope.names.lookup y = some .local) (hc : Names X x c) (G : GdX X.prog X.w X.K X.mg X.base f k ps F) (hr : Room kk X.A) (hk : k ≤ kk) (hg : Gl X f)
    (ha : ∀ (pn : List (Addr × Obj)) (xe : Value → Shared → Prop), PA (X.tr pn xe) (e :: es) t) (hnx : Takes X fun _ _ _ _ => False) (hdb : (f == ("__debug__" : Str)) = false := by decide) (he : starEach (e :: es) X.env = (false, eval e X.env) :: starEach es X.env := by rfl) (hpl : (backTo pos (starEach es X.env)).any (·.1) = false := by rfl)
    (hq : interactive X.env = false := by rfl) (hsw : swapsWith (.Call (.Name f p) (e :: es) [] pos) none pos2.line X.env = pure false := by rfl)
    (hnd : (n == ("__debug__" : Str)) = false := by decide) (hnc : (n == ("__classdict__" : Str)) = false := by decide) (hsw2 : swapsWith (.Name n q1) (some (.Name y q2)) q3.line X.env = pure false := by rfl) :
    PS X (.Try [.Expr (.Call (.Name f p) (e :: es) [] pos) pos2] [.ExceptHandler (some (.Name x px)) (some n) [.Assign [.Name y q2] (.Name n q1) q3] p1] [] [] p3) (tTryK X.K F c i j t) := by
  obtain ⟨fa, fd, h1, h2, h3, h4⟩ := G.ex
  have R := ps_try_keep (body := [.Expr (.Call (.Name f p) (e :: es) [] pos) pos2]) (suite := []) (b₀ := .Assign [.Name y q2] (.Name n q1) q3) (px := px) (p1 := p1) (p2 := p3) (tb := fun W => tDrop (tCallS (spX X.K F) (WE W) t)) (ts := fun _ _ _ => tAsg (tVar i) (gName j)) (Wout := fun _ _ _ _ => False) hs hf hex hN hi hln hc hnx
    (fun W pn xe tk _ => pss_one (ps_expr (pe_callS h1 (hr.mono hk) hg h2 h3 h4 (fun σ => passAt tk σ) (ha pn xe) hdb he hpl) hsw))
    (fun a oe cls d pn _ _ => pss_one (ps_set (i := j) hN hj (.inl hyl) (pe_var hi (.inl hln) hnd hnc) hsw2 (.inr hyl)))
  refine ⟨fun pins s σ H D I h => R.run pins s σ H D I ?_⟩
  have e : ∀ vs : List V, vs ++ [] = vs := List.append_nil
  exact h
end
/-! ### readings -/
section
variable {X : Fx} {ρ ρ' : List Sl} {te : TE} {t u : TS} {ts : TA} {d : D} {ds : List D} {i j : Nat} {En : Ends} {F : List D → Out → Prop} {E : XK} {K : PySem.W.Frag} {x : Str} {own : Option (Str × D)} {c : Value} {o : Out}
theorem Ok.ends {B : Addr → Prop} {H0 H : Hp} {σ : L2.St} {τ : List (V × D)} (I : Ok K B H0 σ ρ τ H) : ∃ O, Same H0 (del H (Onl O)) ∧ (∀ a, un B O a → Mu H a) := by
  obtain ⟨ln, bs, bo, O, a1, a2, _⟩ := I
  exact ⟨O, a1, a2⟩
theorem x_call (hs : EvA K ts ρ ds) (hf : F ds (.ret d)) : Ev K (tCall (spX K F) [] E ts) ρ d := fun B H0 σ τ H I Q q =>
  hs B H0 σ τ H I _ fun vs H1 l I1 => by
    have I1' := I1
    obtain ⟨ln, bs, bo, O, a1, a2, a3, a4, a5, a6⟩ := I1
    refine ⟨un B O, ds, .ret d, a2, by rw [List.append_nil]; exact .of_zip l fun p hp => a6 p (List.mem_append_left _ hp), hf, fun v H' e r => q v H' ?_⟩
    have G := (zip_sub I1').grow e
    obtain ⟨O', hO⟩ : ∃ O', O' = O := ⟨_, rfl⟩
    refine ⟨ln, bs, bo, O, a1.trans (del_mono e), fun a q => (a2 a q).mono e, fun i d q => ?_, fun i ds q => ?_, a5, fun p hp => ?_⟩
    · obtain ⟨v, z, r⟩ := a3 i d q
      exact ⟨v, z, r.mono (del_mono e)⟩
    · obtain ⟨a, vs, z, m, x, r⟩ := a4 i ds q
      exact ⟨a, vs, z, m, e _ _ x, r.mono (del_mono e)⟩
    · rcases List.mem_cons.mp hp with rfl | hp
      · exact r
      · exact (a6 p (List.mem_append_right _ hp)).mono (del_mono e)
/-- an expression that raises -/
def EvE (X : Fx) (te : TE) (ρ : List Sl) : Prop := ∀ σ H, Ok X.K X.B X.H0 σ ρ X.τ H → ∀ Q : VK, te σ H Q
theorem Wants.imp {B B' : Addr → Prop} {H0 H : Hp} {Q Q' : VK} (h : Wants K B H0 Q E (.exc x own)) (e : Same H0 H) (hb : ∀ a, B a → B' a) : Wants K B' H Q' E (.exc x own) := by
  cases own with
  | none => exact fun C H' n s => h C H' n (e.trans s)
  | some p => exact fun C dx v H' n s q r => h C dx v H' n (e.trans s) q (r.mono (del_sub hb))
theorem x_raises {Q : VK} (hs : EvA X.K ts ρ ds) (hf : F ds (.exc x own)) (hw : RtO X Q E (.exc x own)) : EvE X (tCall (spX X.K F) [] E ts) ρ := fun σ H I Q' =>
  hs X.B X.H0 σ X.τ H I _ fun vs H1 l I1 => by
    have e := same0 I1
    obtain ⟨ln, bs, bo, O, a1, a2, a3, a4, a5, a6⟩ := I1
    exact ⟨un X.B O, ds, .exc x own, a2, by rw [List.append_nil]; exact .of_zip l fun p hp => a6 p (List.mem_append_left _ hp), hf, Wants.imp hw e fun _ h => .inl h⟩
theorem sw_retE (h : EvE X te ρ) : Sw X (tRet te) En ρ := fun σ H I => h σ H I _
theorem sw_asgE {g : TG} (h : EvE X te ρ) : Sw X (tAsg te g) En ρ := fun σ H I => h σ H I _
theorem sq_asgE {g : TG} (h : EvE X te ρ) : Sw X (tSeq (tAsg te g) u) En ρ := fun σ H I => h σ H I _
theorem sw_dropE (h : EvE X te ρ) : Sw X (tDrop te) En ρ := fun σ H I => h σ H I _
theorem sw_raiseN {Q : VK} (hw : RtO X Q E (.exc x none)) : Sw X (tRaiseN X.K x (fun cls d _ H => E cls d H)) En ρ := fun σ H I C n => hw C H n (same0 I)
theorem sw_retO (h : Ev X.K te ρ d) (q : RtO X En.rt E (.ret d)) : Sw X (tRet te) En ρ := sw_ret h q
/-- the try whose error is kept -/
theorem sw_tryK (hs : EvA X.K ts ρ ds) (hf : F ds o) (h1 : ∀ d, o = .ret d → Nx X En.nx ρ)
    (h2 : ∀ x, o = .exc x none → (∀ C, PySem.W.nsIn X.K mainGlobals x = some (some (.ref C)) → PySem.W.exmOne X.K (.ref C) c = some true) ∧ Nx X En.nx (((ρ.set i (.st (.xo x none))).set j (.st (.xo x none))).set i .no))
    (h3 : ∀ x p, o ≠ .exc x (some p)) (hi : i < ρ.length) (hij : i ≠ j) : Sw X (tTryK X.K F c i j ts) En ρ := fun σ H I =>
  hs X.B X.H0 σ X.τ H I _ fun vs H1 l I1 => by
    have J := zip_sub I1
    obtain ⟨ln, bs, bo, O, a1, a2, a3, a4, a5, a6⟩ := I1
    refine ⟨un X.B O, ds, o, a2, .of_zip l fun p hp => a6 p (List.mem_append_left _ hp), hf, ?_⟩
    cases o with
    | ret d => exact fun v H' e r => h1 d rfl σ H' (J.grow e)
    | exc x own =>
      cases own with
      | some p => exact absurd rfl (h3 x p)
      | none =>
        intro C H' n e
        obtain ⟨g1, g2⟩ := h2 x rfl
        refine ⟨true, g1 C n, (fun z => nomatch z), fun _ a ha => ?_⟩
        have I2 := (J.grow e).laid (d := .xo x none) (o := XO (.ref C) none a) ha fun H'' _ hh O' hO _ => .xo0 n (del_some.mpr ⟨hO, hh⟩)
        have lσ : i < σ.length := by rw [J.len]; exact hi
        refine ⟨.ref a, by rw [List.getElem?_set_self lσ], ?_⟩
        have dup : Ok X.K X.B X.H0 σ ρ ((.ref a, .xo x none) :: (.ref a, .xo x none) :: X.τ) (upd H' a (XO (.ref C) none a)) := I2.sub fun p hp => by
          rcases List.mem_cons.mp hp with h | h
          · rw [h]; exact List.mem_cons_self ..
          · exact h
        exact g2 _ _ (((dup.set i).set j).setNo i)
theorem sq_tryK (hs : EvA X.K ts ρ ds) (hf : F ds o) (h1 : ∀ d, o = .ret d → Sw X u En ρ)
    (h2 : ∀ x, o = .exc x none → (∀ C, PySem.W.nsIn X.K mainGlobals x = some (some (.ref C)) → PySem.W.exmOne X.K (.ref C) c = some true) ∧ Sw X u En (((ρ.set i (.st (.xo x none))).set j (.st (.xo x none))).set i .no))
    (h3 : ∀ x p, o ≠ .exc x (some p)) (hi : i < ρ.length) (hij : i ≠ j) : Sw X (tSeq (tTryK X.K F c i j ts) u) En ρ := sw_seq (sw_tryK hs hf h1 h2 h3 hi hij)
/-- isinstance(e, C) of a kept error -/
theorem z_isx {b : Bool} {C : Addr} (ha : Ev K te ρ (.xo x none)) (he : ∀ D, PySem.W.nsIn K mainGlobals x = some (some (.ref D)) → ExcC K D ∧ PySem.W.kitOne K (.ref D) (.ref C) = some b) : Ev K (tCB (rIsA K) (tCons te (tCons (tC (.ref C)) tNil))) ρ (.bl b) := fun B H0 σ τ H I Q q =>
  ha B H0 σ τ H I _ fun v H1 I1 => by
    obtain ⟨O, _, r⟩ := I1.top
    cases r with
    | xo0 n h =>
      obtain ⟨e1, e2⟩ := he _ n
      exact .inr ⟨_, _, _, .ref C, b, rfl, (del_some.mp h).2, e1, fun u hu => hu, e2, q _ H1 (I1.pop.push fun _ => .bl b)⟩
theorem z_isxT {b : Bool} {T : String} (ha : Ev K te ρ (.xo x none)) (he : ∀ D, PySem.W.nsIn K mainGlobals x = some (some (.ref D)) → ExcC K D ∧ PySem.W.kitOne K (.ref D) (.type T) = some b) : Ev K (tCB (rIsA K) (tCons te (tCons (tC (.ty T)) tNil))) ρ (.bl b) := fun B H0 σ τ H I Q q =>
  ha B H0 σ τ H I _ fun v H1 I1 => by
    obtain ⟨O, _, r⟩ := I1.top
    cases r with
    | xo0 n h =>
      obtain ⟨e1, e2⟩ := he _ n
      exact .inr ⟨_, _, _, .type T, b, rfl, (del_some.mp h).2, e1, fun u hu => hu, e2, q _ H1 (I1.pop.push fun _ => .bl b)⟩
end
/-! ### the classes of errors of a text -/
structure ErrTab (K : PySem.W.Frag) (mg : Str → Option Value) (C : Str → Addr) (cl rs : List Str) : Prop where
  ns : ∀ x, x ∈ cl → PySem.W.nsIn K mainGlobals x = some (some (.ref (C x)))
  mc : ∀ x, x ∈ cl → mg x = some (.ref (C x))
  sub : ∀ x, x ∈ rs → x ∈ cl
  ex : ∀ x, x ∈ rs → ExcC K (C x)
  kit : ∀ x y, x ∈ rs → y ∈ cl → PySem.W.kitOne K (.ref (C x)) (.ref (C y)) = some (decide (x = y) || decide (y = "HallError"))
  ve : ∀ x, x ∈ rs → PySem.W.kitOne K (.ref (C x)) (.type "ValueError") = some true
  hall : ∀ x, x ∈ rs → PySem.W.exmOne K (.ref (C x)) (.ref (C "HallError")) = some true
  err : ∀ x, x ∈ rs → ErrC K mg x
section
variable {K : PySem.W.Frag} {mg : Str → Option Value} {C : Str → Addr} {cl rs : List Str} {x y : Str} {te : TE} {ρ : List Sl}
theorem ErrTab.addr (T : ErrTab K mg C cl rs) (hx : x ∈ cl) {D : Addr} (n : PySem.W.nsIn K mainGlobals x = some (some (.ref D))) : D = C x := by
  have q := T.ns x hx
  rw [n] at q
  cases q
  rfl
theorem ErrTab.is (T : ErrTab K mg C cl rs) (hx : x ∈ rs) (hy : y ∈ cl) (h : Ev K te ρ (.xo x none)) : Ev K (tCB (rIsA K) (tCons te (tCons (tC (.ref (C y))) tNil))) ρ (.bl (decide (x = y) || decide (y = "HallError"))) :=
  z_isx h fun D n => by
    rw [T.addr (T.sub x hx) n]
    exact ⟨T.ex x hx, T.kit x y hx hy⟩
theorem ErrTab.isVE (T : ErrTab K mg C cl rs) (hx : x ∈ rs) (h : Ev K te ρ (.xo x none)) : Ev K (tCB (rIsA K) (tCons te (tCons (tC (.ty "ValueError")) tNil))) ρ (.bl true) :=
  z_isxT h fun D n => by
    rw [T.addr (T.sub x hx) n]
    exact ⟨T.ex x hx, T.ve x hx⟩
theorem ErrTab.caught (T : ErrTab K mg C cl rs) (hx : x ∈ rs) : ∀ D, PySem.W.nsIn K mainGlobals x = some (some (.ref D)) → PySem.W.exmOne K (.ref D) (.ref (C "HallError")) = some true := fun D n => by
  rw [T.addr (T.sub x hx) n]
  exact T.hall x hx
end
def lookA (l : List (Str × Addr)) (x : Str) : Addr := (l.lookup x).getD 0
end Z

namespace Z
open PySem L2
/-! ### is, is not of two truths -/
def rIsB : R2 := fun x y H Q => ∃ b c, x = .bl b ∧ y = .bl c ∧ Q (.bl (decide (b = c))) H
def rNotB : R2 := fun x y H Q => ∃ b c, x = .bl b ∧ y = .bl c ∧ Q (.bl (!decide (b = c))) H
section
variable {X : Cx}
theorem op_isBA : OpR X (compareOp .Is) rIsB := by
  rintro pins s σ H _ _ v u Q I rx ry ⟨b, c, rfl, rfl, q⟩
  cases rx
  cases ry
  exact PyProof.Rows.is_bool ⟨.bl (b == c), H, I, rfl, by cases b <;> cases c <;> exact q⟩
theorem op_notBA : OpR X (compareOp .IsNot) rNotB := by
  rintro pins s σ H _ _ v u Q I rx ry ⟨b, c, rfl, rfl, q⟩
  cases rx
  cases ry
  exact PyProof.Rows.isnot_bool ⟨.bl (b != c), H, I, rfl, by cases b <;> cases c <;> exact q⟩
end
section
variable {K : PySem.W.Frag} {ρ : List Sl} {ta tb : TE} {b c : Bool} {d : D}
theorem z_isB (ha : Ev K ta ρ (.bl b)) (hb : Ev K tb ρ (.bl c)) : Ev K (tOp rIsB ta tb) ρ (.bl (decide (b = c))) := ev_op ha hb (r2_sc rfl rfl rfl fun H Q q => ⟨b, c, rfl, rfl, q⟩)
theorem z_notB (ha : Ev K ta ρ (.bl b)) (hb : Ev K tb ρ (.bl c)) : Ev K (tOp rNotB ta tb) ρ (.bl (!decide (b = c))) := ev_op ha hb (r2_sc rfl rfl rfl fun H Q q => ⟨b, c, rfl, rfl, q⟩)
end
/-! ### a dict is no tuple -/
section
open PySem.SeqAt
/-- the dict's own comparison hands a tuple on -/
theorem dict_no_tuple (x y : Addr) (es : Array DictEntry) (k m : Nat) (us : Array Value) (d1 d2 : Option Addr) (s1 s2 : Array (Option Value)) :
    Meets (Builtin.«dict.__eq__» ⟨[.ref x, .ref y], []⟩) (fun _ R s => s.heap.get? x = some ⟨.type "dict", d1, .dict es k, s1⟩ ∧ s.heap.get? y = some ⟨.type "tuple", d2, .seq us m, s2⟩ ∧ R (.ok (.ret .notImplemented)) s) := by
  refine .of_wp ?_
  rintro prog w A R ⟨hp, g, d, tk, os⟩ ⟨hx, hy, hR⟩
  have f1 := F.sub_tuple_dict
  wp_walk using AutoSeq1.wpAny_loadPart' hx
  exact ⟨_, rfl, hR⟩
theorem tuple_no_dict (x y : Addr) (es : Array DictEntry) (k m : Nat) (us : Array Value) (d1 d2 : Option Addr) (s1 s2 : Array (Option Value)) :
    Meets (Builtin.«tuple.__eq__» ⟨[.ref y, .ref x], []⟩) (fun _ R s => s.heap.get? y = some ⟨.type "tuple", d2, .seq us m, s2⟩ ∧ s.heap.get? x = some ⟨.type "dict", d1, .dict es k, s1⟩ ∧ R (.ok (.ret .notImplemented)) s) := by
  refine .of_wp ?_
  rintro prog w A R ⟨hp, g, d, tk, os⟩ ⟨hy, hx, hR⟩
  have f1 := F.sub_dict_tuple
  wp_walk using AutoSeq1.wpAny_loadPart' hy
  exact ⟨_, rfl, hR⟩
theorem dict_tuple_apart {prog : Program} {w : World} {A : Around} {E : Value → Shared → Prop} {s : Shared} {x y : Addr} {ox oy : Obj} {es : Array DictEntry} {k m : Nat} {us : Array Value} {Q : Value → Shared → Prop} (hx : s.heap.get? x = some ox) (cx : ox.cls = .type "dict") (dx : ox.data = .dict es k)
    (hy : s.heap.get? y = some oy) (cy : oy.cls = .type "tuple") (dy : oy.data = .seq us m) (hu : A.units < cLine) (q : Q (.bool false) s) : wpAny (model prog w) A (compareOp .Eq (.ref x) (.ref y)) Q E s := by
  have ne : x ≠ y := fun z => by
    subst z
    rw [hx] at hy
    cases hy
    rw [cx] at cy
    exact absurd cy (by decide)
  obtain ⟨c1, d1, e1, s1⟩ := ox
  obtain ⟨c2, d2, e2, s2⟩ := oy
  dsimp only at cx dx cy dy
  subst cx dx cy dy
  refine rc_eq_decline_or (k := false) ⟨_, hx, rfl⟩ ⟨_, hy, rfl⟩ (by decide) F.sub_tuple_dict F.slot_dict_eq F.slot_tuple_eq_refl (fun _ hq => ?_) (fun _ hq => ?_) (fun _ hq => ?_) (.inr hu) q
  · exact call_meets F.slot_dict_eq ⟨_, hx, rfl⟩ F.entry_dict_eq (F.args_dict_eq_2 _ _) (dict_no_tuple x y es k m us d1 d2 s1 s2) ⟨hx, hy, hq⟩
  · exact call_meets F.slot_tuple_eq_refl ⟨_, hy, rfl⟩ F.entry_tuple_eq (F.args_tuple_eq_2 _ _) (tuple_no_dict x y es k m us d1 d2 s1 s2) ⟨hy, hx, hq⟩
  · exact wpAny_isSame_ref_other ne hx hy (by simp) hq
end
/-- ==, a dict on the left and a tuple on the right -/
def rEqT : R2 := fun x y H Q => ∃ a b kvs vs, x = .ref a ∧ y = .ref b ∧ H a = some (.dK kvs) ∧ H b = some (.tup vs) ∧ Q (.bl false) H
def rEqO (K : PySem.W.Frag) : R2 := orR (rEqA K) rEqT
section
variable {X : Cx}
theorem op_eqT (hu : X.A.units + 64 < cLine) : OpR X (compareOp .Eq) rEqT := by
  rintro pins s σ H _ _ v u Q I rx ry ⟨a, b, kvs, vs, rfl, rfl, ha, hb, q⟩
  obtain rfl : v = Value.ref a := rx
  obtain rfl : u = Value.ref b := ry
  obtain ⟨_, _, ws, _, o, es, ep, h1, h2, h3, _⟩ := dk_of I.hok ha
  obtain ⟨_, its, r, o', g1, g2, n, g3⟩ := (show ObjOk X.prog X.w H s.heap b (.tup vs) from I.hok b _ hb)
  exact dict_tuple_apart h1 h2.1 h3 g1 g2 g3 (by omega) ⟨.bl false, H, I, rfl, q⟩
theorem op_eqO (hu : X.A.units + 64 < cLine) : OpR X (compareOp .Eq) (rEqO X.K) := OpR.or (op_eqA hu) (op_eqT hu)
end
section
variable {K : PySem.W.Frag} {ρ : List Sl} {ta tb : TE} {d e : D} {b : Bool} {k : Key} {kvs : List (Key × D)} {es : List D}
theorem z_eqT (ha : Ev K ta ρ (.dic kvs)) (hb : Ev K tb ρ (.tup es)) : Ev K (tOp (rEqO K) ta tb) ρ (.bl false) := ev_op ha hb (r2_inr fun B H0 σ ρ τ H x y I Q q => by
  obtain ⟨O, _, r1⟩ := I.top
  obtain ⟨O', _, r2⟩ := I.pop.top
  cases r1 with
  | tup h1 _ =>
    cases r2 with
    | dic h2 _ => exact ⟨_, _, _, _, rfl, rfl, (del_same _ _) _ _ h2, (del_same _ _) _ _ h1, q _ H (I.pop.pop.push fun _ => .bl _)⟩)
theorem z_eqO {f : D} (h : R2v K (rEqA K) d e f) (ha : Ev K ta ρ d) (hb : Ev K tb ρ e) : Ev K (tOp (rEqO K) ta tb) ρ f := ev_op ha hb (r2_inl h)
/-- a dict of one written pair -/
theorem ev_dic1 {i j : Int} : Ev K (tDisp [(tC (.int i), tC (.int j))]) ρ (.dic [(.inl i, .int j)]) := fun B H0 σ τ H I Q q p hp => by
  have e : upd (upd H p (.dK [])) p (.dK (mergeK [] [(.inl i, .int j)])) = upd H p (.dK [(.inl i, .int j)]) := by
    funext a
    unfold upd
    by_cases h : a = p
    · rw [if_pos h, if_pos h]
      rfl
    · rw [if_neg h, if_neg h, if_neg h]
  refine ⟨if_pos rfl, [(.inl i, .int j)], rfl, Nat.le_of_ble_eq_true rfl, ?_⟩
  rw [e]
  exact q _ _ (I.laid (d := .dic [(.inl i, .int j)]) hp fun H' _ hn O hO hq => .dic (del_some.mpr ⟨hO, hn⟩) (.cons (.int _) .nil))
end
end Z

namespace Z
open PySem L2 PyProof.Rows
/-! ### max and min with a default -/
section
variable {prog : Program} {w : World} {A : Around} {It Bs : Addr} {own touched : List Addr} {size : Nat} {Elem : Nat → Value → Prop} {At : Nat → Heap → Prop} {R : Result → Shared → Prop}
abbrev dkw (d : Value) : List (Str × Value) := [(Str.ofString "default", d)]
/-- what the loop has kept: nothing, or the best one so far twice -/
def Kept (Elem : Nat → Value → Prop) (bt : Nat → Nat → Bool) (i : Nat) (old : Array Value) : Prop := (i = 0 ∧ old = #[]) ∨ ∃ j v, i = j + 1 ∧ old = #[v, v] ∧ Elem (argBest bt j) v
abbrev bag (old : Array Value) (c : Nat) : Obj := ⟨.type "list", none, .seq old c, #[]⟩
theorem maxd_loop (W : PySem.Walks prog w A.in1 It own touched size Elem At) (bt : Nat → Nat → Bool) (cmp : CmpOf prog w A.in1 .Gt Elem bt) (out : Bs ∉ own) (d : Value) :
    ∀ (m i : Nat) (s : Shared) (old : Array Value) (c : Nat), size - i = m → i ≤ size → At i s.heap → Kept Elem bt i old → s.heap.get? Bs = some (bag old c) →
      (∀ v h tk, (size = 0 ∧ v = d ∨ 0 < size ∧ Elem (argBest bt (size - 1)) v) → (∀ b o, b ∉ touched → b ≠ Bs → s.heap.get? b = some o → h.get? b = some o) → R (.ok (.ret v)) { s with heap := h, toks := tk }) →
      codeAny (model prog w) A (.builtin "max.loop" ⟨[.ref It, .none, .ref Bs], dkw d⟩) R s := by
  have off : Bs ∉ touched := fun z => out (W.sub _ z)
  have nm : (toString "max" ++ toString ".loop" : String) = "max.loop" := by decide
  intro m
  induction m with
  | zero =>
    intro i s old c hm hi at' kept bagAt fin
    obtain rfl : i = size := by omega
    refine codeAny_builtin F.entry_max_loop ?_
    rw [Around.under_plainId F.plain_max_loop _]
    refine wpAny_bind (m := seqItems? (.ref Bs)) (wpAny_seqItems bagAt rfl ?_)
    refine wpAny_bind (wpAny_tryCatch (W.done s _ _ at' fun h tk grown => ?_))
    rcases kept with ⟨rfl, rfl⟩ | ⟨j, v, rfl, rfl, best⟩
    · exact wpAny_bind (wpAny_rule (wpAny_pure (fin d h tk (.inl ⟨rfl, rfl⟩) fun b o z _ e => grown b o z e)))
    · have bagNow := grown Bs _ off bagAt
      refine wpAny_bind (m := updateSeq Bs fun _ => #[]) (wpAny_updateSeq bagNow rfl (wpAny_bind (wpAny_letGo (wpAny_pure ?_))))
      exact fin v _ tk (.inr ⟨Nat.succ_pos _, best⟩) fun b o z z' e => (Heap.get?_update_other _ _ (Ne.symm z')).trans (grown b o z e)
  | succ m ih =>
    intro i s old c hm hi at' kept bagAt fin
    have lt : i < size := by omega
    refine codeAny_builtin F.entry_max_loop ?_
    rw [Around.under_plainId F.plain_max_loop _]
    refine wpAny_bind (m := seqItems? (.ref Bs)) (wpAny_seqItems bagAt rfl ?_)
    refine wpAny_bind (wpAny_tryCatch (W.item i s _ _ lt at' fun v h tk el at2 grown => ?_))
    have bagNow := grown Bs _ off bagAt
    have apart : ∀ (f : Array Value → Array Value) b o, b ∈ own → h.get? b = some o → (h.update Bs (Obj.mapSeq f)).get? b = some o := fun f b o z e => (Heap.get?_update_other _ _ (fun q : Bs = b => out (q ▸ z))).trans e
    rcases kept with ⟨rfl, rfl⟩ | ⟨j, u, rfl, rfl, best⟩
    · refine wpAny_bind (m := updateSeq Bs fun _ => #[v, v]) (wpAny_updateSeq bagNow rfl ?_)
      rw [nm]
      refine wpAny_pure ⟨plainId_quiet F.plain_max_loop _, ih 1 _ #[v, v] _ (by omega) lt (W.frame _ _ _ at2 fun b z o e => apart _ b o z e) (.inr ⟨0, v, rfl, rfl, el⟩) (Heap.get?_update_self _ bagNow rfl) fun v' h2 tk2 q grown2 => ?_⟩
      exact fin v' h2 tk2 q fun b o z z' e => grown2 b o z z' ((Heap.get?_update_other _ _ (Ne.symm z')).trans (grown b o z e))
    · refine wpAny_bind (m := tryCatch (holding [v, v] (richCompare .Gt v u >>= _)) _) (wpAny_tryCatch (wpAny_holding (wpAny_bind (cmp (j + 1) (argBest bt j) v u _ _ _ el best ?_))))
      refine wpAny_bind (wpAny_holding (wpAny_truthy_bool (wpAny_bind (wpAny_letGo (wpAny_pure ?_)))))
      cases better : bt (j + 1) (argBest bt j) with
      | true =>
        rw [if_pos rfl]
        refine wpAny_bind (wpAny_updateSeq bagNow rfl (wpAny_bind (wpAny_letGo ?_)))
        rw [nm]
        refine wpAny_pure ⟨plainId_quiet F.plain_max_loop _, ih (j + 2) _ #[v, v] _ (by omega) lt (W.frame _ _ _ at2 fun b z o e => apart _ b o z e) (.inr ⟨j + 1, v, rfl, rfl, ?_⟩) (Heap.get?_update_self _ bagNow rfl) fun v' h2 tk2 q grown2 => ?_⟩
        · unfold argBest
          rw [if_pos better]
          exact el
        · exact fin v' h2 tk2 q fun b o z z' e => grown2 b o z z' ((Heap.get?_update_other _ _ (Ne.symm z')).trans (grown b o z e))
      | false =>
        rw [if_neg Bool.false_ne_true]
        refine wpAny_bind (wpAny_letGo ?_)
        rw [nm]
        refine wpAny_pure ⟨plainId_quiet F.plain_max_loop _, ih (j + 2) _ #[u, u] c (by omega) lt at2 (.inr ⟨j + 1, u, rfl, rfl, ?_⟩) bagNow fun v' h2 tk2 q grown2 => ?_⟩
        · unfold argBest
          rw [if_neg (by rw [better]; exact Bool.false_ne_true)]
          exact best
        · exact fin v' h2 tk2 q fun b o z z' e => grown2 b o z z' (grown b o z e)
theorem mind_loop (W : PySem.Walks prog w A.in1 It own touched size Elem At) (bt : Nat → Nat → Bool) (cmp : CmpOf prog w A.in1 .Lt Elem bt) (out : Bs ∉ own) (d : Value) :
    ∀ (m i : Nat) (s : Shared) (old : Array Value) (c : Nat), size - i = m → i ≤ size → At i s.heap → Kept Elem bt i old → s.heap.get? Bs = some (bag old c) →
      (∀ v h tk, (size = 0 ∧ v = d ∨ 0 < size ∧ Elem (argBest bt (size - 1)) v) → (∀ b o, b ∉ touched → b ≠ Bs → s.heap.get? b = some o → h.get? b = some o) → R (.ok (.ret v)) { s with heap := h, toks := tk }) →
      codeAny (model prog w) A (.builtin "min.loop" ⟨[.ref It, .none, .ref Bs], dkw d⟩) R s := by
  have off : Bs ∉ touched := fun z => out (W.sub _ z)
  have nm : (toString "min" ++ toString ".loop" : String) = "min.loop" := by decide
  intro m
  induction m with
  | zero =>
    intro i s old c hm hi at' kept bagAt fin
    obtain rfl : i = size := by omega
    refine codeAny_builtin F.entry_min_loop ?_
    rw [Around.under_plainId F.plain_min_loop _]
    refine wpAny_bind (m := seqItems? (.ref Bs)) (wpAny_seqItems bagAt rfl ?_)
    refine wpAny_bind (wpAny_tryCatch (W.done s _ _ at' fun h tk grown => ?_))
    rcases kept with ⟨rfl, rfl⟩ | ⟨j, v, rfl, rfl, best⟩
    · exact wpAny_bind (wpAny_rule (wpAny_pure (fin d h tk (.inl ⟨rfl, rfl⟩) fun b o z _ e => grown b o z e)))
    · have bagNow := grown Bs _ off bagAt
      refine wpAny_bind (m := updateSeq Bs fun _ => #[]) (wpAny_updateSeq bagNow rfl (wpAny_bind (wpAny_letGo (wpAny_pure ?_))))
      exact fin v _ tk (.inr ⟨Nat.succ_pos _, best⟩) fun b o z z' e => (Heap.get?_update_other _ _ (Ne.symm z')).trans (grown b o z e)
  | succ m ih =>
    intro i s old c hm hi at' kept bagAt fin
    have lt : i < size := by omega
    refine codeAny_builtin F.entry_min_loop ?_
    rw [Around.under_plainId F.plain_min_loop _]
    refine wpAny_bind (m := seqItems? (.ref Bs)) (wpAny_seqItems bagAt rfl ?_)
    refine wpAny_bind (wpAny_tryCatch (W.item i s _ _ lt at' fun v h tk el at2 grown => ?_))
    have bagNow := grown Bs _ off bagAt
    have apart : ∀ (f : Array Value → Array Value) b o, b ∈ own → h.get? b = some o → (h.update Bs (Obj.mapSeq f)).get? b = some o := fun f b o z e => (Heap.get?_update_other _ _ (fun q : Bs = b => out (q ▸ z))).trans e
    rcases kept with ⟨rfl, rfl⟩ | ⟨j, u, rfl, rfl, best⟩
    · refine wpAny_bind (m := updateSeq Bs fun _ => #[v, v]) (wpAny_updateSeq bagNow rfl ?_)
      rw [nm]
      refine wpAny_pure ⟨plainId_quiet F.plain_min_loop _, ih 1 _ #[v, v] _ (by omega) lt (W.frame _ _ _ at2 fun b z o e => apart _ b o z e) (.inr ⟨0, v, rfl, rfl, el⟩) (Heap.get?_update_self _ bagNow rfl) fun v' h2 tk2 q grown2 => ?_⟩
      exact fin v' h2 tk2 q fun b o z z' e => grown2 b o z z' ((Heap.get?_update_other _ _ (Ne.symm z')).trans (grown b o z e))
    · refine wpAny_bind (m := tryCatch (holding [v, v] (richCompare .Lt v u >>= _)) _) (wpAny_tryCatch (wpAny_holding (wpAny_bind (cmp (j + 1) (argBest bt j) v u _ _ _ el best ?_))))
      refine wpAny_bind (wpAny_holding (wpAny_truthy_bool (wpAny_bind (wpAny_letGo (wpAny_pure ?_)))))
      cases better : bt (j + 1) (argBest bt j) with
      | true =>
        rw [if_pos rfl]
        refine wpAny_bind (wpAny_updateSeq bagNow rfl (wpAny_bind (wpAny_letGo ?_)))
        rw [nm]
        refine wpAny_pure ⟨plainId_quiet F.plain_min_loop _, ih (j + 2) _ #[v, v] _ (by omega) lt (W.frame _ _ _ at2 fun b z o e => apart _ b o z e) (.inr ⟨j + 1, v, rfl, rfl, ?_⟩) (Heap.get?_update_self _ bagNow rfl) fun v' h2 tk2 q grown2 => ?_⟩
        · unfold argBest
          rw [if_pos better]
          exact el
        · exact fin v' h2 tk2 q fun b o z z' e => grown2 b o z z' ((Heap.get?_update_other _ _ (Ne.symm z')).trans (grown b o z e))
      | false =>
        rw [if_neg Bool.false_ne_true]
        refine wpAny_bind (wpAny_letGo ?_)
        rw [nm]
        refine wpAny_pure ⟨plainId_quiet F.plain_min_loop _, ih (j + 2) _ #[u, u] c (by omega) lt at2 (.inr ⟨j + 1, u, rfl, rfl, ?_⟩) bagNow fun v' h2 tk2 q grown2 => ?_⟩
        · unfold argBest
          rw [if_neg (by rw [better]; exact Bool.false_ne_true)]
          exact best
        · exact fin v' h2 tk2 q fun b o z z' e => grown2 b o z z' (grown b o z e)
theorem maxd_args (x d : Value) : argsOk "max" ⟨[x], dkw d⟩ := by
  unfold argsOk
  kernel_rfl
theorem mind_args (x d : Value) : argsOk "min" ⟨[x], dkw d⟩ := by
  unfold argsOk
  kernel_rfl
theorem call_maxd {E Q : Value → Shared → Prop} {s : Shared} {x d : Value}
    (h : wpAny (model prog w) A.in1 (pyIter x) (fun it s₂ => ∃ It own touched size Elem At bt, it = .ref It ∧ PySem.Walks prog w A.in1 It own touched size Elem At ∧ At 0 s₂.heap ∧ (∀ b ∈ own, b < s₂.heap.objs.size) ∧ CmpOf prog w A.in1 .Gt Elem bt ∧
      ∀ v h tk, (size = 0 ∧ v = d ∨ 0 < size ∧ Elem (argBest bt (size - 1)) v) → (∀ b o, b ∉ touched → s₂.heap.get? b = some o → h.get? b = some o) → Q v { s₂ with heap := h, toks := tk }) E s) :
    wpAny (model prog w) A (call (.builtin "max") [x] (dkw d)) Q E s := by
  have nm : (toString "max" ++ toString ".loop" : String) = "max.loop" := by decide
  refine PyProof.Rows.kmk_tree F.kind_max F.plain_max F.entry_max (maxd_args x d) ?_
  refine wpAny_bind (m := Builtin.Builtins.bindParams "max" ["key", "default"] 0 ⟨[], dkw d⟩) (wpAny_of_eq (show _ = pure [none, some d] from rfl) ?_)
  refine wpAny_bind (wpAny_pure (wpAny_bind (wpAny_mono h (fun it s₂ h₂ => ?_) fun _ _ e => e)))
  obtain ⟨It, own, touched, size, Elem, At, bt, rfl, W, at0, low, cmp, fin⟩ := h₂
  refine wpAny_bind (wpAny_newObj_type ?_)
  have out : s₂.heap.objs.size ∉ own := fun z => Nat.lt_irrefl _ (low _ z)
  rw [nm]
  refine wpAny_pure ⟨plainId_quiet F.plain_max_loop _, maxd_loop W bt cmp out d _ 0 _ #[] _ rfl (Nat.zero_le _) (W.frame _ _ _ at0 fun b _ o e => Heap.get?_push_of_some _ e) (.inl ⟨rfl, rfl⟩) (Heap.get?_push_size _ rfl) fun v h tk q grown => ?_⟩
  exact fin v h tk q fun b o z e => grown b o z (Nat.ne_of_lt (Heap.lt_size e)) (Heap.get?_push_of_some _ e)
theorem maxd_ints {E Q : Value → Shared → Prop} {s : Shared} {l : Addr} {its : List Value} {ns : List Int} (calm : A.handled = none) (hl : s.heap.IsList l its.toArray) (hi : PyProof.Rows.IntsAre its ns) (d : Value)
    (h0 : ns = [] → ∀ h tk, (∀ b o, s.heap.get? b = some o → h.get? b = some o) → Q d { s with heap := h, toks := tk })
    (h1 : ∀ h tk m t, (∀ b o, s.heap.get? b = some o → h.get? b = some o) → m ∈ ns → (∀ a, a ∈ ns → a ≤ m) → Q (.int m t) { s with heap := h, toks := tk }) : wpAny (model prog w) A (call (.builtin "max") [.ref l] (dkw d)) Q E s := by
  obtain ⟨xs, e⟩ := hi.allInts.items
  have hn : numsOf (intItems xs).toList = ns := by rw [← e]; exact hi.numsOf
  rw [nums_intItems] at hn
  subst hn
  rw [e] at hl
  refine call_maxd (iter_intList hl fun s₂ e2 st low apart => ?_)
  subst e2
  refine ⟨_, _, _, _, _, _, _, rfl, PySem.Walks.list (A := A.in1) calm _ l apart (intItems xs), st, low, CmpOf.ints_gt (numAt xs) (fun _ _ => intItems_at), fun v h tk q grown => ?_⟩
  have sz : (intItems xs).size = xs.size := by simp [intItems]
  rcases q with ⟨z, rfl⟩ | ⟨z, q⟩
  · refine h0 ?_ h tk (old_kept grown)
    rw [sz] at z
    apply List.eq_nil_of_length_eq_zero
    rw [List.length_map, Array.length_toList]
    exact z
  · rw [sz] at z q
    obtain ⟨t, rfl⟩ := intItems_at q
    obtain ⟨b1, b2⟩ := argBest_gt (numAt xs) (xs.size - 1)
    refine h1 h tk _ t (old_kept grown) ?_ fun a ha => ?_
    · rw [numAt_eq]
      exact getD_mem (by rw [List.length_map, Array.length_toList]; omega)
    · obtain ⟨j, hj, rfl⟩ := mem_getD ha
      rw [List.length_map, Array.length_toList] at hj
      rw [← numAt_eq]
      exact b2 j (by omega)
theorem call_mind {E Q : Value → Shared → Prop} {s : Shared} {x d : Value}
    (h : wpAny (model prog w) A.in1 (pyIter x) (fun it s₂ => ∃ It own touched size Elem At bt, it = .ref It ∧ PySem.Walks prog w A.in1 It own touched size Elem At ∧ At 0 s₂.heap ∧ (∀ b ∈ own, b < s₂.heap.objs.size) ∧ CmpOf prog w A.in1 .Lt Elem bt ∧
      ∀ v h tk, (size = 0 ∧ v = d ∨ 0 < size ∧ Elem (argBest bt (size - 1)) v) → (∀ b o, b ∉ touched → s₂.heap.get? b = some o → h.get? b = some o) → Q v { s₂ with heap := h, toks := tk }) E s) :
    wpAny (model prog w) A (call (.builtin "min") [x] (dkw d)) Q E s := by
  have nm : (toString "min" ++ toString ".loop" : String) = "min.loop" := by decide
  refine PyProof.Rows.kmk_tree F.kind_min F.plain_min F.entry_min (mind_args x d) ?_
  refine wpAny_bind (m := Builtin.Builtins.bindParams "min" ["key", "default"] 0 ⟨[], dkw d⟩) (wpAny_of_eq (show _ = pure [none, some d] from rfl) ?_)
  refine wpAny_bind (wpAny_pure (wpAny_bind (wpAny_mono h (fun it s₂ h₂ => ?_) fun _ _ e => e)))
  obtain ⟨It, own, touched, size, Elem, At, bt, rfl, W, at0, low, cmp, fin⟩ := h₂
  refine wpAny_bind (wpAny_newObj_type ?_)
  have out : s₂.heap.objs.size ∉ own := fun z => Nat.lt_irrefl _ (low _ z)
  rw [nm]
  refine wpAny_pure ⟨plainId_quiet F.plain_min_loop _, mind_loop W bt cmp out d _ 0 _ #[] _ rfl (Nat.zero_le _) (W.frame _ _ _ at0 fun b _ o e => Heap.get?_push_of_some _ e) (.inl ⟨rfl, rfl⟩) (Heap.get?_push_size _ rfl) fun v h tk q grown => ?_⟩
  exact fin v h tk q fun b o z e => grown b o z (Nat.ne_of_lt (Heap.lt_size e)) (Heap.get?_push_of_some _ e)
theorem mind_ints {E Q : Value → Shared → Prop} {s : Shared} {l : Addr} {its : List Value} {ns : List Int} (calm : A.handled = none) (hl : s.heap.IsList l its.toArray) (hi : PyProof.Rows.IntsAre its ns) (d : Value)
    (h0 : ns = [] → ∀ h tk, (∀ b o, s.heap.get? b = some o → h.get? b = some o) → Q d { s with heap := h, toks := tk })
    (h1 : ∀ h tk m t, (∀ b o, s.heap.get? b = some o → h.get? b = some o) → m ∈ ns → (∀ a, a ∈ ns → m ≤ a) → Q (.int m t) { s with heap := h, toks := tk }) : wpAny (model prog w) A (call (.builtin "min") [.ref l] (dkw d)) Q E s := by
  obtain ⟨xs, e⟩ := hi.allInts.items
  have hn : numsOf (intItems xs).toList = ns := by rw [← e]; exact hi.numsOf
  rw [nums_intItems] at hn
  subst hn
  rw [e] at hl
  refine call_mind (iter_intList hl fun s₂ e2 st low apart => ?_)
  subst e2
  refine ⟨_, _, _, _, _, _, _, rfl, PySem.Walks.list (A := A.in1) calm _ l apart (intItems xs), st, low, CmpOf.ints_lt (numAt xs) (fun _ _ => intItems_at), fun v h tk q grown => ?_⟩
  have sz : (intItems xs).size = xs.size := by simp [intItems]
  rcases q with ⟨z, rfl⟩ | ⟨z, q⟩
  · refine h0 ?_ h tk (old_kept grown)
    rw [sz] at z
    apply List.eq_nil_of_length_eq_zero
    rw [List.length_map, Array.length_toList]
    exact z
  · rw [sz] at z q
    obtain ⟨t, rfl⟩ := intItems_at q
    obtain ⟨b1, b2⟩ := argBest_lt (numAt xs) (xs.size - 1)
    refine h1 h tk _ t (old_kept grown) ?_ fun a ha => ?_
    · rw [numAt_eq]
      exact getD_mem (by rw [List.length_map, Array.length_toList]; omega)
    · obtain ⟨j, hj, rfl⟩ := mem_getD ha
      rw [List.length_map, Array.length_toList] at hj
      rw [← numAt_eq]
      exact b2 j (by omega)
/-- max(xs, default=None), min(xs, default=None) of ints -/
def rMaxD (K : PySem.W.Frag) : List V → List V → Hp → VK → Prop := fun vs zs H Q => ∃ (a : Addr) (ns : List Int), vs = [V.ref a] ∧ zs = [.non] ∧ SqL K H a (ns.map V.int) ∧ (ns = [] → Q .non H) ∧ ∀ m, m ∈ ns → (∀ y, y ∈ ns → y ≤ m) → Q (.int m) H
def rMinD (K : PySem.W.Frag) : List V → List V → Hp → VK → Prop := fun vs zs H Q => ∃ (a : Addr) (ns : List Int), vs = [V.ref a] ∧ zs = [.non] ∧ SqL K H a (ns.map V.int) ∧ (ns = [] → Q .non H) ∧ ∀ m, m ∈ ns → (∀ y, y ∈ ns → m ≤ y) → Q (.int m) H
theorem cr_maxDef {X : Cx} (hc : X.calm = true) : CallRK X (.builtin "max") [Str.ofString "default"] (rMaxD X.K) := by
  rintro pins s σ H _ _ us ws Q I r rz ⟨a, ns, rfl, rfl, hs, q0, q1⟩
  obtain ⟨its, rv, hl, _⟩ := I.list hs
  rw [Vals.ref1 r]
  cases rz with
  | @cons _ u _ _ ru rz =>
    cases rz
    obtain rfl : u = Value.none := ru
    exact maxd_ints (I.ok.hd hc) hl.isList rv.ints .none (fun z h tk g => ⟨.non, H, I.kept g, rfl, q0 z⟩) fun h tk m t g b1 b2 => ⟨.int m, H, I.kept g, ⟨t, rfl⟩, q1 m b1 b2⟩
theorem cr_minDef {X : Cx} (hc : X.calm = true) : CallRK X (.builtin "min") [Str.ofString "default"] (rMinD X.K) := by
  rintro pins s σ H _ _ us ws Q I r rz ⟨a, ns, rfl, rfl, hs, q0, q1⟩
  obtain ⟨its, rv, hl, _⟩ := I.list hs
  rw [Vals.ref1 r]
  cases rz with
  | @cons _ u _ _ ru rz =>
    cases rz
    obtain rfl : u = Value.none := ru
    exact mind_ints (I.ok.hd hc) hl.isList rv.ints .none (fun z h tk g => ⟨.non, H, I.kept g, rfl, q0 z⟩) fun h tk m t g b1 b2 => ⟨.int m, H, I.kept g, ⟨t, rfl⟩, q1 m b1 b2⟩
end
end Z

namespace Z
open PySem L2
/-! ### the rules within a comprehension's frame, with the def's K -/
section
variable {X : Cx} {K : PySem.W.Frag} {e : Expr} {es : List Expr} {t : TA} {x : Str} {p pos : Pos} {k j : Nat} {ps : List Str}
theorem ix_seqB (h : X.K = K) : IxR X (rIx K) := h ▸ ix_seq
theorem sl_listB (h : X.K = K) : SlR X (rSlL K) := h ▸ sl_list
theorem pe_gdB {F : List D → D → Prop} (h : X.K = K) (G : Gd X.prog X.w X.K X.mg X.base x k ps F) (hr : Room j X.A) (hj : k ≤ j) (hg : Gl X x) (ha : PA X (e :: es) t) (hdb : (x == ("__debug__" : Str)) = false := by decide) (he : starEach (e :: es) X.env = (false, eval e X.env) :: starEach es X.env := by rfl) (hpl : (backTo pos (starEach es X.env)).any (·.1) = false := by rfl) :
    PE X (.Call (.Name x p) (e :: es) [] pos) (tCall (sp K F) [] E0 t) := by
  subst h
  exact pe_gd G hr hj hg ha hdb he hpl
theorem pe_gdNB {F : List D → D → Prop} (h : X.K = K) (G : GdN X.prog X.w X.K X.mg X.base x k ps F) (hr : Room j X.A) (hj : k ≤ j) (hg : Gl X x) (ha : PA X (e :: es) t) (hdb : (x == ("__debug__" : Str)) = false := by decide) (he : starEach (e :: es) X.env = (false, eval e X.env) :: starEach es X.env := by rfl) (hpl : (backTo pos (starEach es X.env)).any (·.1) = false := by rfl) :
    PE X (.Call (.Name x p) (e :: es) [] pos) (tCall (spN K F) [] E0 t) := by
  subst h
  exact pe_gdN G hr hj hg ha hdb he hpl
theorem pe_gdXB {F : List D → Out → Prop} (h : X.K = K) (G : GdX X.prog X.w X.K X.mg X.base x k ps F) (hr : Room j X.A) (hj : k ≤ j) (hg : Gl X x) (ha : PA X (e :: es) t) (hdb : (x == ("__debug__" : Str)) = false := by decide) (he : starEach (e :: es) X.env = (false, eval e X.env) :: starEach es X.env := by rfl) (hpl : (backTo pos (starEach es X.env)).any (·.1) = false := by rfl) :
    ∃ E, PE X (.Call (.Name x p) (e :: es) [] pos) (tCall (spX K F) [] E t) := by
  subst h
  exact ⟨_, pe_gdX0 G hr hj hg ha hdb he hpl⟩
end
section
variable {X : Fx} {K : PySem.W.Frag} {ρ ρ' : List Sl} {ta tb tc te : TE} {t u : TS} {c : TT} {ts : TA} {d e f : D} {ds es : List D} {i : Nat} {En : Ends} {B : Addr → Prop} {H0 H : Hp} {σ : St} {τ : List (V × D)} {v : V}
/-! ### one look at lent things -/
theorem z_opL {r : R2} (h : EvL K (tCons ta (tCons tb tNil)) ρ [d, e]) (hr : ∀ (H : Hp) (x y : V) (Q : VK), Rep K H x d → Rep K H y e → (∀ v, (∀ H', Rep K H' v f) → Q v H) → r x y H Q) : Ev K (tOp r ta tb) ρ f := fun B H0 σ τ H I Q q =>
  h B H0 σ τ H I (fun vs H' => match vs with | [x, y] => r x y H' Q | _ => True) fun vs H' I' rr => by
    cases rr with
    | cons r1 rr =>
      cases rr with
      | cons r2 rr =>
        cases rr
        exact hr H' _ _ Q r1 r2 fun v hv => q v H' (I'.push hv)
theorem z_eqL {b : Bool} (h : EvL K (tCons ta (tCons tb tNil)) ρ [d, e]) (hd : isP d = true) (he : isP e = true) (sd : SeqAt.shaped (toP d) = true) (se : SeqAt.shaped (toP e) = true) (hk : PyData.eqv (toP d) (toP e) = b) : Ev K (tOp (rEqA K) ta tb) ρ (.bl b) :=
  z_opL h fun H x y Q r1 r2 q => .inr ⟨toP d, toP e, Rep.dp r1 hd, Rep.dp r2 he, sd, se, by rw [hk]; exact q _ fun _ => .bl _⟩
theorem z_neL {b : Bool} (h : EvL K (tCons ta (tCons tb tNil)) ρ [d, e]) (hd : isP d = true) (he : isP e = true) (sd : SeqAt.shaped (toP d) = true) (se : SeqAt.shaped (toP e) = true) (hk : (!PyData.eqv (toP d) (toP e)) = b) : Ev K (tOp (rNeA K) ta tb) ρ (.bl b) :=
  z_opL h fun H x y Q r1 r2 q => .inr ⟨toP d, toP e, Rep.dp r1 hd, Rep.dp r2 he, sd, se, by rw [hk]; exact q _ fun _ => .bl _⟩
theorem z_cbL {r : List V → Hp → VK → Prop} (h : EvL K ts ρ ds) (hr : ∀ (H : Hp) (vs : List V) (Q : VK), Reps K H vs ds → (∀ v, (∀ H', Rep K H' v f) → Q v H) → r vs H Q) : Ev K (tCB r ts) ρ f := fun B H0 σ τ H I Q q =>
  h B H0 σ τ H I _ fun vs H' I' rr => hr H' vs Q rr fun v hv => q v H' (I'.push hv)
/-- a list of ints -/
theorem seq_ints {ns : List Int} (r : Rep K H v d) (hd : d = .lst (ns.map D.int) ∨ d = .rd (ns.map D.int)) : ∃ a, v = .ref a ∧ SqL K H a (ns.map V.int) := by
  rcases hd with rfl | rfl
  · cases r with
    | lst h rr => exact ⟨_, rfl, by rw [← rr.ints]; exact SqL.of h⟩
  · cases r with
    | rd h rr => exact ⟨_, rfl, by rw [← rr.ints]; exact h⟩
theorem z_sumL {ns : List Int} (h : EvL K (tCons ta tNil) ρ [d]) (hd : d = .lst (ns.map D.int) ∨ d = .rd (ns.map D.int)) : Ev K (tCB (rSum K) (tCons ta tNil)) ρ (.int ns.sum) := z_cbL h fun H vs Q rr q => by
  cases rr with
  | cons r1 rr =>
    cases rr
    obtain ⟨a, rfl, hs⟩ := seq_ints r1 hd
    exact ⟨a, ns, rfl, hs, q _ fun _ => .int _⟩
theorem z_maxD {ns : List Int} (h : Ev K ta ρ (.lst (ns.map D.int))) (hf : ns = [] ∧ f = .non ∨ ∃ m, m ∈ ns ∧ (∀ y, y ∈ ns → y ≤ m) ∧ f = .int m) : Ev K (tCKw (rMaxD K) (tCons ta tNil) (tCons (tC .non) tNil)) ρ f := fun B H0 σ τ H I Q q =>
  h B H0 σ τ H I _ fun v H' I' => by
    obtain ⟨O, _, r⟩ := I'.top
    obtain ⟨a, rfl, hs⟩ := seq_ints (r.mono (del_same _ _)) (.inl rfl)
    refine ⟨a, ns, rfl, rfl, hs, fun z => ?_, fun m hm hb => ?_⟩
    · rcases hf with ⟨_, rfl⟩ | ⟨m, hm, _⟩
      · exact q _ H' (I'.pop.push fun _ => .non)
      · rw [z] at hm
        cases hm
    · rcases hf with ⟨rfl, _⟩ | ⟨m', hm', hb', rfl⟩
      · cases hm
      · have e : m = m' := Int.le_antisymm (hb' m hm) (hb m' hm')
        subst e
        exact q _ H' (I'.pop.push fun _ => .int _)
theorem z_minD {ns : List Int} (h : Ev K ta ρ (.lst (ns.map D.int))) (hf : ns = [] ∧ f = .non ∨ ∃ m, m ∈ ns ∧ (∀ y, y ∈ ns → m ≤ y) ∧ f = .int m) : Ev K (tCKw (rMinD K) (tCons ta tNil) (tCons (tC .non) tNil)) ρ f := fun B H0 σ τ H I Q q =>
  h B H0 σ τ H I _ fun v H' I' => by
    obtain ⟨O, _, r⟩ := I'.top
    obtain ⟨a, rfl, hs⟩ := seq_ints (r.mono (del_same _ _)) (.inl rfl)
    refine ⟨a, ns, rfl, rfl, hs, fun z => ?_, fun m hm hb => ?_⟩
    · rcases hf with ⟨_, rfl⟩ | ⟨m, hm, _⟩
      · exact q _ H' (I'.pop.push fun _ => .non)
      · rw [z] at hm
        cases hm
    · rcases hf with ⟨rfl, _⟩ | ⟨m', hm', hb', rfl⟩
      · cases hm
      · have e : m = m' := Int.le_antisymm (hb m' hm') (hb' m hm)
        subst e
        exact q _ H' (I'.pop.push fun _ => .int _)
/-! ### a list or tuple whose things are held -/
def EvS (K : PySem.W.Frag) (te : TE) (ρ : List Sl) (ds : List D) : Prop := ∀ (B : Addr → Prop) (H0 : Hp) (σ : St) (τ : List (V × D)) (H : Hp), Ok K B H0 σ ρ τ H → ∀ Q : VK,
  (∀ a H' τ', Ok K B H0 σ ρ (τ' ++ τ) H' → (∀ τ2 H2, (∀ p, p ∈ τ' → p ∈ τ2) → Ok K B H0 σ ρ τ2 H2 → ∃ vs, H2 a = some (.lst vs) ∧ vs.length = ds.length ∧ Ok K B H0 σ ρ (vs.zip ds ++ τ2) H2) → Q (.ref a) H') → te σ H Q
theorem zip_held {vs : List V} (r : Reps K H vs ds) {p : V × D} (hp : p ∈ vs.zip ds) : Rep K H p.1 p.2 := by
  obtain ⟨j, hj, e⟩ := List.getElem_of_mem hp
  rw [List.length_zip] at hj
  rw [List.getElem_zip] at e
  subst e
  obtain ⟨y, e1, e2⟩ := r.get (i := j) (List.getElem?_eq_getElem (by omega))
  rw [List.getElem?_eq_getElem (by omega)] at e1
  cases e1
  exact e2
theorem evs_st (h : Ev K te ρ (.lst ds)) : EvS K te ρ ds := fun B H0 σ τ H I Q q => h B H0 σ τ H I _ fun v H' I' => by
  have key : ∀ (O : Addr → Prop) (H2 : Hp), Rep K (del H2 O) v (.lst ds) → ∃ a vs, v = .ref a ∧ H2 a = some (.lst vs) ∧ Reps K (del H2 O) vs ds := fun O H2 r => by
    cases r with
    | lst h rr => exact ⟨_, _, rfl, del_same _ _ _ _ h, rr⟩
  have ⟨O, _, r0⟩ := I'.top
  obtain ⟨a, _, rfl, _, _⟩ := key _ _ r0
  refine q a H' [(.ref a, .lst ds)] I' fun τ2 H2 hs I2 => ?_
  obtain ⟨l, bs, bo, O2, a1, a2, a3, a4, a5, a6⟩ := I2
  obtain ⟨a', vs, e, k1, k2⟩ := key _ _ (a6 _ (hs _ (List.mem_singleton.mpr rfl)))
  cases e
  refine ⟨vs, k1, k2.length, l, bs, bo, O2, a1, a2, a3, a4, a5, fun p hp => ?_⟩
  rcases List.mem_append.mp hp with hp | hp
  · exact zip_held k2 hp
  · exact a6 p hp
theorem evs_bo (h : EvH K te ρ (.lst ds)) (hf : ∀ x, x ∈ ds → flat x = true) : EvS K te ρ ds := fun B H0 σ τ H I Q q => h B H0 σ τ H I _ fun v H' I' r => by
  have key : ∃ a vs, v = .ref a ∧ H0 a = some (.lst vs) ∧ Reps K H0 vs ds := by
    cases r with
    | lst h rr => exact ⟨_, _, rfl, h, rr⟩
  obtain ⟨a, vs, rfl, k1, k2⟩ := key
  refine q a H' [] I' fun τ2 H2 _ I2 => ⟨vs, same0 I2 _ _ k1, k2.length, ?_⟩
  obtain ⟨l, bs, bo, O, a1, a2, a3, a4, a5, a6⟩ := I2
  refine ⟨l, bs, bo, O, a1, a2, a3, a4, a5, fun p hp => ?_⟩
  rcases List.mem_append.mp hp with hp | hp
  · have f := hf _ (List.of_mem_zip hp).2
    unfold flat at f
    rw [Bool.and_eq_true] at f
    exact (zip_held k2 hp).nm (keep_del (a1.trans (del_same _ _)) a2) f.1 f.2
  · exact a6 p hp
theorem evs_ow (h : ρ[i]? = some (.ow ds)) : EvS K (tVar i) ρ ds := fun B H0 σ τ H I Q q => by
  obtain ⟨a, vs, ha, hH, hl, _⟩ := I.own h
  refine ⟨.ref a, ha, q a H [] I fun τ2 H2 _ I2 => ?_⟩
  obtain ⟨a', ws, ha', hH', hl', I3⟩ := I2.own h
  rw [ha] at ha'
  cases ha'
  exact ⟨ws, hH', hl', I3⟩
theorem free0 {p : Addr} (I : Ok K B H0 σ ρ τ H) (hp : H p = none) : H0 p = none := (same0 I).free hp
/-- list(x) -/
def rListA (K : PySem.W.Frag) : List V → Hp → VK → Prop := fun xs H Q => ∃ p ys, xs = [.ref p] ∧ (SqL K H p ys ∨ SqT K H p ys) ∧ ∀ l, H l = none → Q (.ref l) (upd H l (.lst ys))
theorem call_listA {X : Cx} : CallR X (.type "list") (rListA X.K) := call_list_of
theorem call_listB {X : Cx} {K : PySem.W.Frag} (h : X.K = K) : CallR X (.type "list") (rListA K) := h ▸ call_listA
theorem evn_listA (h : EvS K ta ρ ds) : EvN K (tCB (rListA K) (tCons ta tNil)) ρ ds := fun B H0 σ τ H I Q q => h B H0 σ τ H I _ fun a H' τ' I' look => by
  obtain ⟨vs, k1, k2, I2⟩ := look _ _ (fun p hp => List.mem_append_left _ hp) I'
  refine ⟨a, vs, rfl, .inl (SqL.of k1), fun p hp => ?_⟩
  have hn := free0 I' hp
  refine q p vs (upd H0 p (.lst vs)) _ (same_upd _ hn) hn upd_same k2 (Ok.sub (I2.newAt hp _ rfl) fun y hy => ?_)
  rcases List.mem_append.mp hy with hy | hy
  · exact List.mem_append_left _ hy
  · exact List.mem_append_right _ (List.mem_append_right _ hy)
theorem zip_rev {α β : Type} {xs : List α} {ys : List β} (h : xs.length = ys.length) {p : α × β} (hp : p ∈ xs.reverse.zip ys.reverse) : p ∈ xs.zip ys := by
  obtain ⟨j, hj, e⟩ := List.getElem_of_mem hp
  rw [List.length_zip, List.length_reverse, List.length_reverse] at hj
  rw [List.getElem_zip, List.getElem_reverse, List.getElem_reverse] at e
  subst e
  have e1 : xs.length - 1 - j = ys.length - 1 - j := by omega
  refine List.mem_iff_getElem.mpr ⟨xs.length - 1 - j, by rw [List.length_zip]; omega, ?_⟩
  rw [List.getElem_zip]
  simp only [e1]
/-- xs[::-1] -/
theorem evn_rev (h : EvS K ta ρ ds) : EvN K (tRevL K ta) ρ ds.reverse := fun B H0 σ τ H I Q q => h B H0 σ τ H I _ fun a H' τ' I' look => by
  obtain ⟨vs, k1, k2, I2⟩ := look _ _ (fun p hp => List.mem_append_left _ hp) I'
  refine ⟨a, vs, rfl, SqL.of k1, fun p hp => ?_⟩
  have hn := free0 I' hp
  refine q p vs.reverse (upd H0 p (.lst vs.reverse)) _ (same_upd _ hn) hn upd_same (by rw [List.length_reverse, List.length_reverse, k2]) (Ok.sub (I2.newAt hp _ rfl) fun y hy => ?_)
  rcases List.mem_append.mp hy with hy | hy
  · exact List.mem_append_left _ (zip_rev k2 hy)
  · exact List.mem_append_right _ (List.mem_append_right _ hy)
/-- xs + ys -/
theorem evn_cat (h : EvS K ta ρ ds) (h' : EvS K tb ρ es) (hz : ds.length + es.length ≤ sizeLine) : EvN K (tOp rAddA ta tb) ρ (ds ++ es) := fun B H0 σ τ H I Q q => h B H0 σ τ H I _ fun a H1 τ1 I1 look => h' B H0 σ _ H1 I1 _ fun b H2 τ2 I2 look' => by
  obtain ⟨ws, l1, l2, J⟩ := look' _ _ (fun p hp => List.mem_append_left _ hp) I2
  obtain ⟨vs, k1, k2, J2⟩ := look _ _ (fun p hp => List.mem_append_right _ (List.mem_append_right _ (List.mem_append_left _ hp))) J
  refine .inr (.inl ⟨a, b, vs, ws, rfl, rfl, k1, l1, by rw [k2, l2]; exact hz, fun p hp => ?_⟩)
  have hn := free0 I2 hp
  refine q p (vs ++ ws) (upd H0 p (.lst (vs ++ ws))) _ (same_upd _ hn) hn upd_same (by rw [List.length_append, List.length_append, k2, l2]) (Ok.sub (J2.newAt hp _ rfl) fun y hy => ?_)
  rw [List.zip_append k2] at hy
  rcases List.mem_append.mp hy with hy | hy
  · rcases List.mem_append.mp hy with hy | hy
    · exact List.mem_append_left _ hy
    · exact List.mem_append_right _ (List.mem_append_left _ hy)
  · exact List.mem_append_right _ (List.mem_append_right _ (List.mem_append_right _ (List.mem_append_right _ hy)))
/-- a call with lent arguments, answered by a scalar -/
theorem ev_callL {F : List D → D → Prop} {E : XK} (hs : EvL K ts ρ ds) (hf : F ds d) (hd : isS d = true) : Ev K (tCall (sp K F) [] E ts) ρ d := fun B H0 σ τ H I Q q =>
  hs B H0 σ τ H I _ fun vs H1 I1 r => ⟨fun _ => False, ds, d, (fun _ z => z.elim), by rw [List.append_nil, del_nil]; exact r, hf, fun v H' e rr => q v H' ((I1.grow e).push fun H2 => by
    have z := rr.sc hd
    subst z
    cases d <;> first | exact .non | exact .bl _ | exact .int _ | exact .str _ | exact .opq _ | cases hd)⟩
theorem z_max1 {ns : List Int} {m : Int} (h : EvL K (tCons ta tNil) ρ [.lst (ns.map D.int)]) (hm : m ∈ ns) (hb : ∀ y, y ∈ ns → y ≤ m) : Ev K (tCB (rMax K) (tCons ta tNil)) ρ (.int m) := z_cbL h fun H vs Q rr q => by
  cases rr with
  | cons r1 rr =>
    cases rr
    obtain ⟨a, rfl, hs⟩ := seq_ints r1 (.inl rfl)
    refine ⟨a, ns, rfl, hs, List.length_pos_of_mem hm, fun m' h1 h2 => ?_⟩
    rw [Int.le_antisymm (hb m' h1) (h2 m hm)]
    exact q _ fun _ => .int _
theorem z_min1 {ns : List Int} {m : Int} (h : EvL K (tCons ta tNil) ρ [.lst (ns.map D.int)]) (hm : m ∈ ns) (hb : ∀ y, y ∈ ns → m ≤ y) : Ev K (tCB (rMin K) (tCons ta tNil)) ρ (.int m) := z_cbL h fun H vs Q rr q => by
  cases rr with
  | cons r1 rr =>
    cases rr
    obtain ⟨a, rfl, hs⟩ := seq_ints r1 (.inl rfl)
    refine ⟨a, ns, rfl, hs, List.length_pos_of_mem hm, fun m' h1 h2 => ?_⟩
    rw [Int.le_antisymm (h2 m hm) (hb m' h1)]
    exact q _ fun _ => .int _
/-! ### a checkpoint: all that stands is lent from here on -/
def lend : Sl → Sl
  | .no => .no | .st d => .bo d | .ow ds => .bo (.lst ds) | .bo d => .bo d
theorem Ok.root (I : Ok K B H0 σ ρ τ H) : Ok K (Mu H) H σ (ρ.map lend) [] H := by
  have e0 := same0 I
  obtain ⟨l, bs, bo, O, a1, a2, a3, a4, a5, a6⟩ := I
  have sl : ∀ (i : Nat) (s : Sl), (ρ.map lend)[i]? = some s → ∃ s', ρ[i]? = some s' ∧ lend s' = s := fun i s q => by
    rw [List.getElem?_map] at q
    cases e : ρ[i]? with
    | none => rw [e] at q; cases q
    | some s' => rw [e] at q; cases q; exact ⟨s', rfl, rfl⟩
  refine ⟨by rw [List.length_map, l], fun _ h => h, fun i d q => ?_, [], by rw [onl_nil, del_nil]; exact Same.refl _, by rw [un_nil]; exact fun _ h => h, fun i d q => ?_, fun i ds q => ?_, fun i j ds es a q _ => ?_, fun p hp => nomatch hp⟩
  · obtain ⟨s, q1, q2⟩ := sl i _ q
    cases s with
    | no => cases q2
    | st d' =>
      cases q2
      obtain ⟨v, z, r⟩ := a3 i _ q1
      exact ⟨v, z, r.mono (del_same _ _)⟩
    | ow ds =>
      cases q2
      obtain ⟨a, vs, z, m, x, r⟩ := a4 i _ q1
      exact ⟨_, z, .lst x (r.mono (del_same _ _))⟩
    | bo d' =>
      cases q2
      obtain ⟨v, z, r⟩ := bo i _ q1
      exact ⟨v, z, r.mono e0⟩
  · obtain ⟨s, q1, q2⟩ := sl i _ q
    cases s <;> cases q2
  · obtain ⟨s, q1, q2⟩ := sl i _ q
    cases s <;> cases q2
  · obtain ⟨s, q1, q2⟩ := sl i _ q
    cases s <;> cases q2
theorem sq_root (h : ∀ H', (∀ Q d, Rt X Q d → Rt ⟨X.K, Mu H', H', []⟩ Q d) → Sw ⟨X.K, Mu H', H', []⟩ u En (ρ.map lend)) : Sw X u En ρ := fun σ H I => by
  refine h H (fun Q d hR v H' e r => hR v H' ((same0 I).trans e) (r.mono (del_sub fun a z => ?_))) σ H I.root
  obtain ⟨o, q, m⟩ := I.bs a z
  exact ⟨o, same0 I _ _ q, m⟩
/-! ### a list within a held thing is written; held things with lists are forgotten -/
def thin : Sl → Sl
  | .st d => cond (flat d) (.st d) .no
  | .ow ds => .no
  | .no => .no
  | .bo d => .bo d
theorem thin_st {d : D} {s : Sl} (h : thin (.st d) = s) : flat d = true ∧ s = .st d ∨ s = .no := by
  have h : cond (flat d) (.st d) .no = s := h
  cases e : flat d with
  | true => rw [e] at h; exact .inl ⟨rfl, h.symm⟩
  | false => rw [e] at h; exact .inr h.symm
theorem Ok.thaw {p : Addr} {vs : List V} (I : Ok K (Mu H0) H0 σ ρ τ H) (hp : H p = some (.lst vs)) (hn : ¬ Mu H0 p) (ws : List V) : Ok K (Mu H0) H0 σ (ρ.map thin) [] (upd H p (.lst ws)) := by
  obtain ⟨l, bs, bo, O, a1, a2, a3, a4, a5, a6⟩ := I
  have sl : ∀ (i : Nat) (s : Sl), (ρ.map thin)[i]? = some s → ∃ s', ρ[i]? = some s' ∧ thin s' = s := fun i s q => by
    rw [List.getElem?_map] at q
    cases e : ρ[i]? with
    | none => rw [e] at q; cases q
    | some s' => rw [e] at q; cases q; exact ⟨s', rfl, rfl⟩
  have noOw : ∀ (i : Nat) (ds : List D), (ρ.map thin)[i]? = some (.ow ds) → False := fun i ds q => by
    obtain ⟨s, q1, q2⟩ := sl i _ q
    cases s with
    | st d =>
      rcases thin_st q2 with ⟨_, z⟩ | z <;> cases z
    | no => cases q2
    | ow => cases q2
    | bo => cases q2
  have keepI : KeepI (del H (un (Mu H0) O)) (del (upd H p (.lst ws)) (un (Mu H0) (p :: O))) := fun a o q m => by
    obtain ⟨q1, q2⟩ := del_some.mp q
    have hap : a ≠ p := fun z => by
      subst z
      rw [hp] at q2
      cases q2
      cases m
    refine del_some.mpr ⟨fun z => ?_, by rw [upd_ne hap]; exact q2⟩
    rcases z with z | z
    · exact q1 (.inl z)
    · rcases List.mem_cons.mp z with z | z
      · exact hap z
      · exact q1 (.inr z)
  refine ⟨by rw [List.length_map, l], fun _ h => h, fun i d q => ?_, p :: O, fun b o q => ?_, fun a q => ?_, fun i d q => ?_, fun i ds q => (noOw i ds q).elim, fun i j ds es a q => (noOw i ds q).elim, fun p hp => nomatch hp⟩
  · obtain ⟨s, q1, q2⟩ := sl i _ q
    cases s with
    | st d =>
      rcases thin_st q2 with ⟨_, z⟩ | z <;> cases z
    | no => cases q2
    | ow => cases q2
    | bo d' => cases q2; exact bo i _ q1
  · obtain ⟨q1, q2⟩ := del_some.mp (a1 b o q)
    have hbp : b ≠ p := fun z => by
      subst z
      rw [hp] at q2
      cases q2
      exact hn ⟨_, q, rfl⟩
    refine del_some.mpr ⟨fun z => ?_, by rw [upd_ne hbp]; exact q2⟩
    rcases List.mem_cons.mp z with z | z
    · exact hbp z
    · exact q1 z
  · by_cases hap : a = p
    · subst hap
      exact ⟨_, upd_same, rfl⟩
    · obtain ⟨o, q1, q2⟩ := a2 a (by
        rcases q with q | q
        · exact .inl q
        · rcases List.mem_cons.mp q with q | q
          · exact absurd q hap
          · exact .inr q)
      exact ⟨o, by rw [upd_ne hap]; exact q1, q2⟩
  · obtain ⟨s, q1, q2⟩ := sl i _ q
    cases s with
    | st d' =>
      rcases thin_st q2 with ⟨hf, z⟩ | z
      · cases z
        obtain ⟨v, z, r⟩ := a3 i _ q1
        unfold flat at hf
        rw [Bool.and_eq_true] at hf
        exact ⟨v, z, r.nm keepI hf.1 hf.2⟩
      · cases z
    | no => cases q2
    | ow => cases q2
    | bo => cases q2
/-- x[k].append(c), the list k of a held thing -/
theorem sw_appIn {H0 : Hp} {k c : Int} (hi : ρ[i]? = some (.st d)) (hk : ixD d k = some (.lst ds)) (hz : ds.length < sizeLine) (q : Nx ⟨K, Mu H0, H0, []⟩ En.nx (ρ.map thin)) :
    Sw ⟨K, Mu H0, H0, []⟩ (tDrop (tBM K "list" rAppend (tOp (rIx K) (tVar i) (tC (.int k))) (tCons (tC (.int c)) tNil))) En ρ := fun σ H I => by
  refine ev_ix (d := d) (ev_var hi) ev_int hk _ _ σ [] H I _ fun v H1 I1 => ?_
  have J := I1
  obtain ⟨l, bs, bo, O, a1, a2, a3, a4, a5, a6⟩ := I1
  have r := a6 _ (List.mem_cons_self ..)
  cases r with
  | lst h rr =>
    obtain ⟨h1, h2⟩ := del_some.mp h
    exact ⟨.inl ⟨rfl, _, SqL.of h2⟩, _, _, _, rfl, rfl, h2, by rw [rr.length]; exact hz, q σ _ (J.thaw h2 (fun z => h1 (.inl z)) _)⟩
theorem sq_appIn {H0 : Hp} {k c : Int} (hi : ρ[i]? = some (.st d)) (hk : ixD d k = some (.lst ds)) (hz : ds.length < sizeLine) (q : Sw ⟨K, Mu H0, H0, []⟩ u En (ρ.map thin)) :
    Sw ⟨K, Mu H0, H0, []⟩ (tSeq (tDrop (tBM K "list" rAppend (tOp (rIx K) (tVar i) (tC (.int k))) (tCons (tC (.int c)) tNil))) u) En ρ := sw_seq (sw_appIn hi hk hz q)
end
end Z

namespace Z
open PySem L2
/-! ### one bottom for a list of fractions -/
def lcmI (b c : Int) : Int := b * c / ((Int.gcd b c : Nat) : Int)
theorem lcmI_eq {b c : Int} (hb : 0 < b) (hc : 0 < c) : lcmI b c = ((Int.lcm b c : Nat) : Int) := by
  have h := Int.lcm_mul_gcd b c
  have g : 0 < Int.gcd b c := Int.gcd_pos_of_ne_zero_left c (by omega)
  have e : b * c = ((Int.lcm b c : Nat) : Int) * ((Int.gcd b c : Nat) : Int) := by
    rw [← Int.natCast_mul, h, Int.natCast_mul, Int.natAbs_of_nonneg (by omega), Int.natAbs_of_nonneg (by omega)]
  unfold lcmI
  rw [e, Int.mul_ediv_cancel _ (by omega)]
def LFb : Int → List (Int × Int) → Int
  | b, [] => b
  | b, f :: r => LFb (lcmI b f.2) r
abbrev LF (fs : List (Int × Int)) : Int := LFb 1 fs
theorem LFb_take : ∀ {fs : List (Int × Int)} {i : Nat} {f : Int × Int} (b : Int), fs[i]? = some f → LFb b (fs.take (i + 1)) = lcmI (LFb b (fs.take i)) f.2
  | [], _, _, _, h => by cases h
  | g :: r, 0, f, b, h => by cases h; rfl
  | g :: r, i + 1, f, b, h => LFb_take (fs := r) (i := i) (lcmI b g.2) h
theorem LFb_spec : ∀ {fs : List (Int × Int)} {b : Int}, 0 < b → (∀ f, f ∈ fs → 0 < f.2) → 0 < LFb b fs ∧ b ∣ LFb b fs ∧ (∀ f, f ∈ fs → f.2 ∣ LFb b fs) ∧ ∀ M, b ∣ M → (∀ f, f ∈ fs → f.2 ∣ M) → LFb b fs ∣ M
  | [], b, hb, _ => ⟨hb, Int.dvd_refl _, (fun f h => by cases h), fun M h _ => h⟩
  | g :: r, b, hb, h => by
    have hg := h g (List.mem_cons_self ..)
    have e := lcmI_eq hb hg
    have hl : 0 < lcmI b g.2 := by
      rw [e]
      have := Int.lcm_pos (m := b) (n := g.2) (by omega) (by omega)
      omega
    obtain ⟨h1, h2, h3, h4⟩ := LFb_spec (fs := r) hl fun f hf => h f (List.mem_cons_of_mem _ hf)
    have d1 : b ∣ lcmI b g.2 := by rw [e]; exact Int.dvd_lcm_left ..
    have d2 : g.2 ∣ lcmI b g.2 := by rw [e]; exact Int.dvd_lcm_right ..
    refine ⟨h1, Int.dvd_trans d1 h2, fun f hf => ?_, fun M hM hall => h4 M ?_ fun f hf => hall f (List.mem_cons_of_mem _ hf)⟩
    · rcases List.mem_cons.mp hf with rfl | hf
      · exact Int.dvd_trans d2 h2
      · exact h3 f hf
    · rw [e]
      exact Int.coe_lcm_dvd hM (hall g (List.mem_cons_self ..))
theorem LFb_le {k : Nat} : ∀ {fs : List (Int × Int)} {b : Int}, 0 < b → (∀ f, f ∈ fs → 0 < f.2 ∧ f.2.natAbs < 2 ^ k) → (LFb b fs).natAbs ≤ b.natAbs * 2 ^ (k * fs.length)
  | [], b, hb, _ => by show b.natAbs ≤ _; simp
  | g :: r, b, hb, h => by
    obtain ⟨hg, hs⟩ := h g (List.mem_cons_self ..)
    have e := lcmI_eq hb hg
    have hl : 0 < lcmI b g.2 := by
      rw [e]
      have := Int.lcm_pos (m := b) (n := g.2) (by omega) (by omega)
      omega
    have q := LFb_le (k := k) (fs := r) hl fun f hf => h f (List.mem_cons_of_mem _ hf)
    have m : (lcmI b g.2).natAbs ≤ b.natAbs * 2 ^ k := by
      rw [e, Int.natAbs_natCast]
      exact Nat.le_trans (Int.lcm_le_natAbs_mul (by omega) (by omega)) (Nat.mul_le_mul_left _ (Nat.le_of_lt hs))
    show (LFb (lcmI b g.2) r).natAbs ≤ _
    refine Nat.le_trans q (Nat.le_trans (Nat.mul_le_mul_right _ m) ?_)
    rw [Nat.mul_assoc, ← Nat.pow_add, List.length_cons, Nat.mul_succ, Nat.add_comm]
    exact Nat.le_refl _
def Good (fs : List (Int × Int)) : Prop := fs.length ≤ 45 ∧ ∀ f, f ∈ fs → 0 < f.2 ∧ f.1.natAbs < 2 ^ 100 ∧ f.2.natAbs < 2 ^ 100
theorem Good.pos {fs : List (Int × Int)} (h : Good fs) : ∀ f, f ∈ fs → 0 < f.2 := fun f hf => (h.2 f hf).1
theorem Good.take {fs : List (Int × Int)} (h : Good fs) (i : Nat) : Good (fs.take i) := ⟨by rw [List.length_take]; have := h.1; omega, fun f hf => h.2 f (List.mem_of_mem_take hf)⟩
theorem Good.bound {fs : List (Int × Int)} (h : Good fs) : 0 < LF fs ∧ (LF fs).natAbs < 2 ^ 4501 := by
  have h1 := (LFb_spec (b := 1) (by decide) h.pos).1
  have h2 := LFb_le (k := 100) (b := 1) (by decide) fun f hf => ⟨(h.2 f hf).1, (h.2 f hf).2.2⟩
  refine ⟨h1, Nat.lt_of_le_of_lt h2 ?_⟩
  have e : (1 : Int).natAbs = 1 := rfl
  rw [e, Nat.one_mul]
  exact Nat.pow_lt_pow_right (by decide) (by have := h.1; omega)
def topsOf (fs : List (Int × Int)) : List Int := fs.map fun f => f.1 * (LF fs / f.2)
/-- the common divisor of what is left over each bottom -/
def CFb (L : Int) : Int → List (Int × Int) → Int
  | g, [] => g
  | g, f :: r => CFb L ((Int.gcd g (L / f.2) : Nat) : Int) r
theorem CFb_take {L : Int} : ∀ {fs : List (Int × Int)} {i : Nat} {f : Int × Int} (g : Int), fs[i]? = some f → CFb L g (fs.take (i + 1)) = ((Int.gcd (CFb L g (fs.take i)) (L / f.2) : Nat) : Int)
  | [], _, _, _, h => by cases h
  | a :: r, 0, f, b, h => by cases h; rfl
  | a :: r, i + 1, f, b, h => CFb_take (fs := r) (i := i) _ h
theorem CFb_dvd {L : Int} : ∀ {fs : List (Int × Int)} {g : Int}, 0 ≤ g → 0 ≤ CFb L g fs ∧ CFb L g fs ∣ g ∧ ∀ f, f ∈ fs → CFb L g fs ∣ L / f.2
  | [], g, hg => ⟨hg, Int.dvd_refl _, (fun f h => by cases h)⟩
  | a :: r, g, hg => by
    obtain ⟨h1, h2, h3⟩ := CFb_dvd (L := L) (fs := r) (g := ((Int.gcd g (L / a.2) : Nat) : Int)) (by omega)
    refine ⟨h1, Int.dvd_trans h2 (Int.gcd_dvd_left ..), fun f hf => ?_⟩
    rcases List.mem_cons.mp hf with rfl | hf
    · exact Int.dvd_trans h2 (Int.gcd_dvd_right ..)
    · exact h3 f hf
theorem CF_one {fs : List (Int × Int)} (hp : ∀ f, f ∈ fs → 0 < f.2) (hne : fs ≠ []) : CFb (LF fs) 0 fs = 1 := by
  obtain ⟨p, _, dv, least⟩ := LFb_spec (b := 1) (by decide) hp
  obtain ⟨h0, _, hd⟩ := CFb_dvd (L := LF fs) (fs := fs) (g := 0) (by decide)
  generalize CFb (LF fs) 0 fs = d at *
  change 0 < LF fs at p
  change ∀ f, f ∈ fs → f.2 ∣ LF fs at dv
  change ∀ M, (1 : Int) ∣ M → (∀ f, f ∈ fs → f.2 ∣ M) → LF fs ∣ M at least
  generalize LF fs = L at *
  obtain ⟨f0, r, rfl⟩ := List.exists_cons_of_ne_nil hne
  have quo : ∀ f, f ∈ f0 :: r → 0 < L / f.2 := fun f hf => by
    obtain ⟨q, e⟩ := dv f hf
    have := hp f hf
    rw [e, Int.mul_ediv_cancel_left _ (by omega)]
    rw [e] at p
    exact Int.pos_of_mul_pos_right p (by omega)
  have dpos : 0 < d := by
    rcases Int.lt_or_eq_of_le h0 with h | h
    · exact h
    · exfalso
      obtain ⟨q, e⟩ := hd f0 (List.mem_cons_self ..)
      have := quo f0 (List.mem_cons_self ..)
      rw [← h, Int.zero_mul] at e
      omega
  have dL : d ∣ L := by
    obtain ⟨q, e⟩ := dv f0 (List.mem_cons_self ..)
    have hf := hp f0 (List.mem_cons_self ..)
    have k := hd f0 (List.mem_cons_self ..)
    rw [e, Int.mul_ediv_cancel_left _ (by omega)] at k
    rw [e]
    exact Int.dvd_trans k (Int.dvd_mul_left ..)
  obtain ⟨m, em⟩ := dL
  have mpos : 0 < m := by
    rw [em] at p
    exact Int.pos_of_mul_pos_right p (by omega)
  have all : ∀ f, f ∈ f0 :: r → f.2 ∣ m := fun f hf => by
    obtain ⟨q, e⟩ := dv f hf
    have hf0 := hp f hf
    obtain ⟨c, ec⟩ := hd f hf
    rw [e, Int.mul_ediv_cancel_left _ (by omega)] at ec
    refine ⟨c, ?_⟩
    have e3 : d * m = d * (f.2 * c) := by
      rw [← em, e, ec]
      ac_rfl
    exact Int.eq_of_mul_eq_mul_left (by omega) e3
  have Lm := least m (Int.one_dvd _) all
  have le := Int.le_of_dvd mpos Lm
  rw [em] at le
  have : d * m ≤ 1 * m := by rw [Int.one_mul]; exact le
  have := Int.le_of_mul_le_mul_right this mpos
  omega
theorem Good.top {fs : List (Int × Int)} (h : Good fs) {y : Int} (hy : y ∈ topsOf fs) : y.natAbs < 2 ^ 4601 := by
  obtain ⟨f, hf, rfl⟩ := List.mem_map.mp hy
  have b := h.bound
  have hm := h.2 f hf
  have h1 : 0 ≤ LF fs / f.2 := Int.ediv_nonneg (by omega) (by omega)
  have h2 : LF fs / f.2 ≤ LF fs := Int.ediv_le_self _ (by omega)
  exact Nat.lt_of_lt_of_le (wide_lt hm.2.1 (Nat.lt_of_le_of_lt (by omega : (LF fs / f.2).natAbs ≤ (LF fs).natAbs) b.2)) (Nat.pow_le_pow_right (by decide) (by decide))
theorem sum_le {B : Nat} : ∀ {l : List Int}, (∀ y, y ∈ l → y.natAbs ≤ B) → l.sum.natAbs ≤ l.length * B
  | [], _ => Nat.zero_le _
  | a :: r, h => by
    have h1 := h a (List.mem_cons_self ..)
    have h2 := sum_le (l := r) fun y hy => h y (List.mem_cons_of_mem _ hy)
    rw [List.sum_cons, List.length_cons, Nat.succ_mul]
    omega
theorem Good.sum {fs : List (Int × Int)} (h : Good fs) : (topsOf fs).sum.natAbs < 2 ^ 4610 := by
  have h1 := sum_le (B := 2 ^ 4601) (l := topsOf fs) fun y hy => Nat.le_of_lt (h.top hy)
  have e : (topsOf fs).length = fs.length := List.length_map ..
  rw [e] at h1
  refine Nat.lt_of_le_of_lt (Nat.le_trans h1 (Nat.mul_le_mul_right _ (Nat.le_trans h.1 (by decide : 45 ≤ 2 ^ 6)))) ?_
  rw [← Nat.pow_add]
  exact Nat.pow_lt_pow_right (by decide) (by decide)
theorem ex_max : ∀ {l : List Int}, l ≠ [] → ∃ m, m ∈ l ∧ ∀ y, y ∈ l → y ≤ m
  | [], h => absurd rfl h
  | [a], _ => ⟨a, List.mem_cons_self .., fun y hy => by rw [List.mem_singleton.mp hy]; exact Int.le_refl _⟩
  | a :: b :: r, _ => by
    obtain ⟨m, hm, hb⟩ := ex_max (l := b :: r) (by simp)
    rcases Int.le_total a m with h | h
    · refine ⟨m, List.mem_cons_of_mem _ hm, fun y hy => ?_⟩
      rcases List.mem_cons.mp hy with rfl | hy
      · exact h
      · exact hb y hy
    · refine ⟨a, List.mem_cons_self .., fun y hy => ?_⟩
      rcases List.mem_cons.mp hy with rfl | hy
      · exact Int.le_refl _
      · exact Int.le_trans (hb y hy) h
theorem ex_min {l : List Int} (h : l ≠ []) : ∃ m, m ∈ l ∧ ∀ y, y ∈ l → m ≤ y := by
  obtain ⟨m, hm, hb⟩ := ex_max (l := l.map fun x => -x) (by intro z; exact h (List.map_eq_nil_iff.mp z))
  obtain ⟨x, hx, rfl⟩ := List.mem_map.mp hm
  exact ⟨x, hx, fun y hy => by have := hb (-y) (List.mem_map.mpr ⟨y, hy, rfl⟩); omega⟩
theorem frs_at {fs : List (Int × Int)} {i : Nat} {f : Int × Int} (h : fs[i]? = some f) : ixD (.lst (fs.map fr)) (i : Int) = some (fr f) := atI_nat (by rw [List.getElem?_map, h]; rfl)
theorem tops_at {fs : List (Int × Int)} {i : Nat} {f : Int × Int} (h : fs[i]? = some f) : ixD (.lst ((topsOf fs).map D.int)) (i : Int) = some (.int (f.1 * (LF fs / f.2))) := atI_nat (by unfold topsOf; rw [List.getElem?_map, List.getElem?_map, h]; rfl)
theorem dvd_cross {a b L : Int} (h : b ∣ L) (hb : 0 < b) : a * (L / b) * b = a * L := by
  rw [Int.mul_assoc, Int.ediv_mul_cancel h]
end Z

namespace My
open PySem L2 Z
local macro_rules | `(tactic| walk_at "side") => `(tactic| first | assumption | omega | decide)
local macro_rules | `(tactic| walk_at "ev") => `(tactic| first
  | with_reducible exact ev_int
  | with_reducible exact ev_bl
  | with_reducible exact ev_str
  | with_reducible exact ev_non
  | ((with_reducible refine' ev_var ?h1); (case h1 => exact rfl))
  | ((with_reducible refine' z_add ?h1 ?h2); (case h1 => walk_at "ev"); (case h2 => walk_at "ev"))
  | ((with_reducible refine' z_sub ?h1 ?h2); (case h1 => walk_at "ev"); (case h2 => walk_at "ev"))
  | ((with_reducible refine' z_mul ?h1 ?h2 ?h3); (case h1 => walk_at "ev"); (case h2 => walk_at "ev"); (try (case h3 => walk_at "side")))
  | ((with_reducible refine' z_modp ?h1 ?h2 ?h3); (case h1 => walk_at "ev"); (case h2 => walk_at "ev"); (case h3 => walk_at "side"))
  | ((with_reducible refine' z_mod ?h1 ?h2 ?h3); (case h1 => walk_at "ev"); (case h2 => walk_at "ev"); (try (case h3 => walk_at "side")))
  | ((with_reducible refine' z_divs ?h1 ?h2 ?h3 ?h4); (case h1 => walk_at "ev"); (case h2 => walk_at "ev"); (case h3 => walk_at "side"); (case h4 => walk_at "side"))
  | ((with_reducible refine' z_div ?h1 ?h2 ?h3); (case h1 => walk_at "ev"); (case h2 => walk_at "ev"); (try (case h3 => walk_at "side")))
  | ((with_reducible refine' z_pow (c := ?c) ?h1 ?h2 ?h3 ?h4); (case h1 => walk_at "ev"); (case h2 => walk_at "ev"); (try (case h3 => walk_at "side")); (try (case h4 => exact rfl)))
  | ((with_reducible refine' z_lt ?h1 ?h2); (case h1 => walk_at "ev"); (case h2 => walk_at "ev"))
  | ((with_reducible refine' z_le ?h1 ?h2); (case h1 => walk_at "ev"); (case h2 => walk_at "ev"))
  | ((with_reducible refine' z_gt ?h1 ?h2); (case h1 => walk_at "ev"); (case h2 => walk_at "ev"))
  | ((with_reducible refine' z_ge ?h1 ?h2); (case h1 => walk_at "ev"); (case h2 => walk_at "ev"))
  | ((with_reducible refine' z_eqI ?h1 ?h2); (case h1 => walk_at "ev"); (case h2 => walk_at "ev"))
  | ((with_reducible refine' z_neI ?h1 ?h2); (case h1 => walk_at "ev"); (case h2 => walk_at "ev"))
  | ((with_reducible refine' z_eqS ?h1 ?h2); (case h1 => walk_at "ev"); (case h2 => walk_at "ev"))
  | ((with_reducible refine' z_eqB ?h1 ?h2); (case h1 => walk_at "ev"); (case h2 => walk_at "ev"))
  | ((with_reducible refine' z_abs ?h1); (case h1 => walk_at "ev"))
  | ((with_reducible refine' z_isi ?h1 ?h2 ?h3); (case h1 => walk_at "ev"); (case h2 => exact rfl); (case h3 => decide +kernel))
  | ((with_reducible refine' z_len ?h1 ?h2); (case h1 => walk_at "ev"); (case h2 => exact rfl))
  | ((with_reducible refine' ev_ix ?h1 ?h2 ?h3); (case h1 => walk_at "ev"); (case h2 => walk_at "ev"); (try (case h3 => exact rfl)))
  | ((with_reducible refine' ev_tup ?h1 ?h2); (case h1 => walk_at "ea"); (case h2 => exact rfl))
  | ((with_reducible refine' ev_lst ?h1 ?h2); (case h1 => walk_at "ea"); (case h2 => exact rfl))
  | ((with_reducible refine' ev_varB ?h1 ?h2); (case h1 => exact rfl); (case h2 => exact rfl))
  | ((with_reducible refine' ev_call ?h1 ?h2); (case h1 => walk_at "ea"); (try (case h2 => walk_at "call")))
  | ((with_reducible refine' ev_andV ?h1 ?h2); (case h1 => walk_at "ev"); (case h2 => (intro _; walk_at "ev")))
  | ((with_reducible refine' ev_orV ?h1 ?h2); (case h1 => walk_at "ev"); (case h2 => (intro _; walk_at "ev")))
  | ((with_reducible refine' ev_notV ?h1); (case h1 => walk_at "ev"))
  | ((with_reducible refine' z_neg ?h1); (case h1 => walk_at "ev"))
  | ((with_reducible refine' z_intB ?h1); (case h1 => walk_at "ev"))
  | ((with_reducible refine' z_intI ?h1); (case h1 => walk_at "ev"))
  | ((with_reducible refine' z_notN ?h1 ?h2); (case h1 => walk_at "ev"); (case h2 => walk_at "ev"))
  | ((with_reducible refine' z_isN ?h1 ?h2); (case h1 => walk_at "ev"); (case h2 => walk_at "ev")))
local macro_rules | `(tactic| walk_at "ea") => `(tactic| first
  | with_reducible exact eva_nil
  | ((with_reducible refine' eva_cons ?h1 ?h2); (case h1 => walk_at "ev"); (case h2 => walk_at "ea")))
local macro_rules | `(tactic| walk_at "et") => `(tactic| first
  | ((with_reducible refine' evt_of ?h1); (case h1 => walk_at "ev"))
  | ((with_reducible refine' evt_b ?h1); (case h1 => walk_at "ev"))
  | ((with_reducible refine' evt_not ?h1); (case h1 => walk_at "et"))
  | ((with_reducible refine' evt_and ?h1 ?h2); (case h1 => walk_at "et"); (case h2 => (intro _; walk_at "et")))
  | ((with_reducible refine' evt_or ?h1 ?h2); (case h1 => walk_at "et"); (case h2 => (intro _; walk_at "et"))))
local macro_rules | `(tactic| walk_at "call") => `(tactic| fail)
local macro_rules | `(tactic| walk_at "nx") => `(tactic| ((try dsimp only []); refine (?_ : Sw _ _ _ _)))

def top (i : Nat) : Stmt := PySem.Challenge.pw_chancehall_k05_lists_of_fractions.main.body.getD i (.Pass ⟨0, 0, 0, 0⟩)
def CL : List Str := ["HallError", "NoNumber"]
def RS : List Str := ["NoNumber"]
abbrev s_is_whole : Stmt := top 4
theorem sc_is_whole : FnScope ["thing"] ["thing"] (defScope s_is_whole) := ⟨rfl, rfl, rfl, by decide +kernel, rfl, by decide +kernel, by decide +kernel⟩
def isI : D → Bool
  | .int _ => true | _ => false
def F_is_whole (ds : List D) (d : D) : Prop := ∃ (x : D) (t : String), ds = [x] ∧ tyD x = some t ∧ d = .bl (isI x)
theorem F_is_whole_len : ∀ ds d, F_is_whole ds d → ds.length = 1 := by
  rintro _ _ ⟨a, b, rfl, _⟩
  rfl
theorem whole_kit0 {x : D} {t : String} (h : tyD x = some t) : ∃ b c, kitB t "int" = some b ∧ kitB t "bool" = some c ∧ (b && !c) = (isI x) := by
  cases x <;> cases h
  · exact ⟨false, false, by decide +kernel, by decide +kernel, rfl⟩
  · exact ⟨true, true, by decide +kernel, by decide +kernel, rfl⟩
  · exact ⟨true, false, by decide +kernel, by decide +kernel, rfl⟩
  · exact ⟨false, false, by decide +kernel, by decide +kernel, rfl⟩
  · exact ⟨false, false, by decide +kernel, by decide +kernel, rfl⟩
  · exact ⟨false, false, by decide +kernel, by decide +kernel, rfl⟩
  · exact ⟨false, false, by decide +kernel, by decide +kernel, rfl⟩

theorem ok_is_whole {P : Program} {w : World} {K : PySem.W.Frag} {mg : Str → Option Value} {base : Heap} {f : Addr} {fd : FuncData} (Fn : Fun K "is_whole" "is_whole" s_is_whole f fd) {C : Str → Addr} (T : ErrTab K mg C CL RS) (m_isinstance : mg "isinstance" = none) (m_bool : mg "bool" = none) (m_int : mg "int" = none) :
    FnOk P w K mg base CX0 1 f fd ["thing"] (sp K F_is_whole) := by
  refine def_ok Fn sc_is_whole F_is_whole_len (n := 0) rfl (fun cdv A outer s H E hr => ⟨_, (pss_one (ps_ret (pe_and (pe_callB call_isA (by rfl) m_isinstance (by decide +kernel) (pa_cons (pv 0) (pa_cons (pe_bltn (v := .ty "int") (u := .type "int") (by rfl) m_int (by decide +kernel) rfl) pa_nil))) (pe_one (pe_not (pe_callB call_isA (by rfl) m_isinstance (by decide +kernel) (pa_cons (pv 0) (pa_cons (pe_bltn (v := .ty "bool") (u := .type "bool") (by rfl) m_bool (by decide +kernel) rfl) pa_nil)))))))), ?_⟩)
  dsimp only [L2.cxOf, L2.Cx.nox, L2.Cx.wish]
  rintro _ _ ⟨x, t, rfl, ht, rfl⟩ X Q rfl hR
  obtain ⟨b, c, hb, hc, e⟩ := whole_kit0 ht
  refine sw_ret (ev_andV (z_isi (ev_var rfl) ht hb) fun _ => ev_notV (z_isi (ev_var rfl) ht hc)) ?_
  rw [e]
  exact hR
abbrev s_divisor : Stmt := top 5
theorem sc_divisor : FnScope ["one", "other"] ["one", "other"] (defScope s_divisor) := ⟨rfl, rfl, rfl, by decide +kernel, rfl, by decide +kernel, by decide +kernel⟩
def F_divisor (ds : List D) (d : D) : Prop := ∃ a b : Int, ds = [.int a, .int b] ∧ d = .int (Int.gcd a b)
theorem F_divisor_len : ∀ ds d, F_divisor ds d → ds.length = 2 := by
  rintro _ _ ⟨a, b, rfl, rfl⟩
  rfl

theorem ok_divisor {P : Program} {w : World} {K : PySem.W.Frag} {mg : Str → Option Value} {base : Heap} {f : Addr} {fd : FuncData} (Fn : Fun K "divisor" "divisor" s_divisor f fd) {C : Str → Addr} (T : ErrTab K mg C CL RS) (m_abs : mg "abs" = none) :
    FnOk P w K mg base CX0 1 f fd ["one", "other"] (sp K F_divisor) := by
  refine def_ok Fn sc_divisor F_divisor_len (n := 0) rfl (fun cdv A outer s H E hr => ⟨_, (pss_cons (ps_while PassesOwn.never (pt_cmpR (op_neA hr.units) (pv 1) pe_int (nomark _)) (pss_one (ps_par (by rfl) sc_divisor.nd (i := 0) (j := 1) rfl rfl (by decide) rfl rfl (pa_cons (pv 1) (pa_cons (pe_op op_modA (pv 0) (pv 1)) pa_nil)) (by rfl))))
    (pss_one (ps_ret (pe_callB call_absA (by rfl) m_abs (by decide +kernel) (pa_cons (pv 0) pa_nil))))), ?_⟩)
  dsimp only [L2.cxOf, L2.Cx.nox, L2.Cx.wish]
  rintro _ _ ⟨a0, b0, rfl, rfl⟩ X Q rfl hR
  refine sq_while (fun m ρ => ∃ a b : Int, ρ = [.st (.int a), .st (.int b)] ∧ Int.gcd a b = Int.gcd a0 b0 ∧ m = b.natAbs) (m := b0.natAbs) ⟨a0, b0, rfl, rfl, rfl⟩ ?_
  rintro m ρ ⟨a, b, rfl, hg, rfl⟩
  refine ⟨_, by walk_at "et", fun hb N hN => ?_, fun hb => ?_⟩
  · have hb' : b ≠ 0 := by simpa using hb
    refine sw_par (by walk_at "ea") ?_
    refine hN (a.fmod b).natAbs _ (fmod_lt a hb') ⟨b, a.fmod b, rfl, ?_, rfl⟩
    rw [gcd_fmod, hg]
  · have hb' : b = 0 := by simpa using hb
    subst hb'
    refine sw_ret (by walk_at "ev") ?_
    rw [Int.gcd_zero] at hg
    rw [hg]
    exact hR
abbrev s_ratio : Stmt := top 7
theorem sc_ratio : FnScope ["top", "bottom", "common"] ["top", "bottom"] (defScope s_ratio) := ⟨rfl, rfl, rfl, by decide +kernel, rfl, by decide +kernel, by decide +kernel⟩
def F_ratio (ds : List D) (o : Out) : Prop := (∃ t b : Int, ds = [.int t, .int b] ∧ b ≠ 0 ∧ b.natAbs < 2 ^ 8999 ∧ o = .ret (fr (ratioF t b))) ∨
  (∃ (x y : D) (tx ty : String), ds = [x, y] ∧ tyD x = some tx ∧ tyD y = some ty ∧ (isI x = false ∨ isI y = false ∨ y = .int 0) ∧ o = .exc "NoNumber" none)
theorem F_ratio_len : ∀ ds o, F_ratio ds o → ds.length = 2 := by
  rintro _ _ (⟨a, b, rfl, _⟩ | ⟨a, b, _, _, rfl, _⟩) <;> rfl

theorem ok_ratio {P : Program} {w : World} {K : PySem.W.Frag} {mg : Str → Option Value} {base : Heap} {f : Addr} {fd : FuncData} (Fn : Fun K "ratio" "ratio" s_ratio f fd) {C : Str → Addr} (T : ErrTab K mg C CL RS) (G_is_whole : Gd P w K mg base "is_whole" 1 ["thing"] F_is_whole) (G_divisor : Gd P w K mg base "divisor" 1 ["one", "other"] F_divisor) :
    FnOk P w K mg base (L2.CX P w) 2 f fd ["top", "bottom"] (spX K F_ratio) := by
  refine def_okX Fn sc_ratio F_ratio_len (n := 1) rfl (fun cdv A outer s H E hr => ⟨_, (pss_cons (ps_if (PW.pt (pw_or (pt_not (pt_val (pe_gd G_is_whole hr (by decide) rfl (pa_cons (pv 0) pa_nil)))) (pw_or (pt_not (pt_val (pe_gd G_is_whole hr (by decide) rfl (pa_cons (pv 1) pa_nil)))) (pw_or1 (pt_cmpR (op_eqA hr.units) (pv 1) pe_int (nomark _)))))) (pss_one (ps_raiseN rfl (T.err "NoNumber" (by decide +kernel)) (takes_of rfl rfl rfl rfl) rfl)) pss_nil)
    (pss_cons (ps_set (i := 2) sc_ratio.nd rfl (Or.inl rfl) (pe_gd G_divisor hr (by decide) rfl (pa_cons (pv 0) (pa_cons (pv 1) pa_nil))))
    (pss_cons (ps_if (pt_cmpR op_ltA (pv 1) pe_int (nomark _)) (pss_one (ps_set (i := 2) sc_ratio.nd rfl (Or.inl rfl) (pe_op op_subA pe_int (pv 2)))) pss_nil)
    (pss_one (ps_ret (pe_tup (pa_cons (pe_op op_divA (pv 0) (pv 2)) (pa_cons (pe_op op_divA (pv 1) (pv 2)) pa_nil)))))))), ?_⟩)
  dsimp only [L2.cxOf, L2.Cx.nox, L2.Cx.wish]
  rintro ds o hF X Q rfl hR
  rcases hF with ⟨t, b, rfl, h0, hs, rfl⟩ | ⟨x, y, tx, ty, rfl, hx, hy, hbad, rfl⟩
  · have g0 := Int.gcd_pos_of_ne_zero_right t h0
    have g1 := gcd_le_r (t := t) h0
    refine sq_ifL (b := false) ?_ (fun h => nomatch h) fun _ => ?_
    · have h := evt_or (evt_not (evt_b (ev_call (K := X.K) (F := F_is_whole) (E := E0) (ρ := entry [.int t, .int b] 1) (d := .bl true) (eva_cons (ev_var (i := 0) rfl) eva_nil) ⟨_, _, rfl, rfl, rfl⟩)))
        fun _ => evt_or (evt_not (evt_b (ev_call (K := X.K) (F := F_is_whole) (E := E0) (d := .bl true) (eva_cons (ev_var (i := 1) rfl) eva_nil) ⟨_, _, rfl, rfl, rfl⟩)))
          fun _ => evt_of (z_eqI (ev_var (i := 1) rfl) (ev_int (n := 0)))
      rw [decide_eq_false h0] at h
      exact h
    refine sq_set (ev_call (eva_cons (ev_var rfl) (eva_cons (ev_var rfl) eva_nil)) ⟨t, b, rfl, rfl⟩) ?_
    refine sw_cut [.st (.int t), .st (.int b), .st (.int (if b < 0 then 0 - (Int.gcd t b : Nat) else (Int.gcd t b : Nat)))] (fun N hN => ?_) ?_
    · refine sw_if (evt_of (z_lt (ev_var rfl) ev_int)) (fun h => ?_) fun h => ?_
      · rw [if_pos (of_decide_eq_true h)] at hN
        exact sw_set (z_sub ev_int (ev_var rfl)) hN
      · rw [if_neg (of_decide_eq_false h)] at hN
        exact hN
    have hc : ∀ x : Int, CDivG x (if b < 0 then 0 - (Int.gcd t b : Nat) else (Int.gcd t b : Nat)) := fun x => by
      refine ⟨?_, noPy ?_⟩
      · split <;> omega
      · split <;> omega
    exact sw_retO (ev_tup (eva_cons (z_div (ev_var rfl) (ev_var rfl) (hc _)) (eva_cons (z_div (ev_var rfl) (ev_var rfl) (hc _)) eva_nil))) hR
  · refine sq_ifL (b := true) ?_ (fun _ => sw_raiseN hR) (fun h => nomatch h)
    have w1 : Ev X.K (tCall (sp X.K F_is_whole) [] E0 (tCons (tVar 0) tNil)) (entry [x, y] 1) (.bl (isI x)) := ev_call (eva_cons (ev_var rfl) eva_nil) ⟨x, tx, rfl, hx, rfl⟩
    have w2 : Ev X.K (tCall (sp X.K F_is_whole) [] E0 (tCons (tVar 1) tNil)) (entry [x, y] 1) (.bl (isI y)) := ev_call (eva_cons (ev_var rfl) eva_nil) ⟨y, ty, rfl, hy, rfl⟩
    cases h1 : isI x with
    | false =>
      rw [h1] at w1
      exact evt_or (b := true) (evt_not (evt_b w1)) (fun h => nomatch h)
    | true =>
      rw [h1] at w1
      refine evt_or (evt_not (evt_b w1)) fun _ => ?_
      cases h2 : isI y with
      | false =>
        rw [h2] at w2
        exact evt_or (b := true) (evt_not (evt_b w2)) (fun h => nomatch h)
      | true =>
        rw [h2] at w2
        have h3 : y = .int 0 := by
          rcases hbad with h | h | h
          · rw [h1] at h; cases h
          · rw [h2] at h; cases h
          · exact h
        subst h3
        exact evt_or (b := true) (evt_not (evt_b w2)) fun _ => evt_of (z_eqs (d := .int 0) (e := .int 0) (ev_var rfl) ev_int rfl rfl rfl rfl)
abbrev s_level : Stmt := top 9
theorem sc_level : FnScope ["fractions", "bottom", "one"] ["fractions"] (defScope s_level) := ⟨rfl, rfl, rfl, by decide +kernel, rfl, by decide +kernel, by decide +kernel⟩
def F_level (ds : List D) (d : D) : Prop := ∃ fs : List (Int × Int), ds = [.lst (fs.map fr)] ∧ Good fs ∧ d = .tup [.lst ((topsOf fs).map .int), .int (LF fs)]
theorem F_level_len : ∀ ds d, F_level ds d → ds.length = 1 := by
  rintro _ _ ⟨a, rfl, _⟩
  rfl
theorem flat_frs {fs : List (Int × Int)} : ∀ x, x ∈ fs.map fr → flat x = true := fun x hx => by
  obtain ⟨f, _, rfl⟩ := List.mem_map.mp hx
  rfl
def topD (L : Int) : D → D
  | .tup [.int a, .int b] => .int (a * (L / b))
  | d => d
theorem frs_get {fs : List (Int × Int)} {i : Nat} {d : D} (h : (fs.map fr)[i]? = some d) : ∃ f, fs[i]? = some f ∧ d = fr f := by
  rw [List.getElem?_map] at h
  cases e : fs[i]? with
  | none => rw [e] at h; cases h
  | some f => rw [e] at h; cases h; exact ⟨f, rfl, rfl⟩
theorem top_map (L : Int) (fs : List (Int × Int)) : (fs.map fr).map (topD L) = (fs.map fun f => f.1 * (L / f.2)).map D.int := by
  rw [List.map_map, List.map_map]
  rfl
theorem div_le {a b : Int} (ha : 0 < a) (hb : 0 < b) : (a / b).natAbs ≤ a.natAbs := by
  have h1 : 0 ≤ a / b := Int.ediv_nonneg (by omega) (by omega)
  have h2 : a / b ≤ a := Int.ediv_le_self _ (by omega)
  omega

theorem ok_level {P : Program} {w : World} {K : PySem.W.Frag} {mg : Str → Option Value} {base : Heap} {f : Addr} {fd : FuncData} (Fn : Fun K "level" "level" s_level f fd) {C : Str → Addr} (T : ErrTab K mg C CL RS) (G_divisor : Gd P w K mg base "divisor" 1 ["one", "other"] F_divisor) :
    FnOk P w K mg base CX0 2 f fd ["fractions"] (spN K F_level) := by
  refine def_okN Fn sc_level F_level_len (n := 2) rfl (fun cdv A outer s H E hr => ⟨_, (pss_cons (ps_set (i := 1) sc_level.nd rfl (Or.inr rfl) pe_int)
    (pss_cons (ps_for PassesOwn.never rfl (pi_list (pv 0)) (pg_name (i := 2) sc_level.nd rfl (Or.inl rfl)) (pss_one (ps_set (i := 1) sc_level.nd rfl (Or.inr rfl) (pe_op op_divA (pe_op op_mulA (pv 1) (pe_ix ix_seq (pv 2) pe_int (fun _ _ => rfl))) (pe_gd G_divisor hr (by decide) rfl (pa_cons (pv 1) (pa_cons (pe_ix ix_seq (pv 2) pe_int (fun _ _ => rfl)) pa_nil)))))))
    (pss_one (ps_ret (pe_tup (pa_cons (pe_lc (own := [("one", 2)]) rfl sc_level.nd (pi_list (pv 0)) (blkOk_by (N := ["fractions", "bottom", "one"]) (sc := defScope s_level) (by decide +kernel)) (fun _ _ _ _ _ => (pg_name (i := 2) sc_level.nd rfl (Or.inl rfl))) (fun _ _ _ _ _ => pts_nil) (fun _ _ _ _ _ => (pe_op op_mulA (pe_ix (ix_seqB (K := K) rfl) (pv 2) pe_int (fun _ _ => rfl)) (pe_op op_divA (pv 1) (pe_ix (ix_seqB (K := K) rfl) (pv 2) pe_int (fun _ _ => rfl)))))) (pa_cons (pv 1) pa_nil))))))), ?_⟩)
  dsimp only [L2.cxOf, L2.Cx.nox, L2.Cx.wish]
  rintro _ _ ⟨fs, rfl, hg, rfl⟩ X Q rfl hR
  have src : ∀ {ρ : List Sl}, ρ[0]? = some (.bo (.lst (fs.map fr))) → EvI X.K (iList X.K (tVar 0)) ρ (fs.map fr) := fun h => (evi_listH (evh_var h) (.inl rfl)).hold flat_frs
  have sz : (fs.map fr).length ≤ sizeLine := by
    rw [List.length_map]
    exact Nat.le_trans hg.1 (by decide)
  refine sq_set (d := .int 1) ev_int ?_
  refine sq_for (src rfl) (fun i ρ1 => ∃ s, (∀ es, s ≠ .ow es) ∧ ρ1 = [.bo (.lst (fs.map fr)), .st (.int (LF (fs.take i))), s]) ⟨.no, (fun es z => nomatch z), rfl⟩ ?_ ?_
  · rintro τ' i d _ hd ⟨s, hs, rfl⟩
    obtain ⟨f, hf, rfl⟩ := frs_get hd
    have hm := hg.2 f (List.mem_of_getElem? hf)
    have b := (hg.take i).bound
    refine ⟨_, _, go_name, fun N hN => ?_⟩
    refine sw_set (d := .int (LF (fs.take (i + 1)))) ?_ (hN _ ⟨.st (fr f), (fun es z => nomatch z), rfl⟩)
    rw [show LF (fs.take (i + 1)) = lcmI (LF (fs.take i)) f.2 from LFb_take 1 hf]
    have g0 := Int.gcd_pos_of_ne_zero_left f.2 (a := LF (fs.take i)) (by omega)
    have g1 := gcd_le_r (t := LF (fs.take i)) (b := f.2) (by omega)
    exact z_divp (z_mul (ev_var rfl) (ev_ix (ev_var rfl) ev_int rfl) (mulW b.2 hm.2.2 (by decide))) (ev_call (F := F_divisor) (eva_cons (ev_var rfl) (eva_cons (ev_ix (ev_var rfl) ev_int rfl) eva_nil)) ⟨_, _, rfl, rfl⟩) (by omega) (noPy (Nat.lt_of_le_of_lt g1 (lt_pow hm.2.2 _ (by decide))))
  · rintro _ ⟨s, hs, rfl⟩
    rw [List.length_map, List.take_length]
    have b := hg.bound
    refine sw_ret (ev_tup (eva_cons (EvN.ev (ds := (topsOf fs).map .int) ?_) (eva_cons (ev_var rfl) eva_nil))) hR
    have e : (topsOf fs).map D.int = (fs.map fr).map (topD (LF fs)) := (top_map _ _).symm
    rw [e]
    refine evn_map (src rfl) (topD (LF fs)) sz ?_ ?_
    · intro j ds hj z
      rcases List.mem_singleton.mp hj with rfl
      cases z
      exact hs _ rfl
    · intro i d hd
      obtain ⟨f, hf, rfl⟩ := frs_get hd
      have hm := hg.2 f (List.mem_of_getElem? hf)
      exact ⟨_, _, go_name, fun j hj => hj, z_mul (ev_ix (ev_var rfl) ev_int rfl) (z_divp (ev_var rfl) (ev_ix (ev_var rfl) ev_int rfl) hm.1 (noPy (lt_pow hm.2.2 _ (by decide)))) (mulW hm.2.1 (Nat.lt_of_le_of_lt (div_le b.1 hm.1) b.2) (by decide))⟩
abbrev s_total : Stmt := top 10
theorem sc_total : FnScope ["fractions", "tops", "bottom"] ["fractions"] (defScope s_total) := ⟨rfl, rfl, rfl, by decide +kernel, rfl, by decide +kernel, by decide +kernel⟩
def F_total (ds : List D) (d : D) : Prop := ∃ fs : List (Int × Int), ds = [.lst (fs.map fr)] ∧ Good fs ∧ d = fr (ratioF (topsOf fs).sum (LF fs))
theorem F_total_len : ∀ ds d, F_total ds d → ds.length = 1 := by
  rintro _ _ ⟨a, rfl, _⟩
  rfl

theorem ok_total {P : Program} {w : World} {K : PySem.W.Frag} {mg : Str → Option Value} {base : Heap} {f : Addr} {fd : FuncData} (Fn : Fun K "total" "total" s_total f fd) {C : Str → Addr} (T : ErrTab K mg C CL RS) (m_sum : mg "sum" = none) (G_level : GdN P w K mg base "level" 2 ["fractions"] F_level) (G_ratio : GdX P w K mg base "ratio" 2 ["top", "bottom"] F_ratio) :
    FnOk P w K mg base CX0 3 f fd ["fractions"] (spN K F_total) := by
  refine def_okN Fn sc_total F_total_len (n := 2) rfl (fun cdv A outer s H E hr => ⟨_, (pss_cons (ps_asg (pe_gdN G_level hr (by decide) rfl (pa_cons (pv 0) pa_nil)) (pg_seq (by rfl) (pgs_cons (pg_name (i := 1) sc_total.nd rfl (Or.inl rfl)) (pgs_cons (pg_name (i := 2) sc_total.nd rfl (Or.inl rfl)) pgs_nil))))
    (pss_one (ps_ret (pe_gdX0 G_ratio hr (by decide) rfl (pa_cons (pe_callB (cr_sum rfl) (by rfl) m_sum (by decide +kernel) (pa_cons (pv 1) pa_nil)) (pa_cons (pv 2) pa_nil)))))), ?_⟩)
  dsimp only [L2.cxOf, L2.Cx.nox, L2.Cx.wish]
  rintro _ _ ⟨fs, rfl, hg, rfl⟩ X Q rfl hR
  have b := hg.bound
  refine sq_asg (z_call (F := F_level) (evl_bo (evh_var rfl) evl_nil) ⟨fs, rfl, hg, rfl⟩) (go_seqT rfl (gos_cons go_name (gos_cons go_name gos_nil))) ?_
  exact sw_ret (x_call (F := F_ratio) (eva_cons (z_sumL (evl_st (ev_var rfl) evl_nil) (.inl rfl)) (eva_cons (ev_var rfl) eva_nil)) (.inl ⟨_, _, rfl, by omega, lt_pow b.2 _ (by decide), rfl⟩)) hR
abbrev s_greatest : Stmt := top 11
theorem sc_greatest : FnScope ["fractions", "tops", "bottom", "top"] ["fractions"] (defScope s_greatest) := ⟨rfl, rfl, rfl, by decide +kernel, rfl, by decide +kernel, by decide +kernel⟩
def F_greatest (ds : List D) (d : D) : Prop := ∃ fs : List (Int × Int), ds = [.lst (fs.map fr)] ∧ Good fs ∧ (topsOf fs = [] ∧ d = .non ∨ ∃ m, m ∈ topsOf fs ∧ (∀ y, y ∈ topsOf fs → y ≤ m) ∧ d = fr (ratioF m (LF fs)))
theorem F_greatest_len : ∀ ds d, F_greatest ds d → ds.length = 1 := by
  rintro _ _ ⟨a, rfl, _⟩
  rfl

theorem ok_greatest {P : Program} {w : World} {K : PySem.W.Frag} {mg : Str → Option Value} {base : Heap} {f : Addr} {fd : FuncData} (Fn : Fun K "greatest" "greatest" s_greatest f fd) {C : Str → Addr} (T : ErrTab K mg C CL RS) (m_max : mg "max" = none) (G_level : GdN P w K mg base "level" 2 ["fractions"] F_level) (G_ratio : GdX P w K mg base "ratio" 2 ["top", "bottom"] F_ratio) :
    FnOk P w K mg base CX0 3 f fd ["fractions"] (spN K F_greatest) := by
  refine def_okN Fn sc_greatest F_greatest_len (n := 3) rfl (fun cdv A outer s H E hr => ⟨_, (pss_cons (ps_asg (pe_gdN G_level hr (by decide) rfl (pa_cons (pv 0) pa_nil)) (pg_seq (by rfl) (pgs_cons (pg_name (i := 1) sc_greatest.nd rfl (Or.inl rfl)) (pgs_cons (pg_name (i := 2) sc_greatest.nd rfl (Or.inl rfl)) pgs_nil))))
    (pss_cons (ps_set (i := 3) sc_greatest.nd rfl (Or.inl rfl) (pe_callBK (cr_maxDef rfl) (by rfl) m_max (by decide +kernel) (pa_cons (pv 1) pa_nil) (pk_cons pe_non pk_nil)))
    (pss_cons (ps_if (pt_cmpR op_isNA (pv 3) pe_non (nomark _)) (pss_one (ps_ret pe_non)) pss_nil)
    (pss_one (ps_ret (pe_gdX0 G_ratio hr (by decide) rfl (pa_cons (pv 3) (pa_cons (pv 2) pa_nil)))))))), ?_⟩)
  dsimp only [L2.cxOf, L2.Cx.nox, L2.Cx.wish]
  rintro _ _ ⟨fs, rfl, hg, hd⟩ X Q rfl hR
  have b := hg.bound
  refine sq_asg (z_call (F := F_level) (evl_bo (evh_var rfl) evl_nil) ⟨fs, rfl, hg, rfl⟩) (go_seqT rfl (gos_cons go_name (gos_cons go_name gos_nil))) ?_
  rcases hd with ⟨h0, rfl⟩ | ⟨m, hm, hb, rfl⟩
  · refine sq_set (z_maxD (f := .non) (ev_var rfl) (.inl ⟨h0, rfl⟩)) ?_
    exact sq_ifL (evt_of (z_isN (ev_var rfl) ev_non)) (fun _ => sw_ret ev_non hR) (fun h => nomatch h)
  · refine sq_set (z_maxD (f := .int m) (ev_var rfl) (.inr ⟨m, hm, hb, rfl⟩)) ?_
    refine sq_ifL (evt_of (z_isN (ev_var rfl) ev_non)) (fun h => nomatch h) fun _ => ?_
    exact sw_ret (x_call (F := F_ratio) (eva_cons (ev_var rfl) (eva_cons (ev_var rfl) eva_nil)) (.inl ⟨_, _, rfl, by omega, lt_pow b.2 _ (by decide), rfl⟩)) hR
abbrev s_least : Stmt := top 12
theorem sc_least : FnScope ["fractions", "tops", "bottom", "top"] ["fractions"] (defScope s_least) := ⟨rfl, rfl, rfl, by decide +kernel, rfl, by decide +kernel, by decide +kernel⟩
def F_least (ds : List D) (d : D) : Prop := ∃ fs : List (Int × Int), ds = [.lst (fs.map fr)] ∧ Good fs ∧ (topsOf fs = [] ∧ d = .non ∨ ∃ m, m ∈ topsOf fs ∧ (∀ y, y ∈ topsOf fs → m ≤ y) ∧ d = fr (ratioF m (LF fs)))
theorem F_least_len : ∀ ds d, F_least ds d → ds.length = 1 := by
  rintro _ _ ⟨a, rfl, _⟩
  rfl

theorem ok_least {P : Program} {w : World} {K : PySem.W.Frag} {mg : Str → Option Value} {base : Heap} {f : Addr} {fd : FuncData} (Fn : Fun K "least" "least" s_least f fd) {C : Str → Addr} (T : ErrTab K mg C CL RS) (m_min : mg "min" = none) (G_level : GdN P w K mg base "level" 2 ["fractions"] F_level) (G_ratio : GdX P w K mg base "ratio" 2 ["top", "bottom"] F_ratio) :
    FnOk P w K mg base CX0 3 f fd ["fractions"] (spN K F_least) := by
  refine def_okN Fn sc_least F_least_len (n := 3) rfl (fun cdv A outer s H E hr => ⟨_, (pss_cons (ps_asg (pe_gdN G_level hr (by decide) rfl (pa_cons (pv 0) pa_nil)) (pg_seq (by rfl) (pgs_cons (pg_name (i := 1) sc_least.nd rfl (Or.inl rfl)) (pgs_cons (pg_name (i := 2) sc_least.nd rfl (Or.inl rfl)) pgs_nil))))
    (pss_cons (ps_set (i := 3) sc_least.nd rfl (Or.inl rfl) (pe_callBK (cr_minDef rfl) (by rfl) m_min (by decide +kernel) (pa_cons (pv 1) pa_nil) (pk_cons pe_non pk_nil)))
    (pss_cons (ps_if (pt_cmpR op_isNA (pv 3) pe_non (nomark _)) (pss_one (ps_ret pe_non)) pss_nil)
    (pss_one (ps_ret (pe_gdX0 G_ratio hr (by decide) rfl (pa_cons (pv 3) (pa_cons (pv 2) pa_nil)))))))), ?_⟩)
  dsimp only [L2.cxOf, L2.Cx.nox, L2.Cx.wish]
  rintro _ _ ⟨fs, rfl, hg, hd⟩ X Q rfl hR
  have b := hg.bound
  refine sq_asg (z_call (F := F_level) (evl_bo (evh_var rfl) evl_nil) ⟨fs, rfl, hg, rfl⟩) (go_seqT rfl (gos_cons go_name (gos_cons go_name gos_nil))) ?_
  rcases hd with ⟨h0, rfl⟩ | ⟨m, hm, hb, rfl⟩
  · refine sq_set (z_minD (f := .non) (ev_var rfl) (.inl ⟨h0, rfl⟩)) ?_
    exact sq_ifL (evt_of (z_isN (ev_var rfl) ev_non)) (fun _ => sw_ret ev_non hR) (fun h => nomatch h)
  · refine sq_set (z_minD (f := .int m) (ev_var rfl) (.inr ⟨m, hm, hb, rfl⟩)) ?_
    refine sq_ifL (evt_of (z_isN (ev_var rfl) ev_non)) (fun h => nomatch h) fun _ => ?_
    exact sw_ret (x_call (F := F_ratio) (eva_cons (ev_var rfl) (eva_cons (ev_var rfl) eva_nil)) (.inl ⟨_, _, rfl, by omega, lt_pow b.2 _ (by decide), rfl⟩)) hR
abbrev s__law_cell : Stmt := top 14
theorem sc__law_cell : FnScope ["_law_script", "_law_k"] ["_law_script", "_law_k"] (defScope s__law_cell) := ⟨rfl, rfl, rfl, by decide +kernel, rfl, by decide +kernel, by decide +kernel⟩
def F__law_cell (ds : List D) (d : D) : Prop := ∃ (ns : List Int) (k : Nat), ds = [.rd (ns.map D.int), .int (k : Int)] ∧ ns.length ≤ 63 ∧ d = .int (cellOf ns k)
theorem F__law_cell_len : ∀ ds d, F__law_cell ds d → ds.length = 2 := by
  rintro _ _ ⟨a, b, rfl, _⟩
  rfl

theorem ok__law_cell {P : Program} {w : World} {K : PySem.W.Frag} {mg : Str → Option Value} {base : Heap} {f : Addr} {fd : FuncData} (Fn : Fun K "_law_cell" "_law_cell" s__law_cell f fd) {C : Str → Addr} (T : ErrTab K mg C CL RS) :
    FnOk P w K mg base CX0 1 f fd ["_law_script", "_law_k"] (sp K F__law_cell) := by
  refine def_ok Fn sc__law_cell F__law_cell_len (n := 0) rfl (fun cdv A outer s H E hr => ⟨_, (pss_one (ps_ret (pe_ix ix_seq (pe_op op_addA (pe_slice sl_list (pv 0) (po_some (pv 1)) (po_some (pe_op op_addA (pv 1) pe_int))) (pe_lst (pa_cons pe_int pa_nil))) pe_int (fun _ _ => rfl)))), ?_⟩)
  dsimp only [L2.cxOf, L2.Cx.nox, L2.Cx.wish]
  rintro _ _ ⟨ns, k, rfl, hl, rfl⟩ X Q rfl hR
  refine sw_ret (ev_ix (z_cat (ev_slL (ev_var rfl) (.inr rfl) (evo_some (ev_var rfl)) (evo_some (z_add (ev_var rfl) ev_int))) (ev_lst (eva_cons ev_int eva_nil)) ?_) ev_int ?_) hR
  · rw [cell_cut ns k hl, List.length_map, List.length_take]
    show _ + 1 ≤ _
    have : (2 : Nat) ≤ sizeLine := by decide
    omega
  · show atI _ _ = _
    rw [cell_cut ns k hl]
    exact cell_at ns k
abbrev s__law_whole : Stmt := top 15
theorem sc__law_whole : FnScope ["_law_found"] ["_law_found"] (defScope s__law_whole) := ⟨rfl, rfl, rfl, by decide +kernel, rfl, by decide +kernel, by decide +kernel⟩
def isWholeD : D → Bool
  | .int _ => true | _ => false
def F__law_whole (ds : List D) (d : D) : Prop := ∃ (x : D) (t : String), ds = [x] ∧ tyD x = some t ∧ d = .bl (isWholeD x)
theorem F__law_whole_len : ∀ ds d, F__law_whole ds d → ds.length = 1 := by
  rintro _ _ ⟨a, b, rfl, _⟩
  rfl
theorem whole_kit {x : D} {t : String} (h : tyD x = some t) : ∃ b c, kitB t "int" = some b ∧ kitB t "bool" = some c ∧ (b && !c) = isWholeD x := by
  cases x <;> cases h
  · exact ⟨false, false, by decide +kernel, by decide +kernel, rfl⟩
  · exact ⟨true, true, by decide +kernel, by decide +kernel, rfl⟩
  · exact ⟨true, false, by decide +kernel, by decide +kernel, rfl⟩
  · exact ⟨false, false, by decide +kernel, by decide +kernel, rfl⟩
  · exact ⟨false, false, by decide +kernel, by decide +kernel, rfl⟩
  · exact ⟨false, false, by decide +kernel, by decide +kernel, rfl⟩
  · exact ⟨false, false, by decide +kernel, by decide +kernel, rfl⟩

theorem ok__law_whole {P : Program} {w : World} {K : PySem.W.Frag} {mg : Str → Option Value} {base : Heap} {f : Addr} {fd : FuncData} (Fn : Fun K "_law_whole" "_law_whole" s__law_whole f fd) {C : Str → Addr} (T : ErrTab K mg C CL RS) (m_isinstance : mg "isinstance" = none) (m_bool : mg "bool" = none) (m_int : mg "int" = none) :
    FnOk P w K mg base CX0 1 f fd ["_law_found"] (sp K F__law_whole) := by
  refine def_ok Fn sc__law_whole F__law_whole_len (n := 0) rfl (fun cdv A outer s H E hr => ⟨_, (pss_one (ps_ret (pe_and (pe_callB call_isA (by rfl) m_isinstance (by decide +kernel) (pa_cons (pv 0) (pa_cons (pe_bltn (v := .ty "int") (u := .type "int") (by rfl) m_int (by decide +kernel) rfl) pa_nil))) (pe_one (pe_not (pe_callB call_isA (by rfl) m_isinstance (by decide +kernel) (pa_cons (pv 0) (pa_cons (pe_bltn (v := .ty "bool") (u := .type "bool") (by rfl) m_bool (by decide +kernel) rfl) pa_nil)))))))), ?_⟩)
  dsimp only [L2.cxOf, L2.Cx.nox, L2.Cx.wish]
  rintro _ _ ⟨x, t, rfl, ht, rfl⟩ X Q rfl hR
  obtain ⟨b, c, hb, hc, e⟩ := whole_kit ht
  refine sw_ret (ev_andV (z_isi (ev_var rfl) ht hb) fun _ => ev_notV (z_isi (ev_var rfl) ht hc)) ?_
  rw [e]
  exact hR
abbrev s__law_gcd : Stmt := top 16
theorem sc__law_gcd : FnScope ["_law_one", "_law_other", "_law_low", "_law_high"] ["_law_one", "_law_other"] (defScope s__law_gcd) := ⟨rfl, rfl, rfl, by decide +kernel, rfl, by decide +kernel, by decide +kernel⟩
def F__law_gcd (ds : List D) (d : D) : Prop := ∃ a b : Int, ds = [.int a, .int b] ∧ d = .int (Int.gcd a b)
theorem F__law_gcd_len : ∀ ds d, F__law_gcd ds d → ds.length = 2 := by
  rintro _ _ ⟨a, b, rfl, rfl⟩
  rfl

theorem ok__law_gcd {P : Program} {w : World} {K : PySem.W.Frag} {mg : Str → Option Value} {base : Heap} {f : Addr} {fd : FuncData} (Fn : Fun K "_law_gcd" "_law_gcd" s__law_gcd f fd) {C : Str → Addr} (T : ErrTab K mg C CL RS) (m_sorted : mg "sorted" = none) (m_abs : mg "abs" = none) :
    FnOk P w K mg base CX0 1 f fd ["_law_one", "_law_other"] (sp K F__law_gcd) := by
  refine def_ok Fn sc__law_gcd F__law_gcd_len (n := 2) rfl (fun cdv A outer s H E hr => ⟨_, (pss_cons (ps_asg (pe_callB cr_sorted (by rfl) m_sorted (by decide +kernel) (pa_cons (pe_lst (pa_cons (pe_callB call_absA (by rfl) m_abs (by decide +kernel) (pa_cons (pv 0) pa_nil)) (pa_cons (pe_callB call_absA (by rfl) m_abs (by decide +kernel) (pa_cons (pv 1) pa_nil)) pa_nil))) pa_nil)) (pg_seq (by rfl) (pgs_cons (pg_name (i := 2) sc__law_gcd.nd rfl (Or.inl rfl)) (pgs_cons (pg_name (i := 3) sc__law_gcd.nd rfl (Or.inl rfl)) pgs_nil))))
    (pss_cons (ps_while PassesOwn.never (pt_cmpR op_gtA (pv 2) pe_int (nomark _)) (pss_one (ps_par (by rfl) sc__law_gcd.nd (i := 2) (j := 3) rfl rfl (by decide) rfl rfl (pa_cons (pe_op op_modA (pv 3) (pv 2)) (pa_cons (pv 2) pa_nil)) (by rfl))))
    (pss_one (ps_ret (pv 3))))), ?_⟩)
  dsimp only [L2.cxOf, L2.Cx.nox, L2.Cx.wish]
  rintro _ _ ⟨a, b, rfl, rfl⟩ X Q rfl hR
  obtain ⟨hp, hs⟩ := min_max_perm a.natAbs b.natAbs
  refine sq_asg (z_sorted (ns := [(a.natAbs : Int), (b.natAbs : Int)]) (ev_lst (eva_cons (z_abs (ev_var rfl)) (eva_cons (z_abs (ev_var rfl)) eva_nil))) (by show 2 < 64; decide) hp hs) (go_seqL rfl (gos_cons go_name (gos_cons go_name gos_nil))) ?_
  refine sq_while (fun m ρ => ∃ lo hi : Nat, ρ = [.st (.int a), .st (.int b), .st (.int lo), .st (.int hi)] ∧ Nat.gcd lo hi = Int.gcd a b ∧ m = lo) (m := min a.natAbs b.natAbs) ⟨_, _, rfl, ?_, rfl⟩ ?_
  · rw [Int.gcd_eq_natAbs_gcd_natAbs]
    rcases Nat.le_total a.natAbs b.natAbs with h | h
    · rw [Nat.min_eq_left h, Nat.max_eq_right h]
    · rw [Nat.min_eq_right h, Nat.max_eq_left h, Nat.gcd_comm]
  rintro m ρ ⟨lo, hi, rfl, hg, rfl⟩
  refine ⟨_, by walk_at "et", fun hb N hN => ?_, fun hb => ?_⟩
  · have hb' : 0 < (m : Int) := of_decide_eq_true hb
    refine sw_par (eva_cons (z_modp (ev_var rfl) (ev_var rfl) hb') (eva_cons (ev_var rfl) eva_nil)) ?_
    refine hN (hi % m) _ (Nat.mod_lt _ (by omega)) ⟨hi % m, m, by rw [Int.natCast_emod]; rfl, ?_, rfl⟩
    rw [← hg, ← Nat.gcd_rec]
  · have hb' : ¬ 0 < (m : Int) := of_decide_eq_false hb
    have e : m = 0 := by omega
    subst e
    rw [Nat.gcd_zero_left] at hg
    refine sw_ret (by walk_at "ev") ?_
    rw [hg]
    exact hR
abbrev s__law_lowest : Stmt := top 17
theorem sc__law_lowest : FnScope ["_law_top", "_law_bottom", "_law_common"] ["_law_top", "_law_bottom"] (defScope s__law_lowest) := ⟨rfl, rfl, rfl, by decide +kernel, rfl, by decide +kernel, by decide +kernel⟩
def F__law_lowest (ds : List D) (d : D) : Prop := ∃ t b : Int, ds = [.int t, .int b] ∧ 0 < b ∧ b.natAbs < 2 ^ 8999 ∧ d = fr (lowest t b)
theorem F__law_lowest_len : ∀ ds d, F__law_lowest ds d → ds.length = 2 := by
  rintro _ _ ⟨a, b, rfl, _⟩
  rfl

theorem ok__law_lowest {P : Program} {w : World} {K : PySem.W.Frag} {mg : Str → Option Value} {base : Heap} {f : Addr} {fd : FuncData} (Fn : Fun K "_law_lowest" "_law_lowest" s__law_lowest f fd) {C : Str → Addr} (T : ErrTab K mg C CL RS) (G__law_gcd : Gd P w K mg base "_law_gcd" 1 ["_law_one", "_law_other"] F__law_gcd) :
    FnOk P w K mg base CX0 2 f fd ["_law_top", "_law_bottom"] (sp K F__law_lowest) := by
  refine def_ok Fn sc__law_lowest F__law_lowest_len (n := 1) rfl (fun cdv A outer s H E hr => ⟨_, (pss_cons (ps_set (i := 2) sc__law_lowest.nd rfl (Or.inl rfl) (pe_gd G__law_gcd hr (by decide) rfl (pa_cons (pv 0) (pa_cons (pv 1) pa_nil))))
    (pss_one (ps_ret (pe_tup (pa_cons (pe_op op_divA (pv 0) (pv 2)) (pa_cons (pe_op op_divA (pv 1) (pv 2)) pa_nil)))))), ?_⟩)
  dsimp only [L2.cxOf, L2.Cx.nox, L2.Cx.wish]
  rintro _ _ ⟨t, b, rfl, h0, hs, rfl⟩ X Q rfl hR
  have g0 := Int.gcd_pos_of_ne_zero_right t (show b ≠ 0 by omega)
  have g1 := gcd_le_r (t := t) (show b ≠ 0 by omega)
  have g2 : ∀ x : Int, Builtin.divisionGoesByPylong x ((Int.gcd t b : Nat) : Int) = false := fun x => noPy (by omega)
  refine sq_set (ev_call (eva_cons (ev_var rfl) (eva_cons (ev_var rfl) eva_nil)) ⟨t, b, rfl, rfl⟩) ?_
  exact sw_ret (ev_tup (eva_cons (z_divp (ev_var rfl) (ev_var rfl) (by omega) (g2 _)) (eva_cons (z_divp (ev_var rfl) (ev_var rfl) (by omega) (g2 _)) eva_nil))) hR
abbrev s__law_fraction : Stmt := top 18
theorem sc__law_fraction : FnScope ["_law_found"] ["_law_found"] (defScope s__law_fraction) := ⟨rfl, rfl, rfl, by decide +kernel, rfl, by decide +kernel, by decide +kernel⟩
def F__law_fraction (ds : List D) (d : D) : Prop := ∃ t b : Int, ds = [.tup [.int t, .int b]] ∧ d = .bl (decide (0 < b) && decide (Int.gcd t b = 1))
theorem F__law_fraction_len : ∀ ds d, F__law_fraction ds d → ds.length = 1 := by
  rintro _ _ ⟨a, b, rfl, _⟩
  rfl
theorem dec_gcd1 (t b : Int) : decide (((Int.gcd t b : Nat) : Int) = 1) = decide (Int.gcd t b = 1) := by
  rw [Bool.eq_iff_iff]
  simp only [decide_eq_true_eq]
  omega

theorem ok__law_fraction {P : Program} {w : World} {K : PySem.W.Frag} {mg : Str → Option Value} {base : Heap} {f : Addr} {fd : FuncData} (Fn : Fun K "_law_fraction" "_law_fraction" s__law_fraction f fd) {C : Str → Addr} (T : ErrTab K mg C CL RS) (m_len : mg "len" = none) (m_isinstance : mg "isinstance" = none) (m_tuple : mg "tuple" = none) (G__law_whole : Gd P w K mg base "_law_whole" 1 ["_law_found"] F__law_whole) (G__law_gcd : Gd P w K mg base "_law_gcd" 1 ["_law_one", "_law_other"] F__law_gcd) :
    FnOk P w K mg base CX0 2 f fd ["_law_found"] (sp K F__law_fraction) := by
  refine def_ok Fn sc__law_fraction F__law_fraction_len (n := 0) rfl (fun cdv A outer s H E hr => ⟨_, (pss_cons (ps_if (PW.pt (pw_or (pt_not (pt_val (pe_callB call_isA (by rfl) m_isinstance (by decide +kernel) (pa_cons (pv 0) (pa_cons (pe_bltn (v := .ty "tuple") (u := .type "tuple") (by rfl) m_tuple (by decide +kernel) rfl) pa_nil))))) (pw_or1 (pt_cmpR (op_neA hr.units) (pe_callB call_lenA (by rfl) m_len (by decide +kernel) (pa_cons (pv 0) pa_nil)) pe_int (nomark _))))) (pss_one (ps_ret pe_bl)) pss_nil)
    (pss_cons (ps_if (PW.pt (pw_or (pt_not (pt_val (pe_gd G__law_whole hr (by decide) rfl (pa_cons (pe_ix ix_seq (pv 0) pe_int (fun _ _ => rfl)) pa_nil)))) (pw_or1 (pt_not (pt_val (pe_gd G__law_whole hr (by decide) rfl (pa_cons (pe_ix ix_seq (pv 0) pe_int (fun _ _ => rfl)) pa_nil))))))) (pss_one (ps_ret pe_bl)) pss_nil)
    (pss_one (ps_ret (pe_and (pe_cmpR op_gtA (pe_ix ix_seq (pv 0) pe_int (fun _ _ => rfl)) pe_int (nomark _)) (pe_one (pe_cmpR (op_eqA hr.units) (pe_gd G__law_gcd hr (by decide) rfl (pa_cons (pe_ix ix_seq (pv 0) pe_int (fun _ _ => rfl)) (pa_cons (pe_ix ix_seq (pv 0) pe_int (fun _ _ => rfl)) pa_nil))) pe_int (nomark _)))))))), ?_⟩)
  dsimp only [L2.cxOf, L2.Cx.nox, L2.Cx.wish]
  rintro _ _ ⟨t, b, rfl, rfl⟩ X Q rfl hR
  refine sq_ifL (evt_or (evt_not (evt_b (z_isi (ev_var rfl) rfl (b := true) (by decide +kernel)))) fun _ => evt_of (z_neI (z_len (ev_var rfl) rfl) ev_int)) (fun h => nomatch h) fun _ => ?_
  refine sq_ifL (evt_or (evt_not (evt_b (ev_call (F := F__law_whole) (d := .bl true) (eva_cons (ev_ix (ev_var rfl) ev_int rfl) eva_nil) ⟨_, _, rfl, rfl, rfl⟩))) fun _ => evt_not (evt_b (ev_call (F := F__law_whole) (d := .bl true) (eva_cons (ev_ix (ev_var rfl) ev_int rfl) eva_nil) ⟨_, _, rfl, rfl, rfl⟩))) (fun h => nomatch h) fun _ => ?_
  refine sw_ret (ev_andV (z_gt (ev_ix (ev_var rfl) ev_int rfl) ev_int) fun _ => z_eqI (ev_call (F := F__law_gcd) (eva_cons (ev_ix (ev_var rfl) ev_int rfl) (eva_cons (ev_ix (ev_var rfl) ev_int rfl) eva_nil)) ⟨t, b, rfl, rfl⟩) ev_int) ?_
  rw [dec_gcd1]
  exact hR
abbrev s__law_drawn : Stmt := top 19
theorem sc__law_drawn : FnScope ["_law_script", "_law_mode", "_law_far", "_law_some", "_law_cell_here", "_law_top", "_law_one"] ["_law_script"] (defScope s__law_drawn) := ⟨rfl, rfl, rfl, by decide +kernel, rfl, by decide +kernel, by decide +kernel⟩
def drMode (ns : List Int) : Int := cellOf ns 0
def drFar (ns : List Int) : Int := (([12, 10 ^ 6, 12] : List Int)[(drMode ns % 3).toNat]?).getD 12
def drOne (far c : Int) : Int × Int := lowest (c % (2 * 10 ^ 9 - 1) - 10 ^ 9 + 1) (1 + c * 48271 % 2147483647 % far)
def drBase (ns : List Int) : List (Int × Int) := ((ns.drop 1).take 40).map (drOne (drFar ns))
def drWide (ns : List Int) : Int × Int := lowest ((ns[1]?).getD 0 % (2 * 10 ^ 30 - 1) - 10 ^ 30 + 1) (1 + (ns.getLast?).getD 0 % (10 ^ 30 - 1))
def drPut (ns : List Int) : List (Int × Int) := if 0 < (drBase ns).length ∧ drMode ns / 3 % 5 = 1 then (drBase ns).set (drMode ns / 15 % ((drBase ns).length : Int)).toNat (drWide ns) else drBase ns
def drawnFs (ns : List Int) : List (Int × Int) := if 0 < (drPut ns).length ∧ drMode ns / 3 % 5 = 2 then (drPut ns).map fun _ => ((drPut ns)[0]?).getD (0, 1) else drPut ns
def F__law_drawn (ds : List D) (d : D) : Prop := ∃ ns : List Int, ds = [.rd (ns.map D.int)] ∧ ns.length ≤ 63 ∧ d = .lst ((drawnFs ns).map fr)
theorem F__law_drawn_len : ∀ ds d, F__law_drawn ds d → ds.length = 1 := by
  rintro _ _ ⟨a, rfl, _⟩
  rfl
def Fit (f : Int × Int) : Prop := 0 < f.2 ∧ f.1.natAbs < 2 ^ 100 ∧ f.2.natAbs < 2 ^ 100
theorem lowest_fit {t b : Int} (hb : 0 < b) (h1 : t.natAbs < 2 ^ 100) (h2 : b.natAbs < 2 ^ 100) : Fit (lowest t b) := by
  have l := lowest_le t b
  exact ⟨(lowest_fr (t := t) hb).1, Nat.lt_of_le_of_lt l.1 h1, Nat.lt_of_le_of_lt l.2 h2⟩
theorem drFar_or (ns : List Int) : drFar ns = 12 ∨ drFar ns = 10 ^ 6 := by
  unfold drFar
  have h0 : 0 ≤ drMode ns % 3 := Int.emod_nonneg _ (by omega)
  have h1 : drMode ns % 3 < 3 := Int.emod_lt_of_pos _ (by omega)
  generalize drMode ns % 3 = k at *
  have hk : k = 0 ∨ k = 1 ∨ k = 2 := by omega
  rcases hk with rfl | rfl | rfl
  · exact .inl rfl
  · exact .inr rfl
  · exact .inl rfl
theorem drBot (far c : Int) (h : far = 12 ∨ far = 10 ^ 6) : 0 < 1 + c * 48271 % 2147483647 % far ∧ (1 + c * 48271 % 2147483647 % far).natAbs < 2 ^ 100 := by
  have e : (2 : Nat) ^ 100 = 1267650600228229401496703205376 := by decide
  have e6 : (10 : Int) ^ 6 = 1000000 := by decide
  rw [e]
  rcases h with rfl | rfl
  · omega
  · rw [e6]
    omega
theorem drOne_fit (far c : Int) (h : far = 12 ∨ far = 10 ^ 6) : Fit (drOne far c) := by
  have b := drBot far c h
  have e : (2 : Nat) ^ 100 = 1267650600228229401496703205376 := by decide
  refine lowest_fit b.1 ?_ b.2
  rw [e]
  omega
theorem wide_top (c : Int) : (c % (2 * 10 ^ 30 - 1) - 10 ^ 30 + 1).natAbs < 2 ^ 100 := by
  have e : (2 : Nat) ^ 100 = 1267650600228229401496703205376 := by decide
  have e6 : (10 : Int) ^ 30 = 1000000000000000000000000000000 := by decide
  rw [e, e6]
  omega
theorem wide_bot (c : Int) : 0 < 1 + c % (10 ^ 30 - 1) ∧ (1 + c % (10 ^ 30 - 1)).natAbs < 2 ^ 100 := by
  have e : (2 : Nat) ^ 100 = 1267650600228229401496703205376 := by decide
  have e6 : (10 : Int) ^ 30 = 1000000000000000000000000000000 := by decide
  rw [e, e6]
  omega
theorem drBase_fit (ns : List Int) : (drBase ns).length ≤ 40 ∧ ∀ f, f ∈ drBase ns → Fit f := by
  refine ⟨?_, fun f hf => ?_⟩
  · unfold drBase
    rw [List.length_map, List.length_take]
    omega
  · obtain ⟨c, _, rfl⟩ := List.mem_map.mp hf
    exact drOne_fit _ c (drFar_or ns)
theorem drPut_fit (ns : List Int) : (drPut ns).length ≤ 40 ∧ ∀ f, f ∈ drPut ns → Fit f := by
  have b := drBase_fit ns
  unfold drPut
  split
  · refine ⟨by rw [List.length_set]; exact b.1, fun f hf => ?_⟩
    rcases List.mem_or_eq_of_mem_set hf with hf | rfl
    · exact b.2 f hf
    · exact lowest_fit (wide_bot _).1 (wide_top _) (wide_bot _).2
  · exact b
theorem drawn_fit (ns : List Int) : (drawnFs ns).length ≤ 40 ∧ ∀ f, f ∈ drawnFs ns → Fit f := by
  have b := drPut_fit ns
  unfold drawnFs
  split
  · rename_i h
    refine ⟨by rw [List.length_map]; exact b.1, fun f hf => ?_⟩
    obtain ⟨c, _, rfl⟩ := List.mem_map.mp hf
    rw [List.getElem?_eq_getElem h.1]
    exact b.2 _ (List.getElem_mem h.1)
  · exact b
theorem drawn_good (ns : List Int) : Good (drawnFs ns) := ⟨Nat.le_trans (drawn_fit ns).1 (by decide), (drawn_fit ns).2⟩
theorem far_menu (ns : List Int) : atI ([D.int 12, D.int (10 ^ 6), D.int 12]) (drMode ns % 3) = some (D.int (drFar ns)) := by
  unfold drFar
  have h0 : 0 ≤ drMode ns % 3 := Int.emod_nonneg _ (by omega)
  have h1 : drMode ns % 3 < 3 := Int.emod_lt_of_pos _ (by omega)
  generalize drMode ns % 3 = k at *
  have hk : k = 0 ∨ k = 1 ∨ k = 2 := by omega
  rcases hk with rfl | rfl | rfl <;> rfl
theorem ints_get {ns : List Int} {i : Nat} {d : D} (h : (ns.map D.int)[i]? = some d) : ∃ n, ns[i]? = some n ∧ d = .int n := by
  rw [List.getElem?_map] at h
  cases e : ns[i]? with
  | none => rw [e] at h; cases h
  | some f => rw [e] at h; cases h; exact ⟨f, rfl, rfl⟩
theorem last_at {ns : List Int} (h : ns ≠ []) : atI (ns.map D.int) (-1) = some (D.int ((ns.getLast?).getD 0)) := by
  obtain ⟨r, x, rfl⟩ : ∃ r x, ns = r ++ [x] := ⟨ns.dropLast, ns.getLast h, (List.dropLast_concat_getLast h).symm⟩
  rw [List.getLast?_concat, List.map_append]
  exact atI_last _ _
theorem cut40 (ns : List Int) : cutD (ns.map D.int) (some 1) (some 41) = (((ns.drop 1).take 40).map D.int) := by
  unfold cutD
  have e1 : (1 : Int) = ((1 : Nat) : Int) := rfl
  have e2 : (41 : Int) = ((41 : Nat) : Int) := rfl
  rw [e1, e2, HT.sIx_nat, HT.sIx_nat, List.length_map, ← List.map_drop, ← List.map_take]
  congr 1
  by_cases h : 1 ≤ ns.length
  · rw [show min 1 ns.length = 1 by omega]
    by_cases h2 : 41 ≤ ns.length
    · rw [show min 41 ns.length - 1 = 40 by omega]
    · rw [List.take_of_length_le (by rw [List.length_drop]; omega), List.take_of_length_le (by rw [List.length_drop]; omega)]
  · have : ns = [] := List.eq_nil_of_length_eq_zero (by omega)
    subst this
    rfl
theorem put_ix {m : Int} {n : Nat} (h : 0 < n) : ixN n (m % (n : Int)) = some (m % (n : Int)).toNat := by
  have h0 : 0 ≤ m % (n : Int) := Int.emod_nonneg _ (by omega)
  have h1 : m % (n : Int) < n := Int.emod_lt_of_pos _ (by omega)
  unfold ixN
  rw [if_pos h0, if_pos (by omega)]
theorem map_set_fr {fs : List (Int × Int)} {i : Nat} {f : Int × Int} : (fs.set i f).map fr = (fs.map fr).set i (fr f) := List.map_set ..

theorem ok__law_drawn {P : Program} {w : World} {K : PySem.W.Frag} {mg : Str → Option Value} {base : Heap} {f : Addr} {fd : FuncData} (Fn : Fun K "_law_drawn" "_law_drawn" s__law_drawn f fd) {C : Str → Addr} (T : ErrTab K mg C CL RS) (m_len : mg "len" = none) (G__law_cell : Gd P w K mg base "_law_cell" 1 ["_law_script", "_law_k"] F__law_cell) (G__law_lowest : Gd P w K mg base "_law_lowest" 2 ["_law_top", "_law_bottom"] F__law_lowest) :
    FnOk P w K mg base CX0 3 f fd ["_law_script"] (sp K F__law_drawn) := by
  refine def_ok Fn sc__law_drawn F__law_drawn_len (n := 6) rfl (fun cdv A outer s H E hr => ⟨_, (pss_cons (ps_set (i := 1) sc__law_drawn.nd rfl (Or.inl rfl) (pe_gd G__law_cell hr (by decide) rfl (pa_cons (pv 0) (pa_cons pe_int pa_nil))))
    (pss_cons (ps_set (i := 2) sc__law_drawn.nd rfl (Or.inl rfl) (pe_ix ix_seq (pe_lst (pa_cons pe_int (pa_cons (pe_op op_powA pe_int pe_int) (pa_cons pe_int pa_nil)))) (pe_op op_modA (pv 1) pe_int) (fun _ _ => rfl)))
    (pss_cons (ps_set (i := 3) sc__law_drawn.nd rfl (Or.inr rfl) (pe_lst pa_nil))
    (pss_cons (ps_for PassesOwn.never rfl (pi_list (pe_slice sl_list (pv 0) (po_some pe_int) (po_some pe_int))) (pg_name (i := 4) sc__law_drawn.nd rfl (Or.inl rfl)) (pss_one (ps_expr (pe_bm PySem.F.plainAttrs_list PySem.F.slot_list_append PySem.F.type_list_append mt_append (pv 3) (pa_cons (pe_gd G__law_lowest hr (by decide) rfl (pa_cons (pe_op op_addA (pe_op op_subA (pe_op op_modA (pv 4) (pe_op op_subA (pe_op op_mulA pe_int (pe_op op_powA pe_int pe_int)) pe_int)) (pe_op op_powA pe_int pe_int)) pe_int) (pa_cons (pe_op op_addA pe_int (pe_op op_modA (pe_op op_modA (pe_op op_mulA (pv 4) pe_int) pe_int) (pv 2))) pa_nil))) pa_nil)))))
    (pss_cons (ps_if (PW.pt (pw_and (pt_cmpR op_gtA (pe_callB call_lenA (by rfl) m_len (by decide +kernel) (pa_cons (pv 3) pa_nil)) pe_int (nomark _)) (pw_and1 (pt_cmpR (op_eqA hr.units) (pe_op op_modA (pe_op op_divA (pv 1) pe_int) pe_int) pe_int (nomark _))))) (pss_cons (ps_set (i := 5) sc__law_drawn.nd rfl (Or.inl rfl) (pe_op op_addA (pe_op op_subA (pe_op op_modA (pe_ix ix_seq (pv 0) pe_int (fun _ _ => rfl)) (pe_op op_subA (pe_op op_mulA pe_int (pe_op op_powA pe_int pe_int)) pe_int)) (pe_op op_powA pe_int pe_int)) pe_int))
    (pss_one (ps_asg (pe_gd G__law_lowest hr (by decide) rfl (pa_cons (pv 5) (pa_cons (pe_op op_addA pe_int (pe_op op_modA (pe_ix ix_seq (pv 0) (pe_un un_neg pe_int) (fun _ _ => rfl)) (pe_op op_subA (pe_op op_powA pe_int pe_int) pe_int))) pa_nil))) (pg_sub (pv 3) (pe_op op_modA (pe_op op_divA (pv 1) pe_int) (pe_callB call_lenA (by rfl) m_len (by decide +kernel) (pa_cons (pv 3) pa_nil))) set_list)))) pss_nil)
    (pss_cons (ps_if (PW.pt (pw_and (pt_cmpR op_gtA (pe_callB call_lenA (by rfl) m_len (by decide +kernel) (pa_cons (pv 3) pa_nil)) pe_int (nomark _)) (pw_and1 (pt_cmpR (op_eqA hr.units) (pe_op op_modA (pe_op op_divA (pv 1) pe_int) pe_int) pe_int (nomark _))))) (pss_one (ps_set (i := 3) sc__law_drawn.nd rfl (Or.inr rfl) (pe_lc (own := [("_law_one", 6)]) rfl sc__law_drawn.nd (pi_list (pv 3)) (blkOk_by (N := ["_law_script", "_law_mode", "_law_far", "_law_some", "_law_cell_here", "_law_top", "_law_one"]) (sc := defScope s__law_drawn) (by decide +kernel)) (fun _ _ _ _ _ => (pg_name (i := 6) sc__law_drawn.nd rfl (Or.inl rfl))) (fun _ _ _ _ _ => pts_nil) (fun _ _ _ _ _ => (pe_ix (ix_seqB (K := K) rfl) (pv 3) pe_int (fun _ _ => rfl)))))) pss_nil)
    (pss_one (ps_ret (pv 3))))))))), ?_⟩)
  dsimp only [L2.cxOf, L2.Cx.nox, L2.Cx.wish]
  rintro _ _ ⟨ns, rfl, hl, rfl⟩ X Q rfl hR
  have c : ∀ {ρ : List Sl} (k : Nat), ρ[0]? = some (.st (.rd (ns.map D.int))) → Ev X.K (tCall (sp X.K F__law_cell) [] E0 (tCons (tVar 0) (tCons (tC (.int (k : Int))) tNil))) ρ (.int (cellOf ns k)) := fun k h1 => ev_call (eva_cons (ev_var h1) (eva_cons ev_int eva_nil)) ⟨ns, k, rfl, hl, rfl⟩
  have far := drFar_or ns
  have farN : (drFar ns) ≠ 0 ∧ 0 < drFar ns := by rcases far with h | h <;> rw [h] <;> decide
  have base := drBase_fit ns
  have cut : (((ns.map D.int).drop 1).take 40) = (((ns.drop 1).take 40).map D.int) := by rw [List.map_take, List.map_drop]
  refine sq_set (d := .int (drMode ns)) (c 0 rfl) ?_
  refine sq_set (d := .int (drFar ns)) (ev_ix (ev_lst (eva_cons ev_int (eva_cons (z_pow (c := 10 ^ 6) ev_int ev_int ⟨by decide, by decide, by decide⟩ rfl) (eva_cons ev_int eva_nil)))) (z_modp (ev_var rfl) ev_int (by decide)) (far_menu ns)) ?_
  refine sq_own (evn_lst eva_nil) ?_
  refine sq_for (ds := ((ns.drop 1).take 40).map D.int) (evi_list (ev_slL (ev_var rfl) (.inr rfl) (evo_some ev_int) (evo_some ev_int)) ?_) (fun i ρ1 => ∃ s, ρ1 = [.st (.rd (ns.map D.int)), .st (.int (drMode ns)), .st (.int (drFar ns)), .ow (((drBase ns).take i).map fr), s, .no, .no]) ⟨.no, rfl⟩ ?_ ?_
  · left; exact congrArg D.lst (cut40 ns)
  · rintro τ' i d _ hd ⟨s, rfl⟩
    obtain ⟨n, hn, rfl⟩ := ints_get hd
    refine ⟨_, _, go_name, fun N hN => ?_⟩
    have hb : (drBase ns)[i]? = some (drOne (drFar ns) n) := by
      unfold drBase
      rw [List.getElem?_map, hn]
      rfl
    have bt := drBot (drFar ns) n far
    have e9 : ((drBase ns).take (i + 1)).map fr = ((drBase ns).take i).map fr ++ [fr (drOne (drFar ns) n)] := by
      rw [List.take_succ, hb, List.map_append]
      rfl
    refine sw_app (d := fr (drOne (drFar ns) n)) rfl (ev_call (F := F__law_lowest) (eva_cons (z_add (z_sub (z_modp (ev_var rfl) (z_sub (z_mul ev_int (z_pow (c := 10 ^ 9) ev_int ev_int ⟨by decide, by decide, by decide⟩ rfl) (mulW (a := 10) (b := 110) (by decide) (by decide) (by decide))) ev_int) (by decide)) (z_pow (c := 10 ^ 9) ev_int ev_int ⟨by decide, by decide, by decide⟩ rfl)) ev_int)
      (eva_cons (z_add ev_int (z_modp (z_modp (z_mulS (ev_var rfl) ev_int (by decide)) ev_int (by decide)) (ev_var rfl) farN.2)) eva_nil)) ⟨_, _, rfl, bt.1, lt_pow bt.2 _ (by decide), rfl⟩) ?_ (hN _ ⟨.st (.int n), ?_⟩)
    · rw [List.length_map, List.length_take]
      have : (45 : Nat) < sizeLine := by decide
      omega
    · rw [e9]
      rfl
  rintro _ ⟨s, rfl⟩
  have el : (((ns.drop 1).take 40).map D.int).length = (drBase ns).length := by
    unfold drBase
    rw [List.length_map, List.length_map]
  rw [el, List.take_length]
  have put := drPut_fit ns
  refine sw_cut [.st (.rd (ns.map D.int)), .st (.int (drMode ns)), .st (.int (drFar ns)), .ow ((drPut ns).map fr), .no, .no, .no] (fun N hN => ?_) ?_
  · have t1 := evt_and (K := X.K) (ρ := [.st (.rd (ns.map D.int)), .st (.int (drMode ns)), .st (.int (drFar ns)), .ow ((drBase ns).map fr), s, .no, .no]) (evt_of (z_gt (ev_lenO (i := 3) rfl) (ev_int (n := 0)))) fun _ => evt_of (z_eqI (z_modp (z_divs (ev_var (i := 1) rfl) (ev_int (n := 3)) (by decide) (by decide)) (ev_int (n := 5)) (by decide)) (ev_int (n := 1)))
    refine sw_if t1 (fun h => ?_) fun h => ?_
    · rw [Bool.and_eq_true] at h
      have h1 : 0 < (((drBase ns).map fr).length : Int) := of_decide_eq_true h.1
      have h2 : drMode ns / 3 % 5 = 1 := of_decide_eq_true h.2
      rw [List.length_map] at h1
      have h3 : 0 < (drBase ns).length := by omega
      have hn2 : 2 ≤ ns.length := by
        have e : (drBase ns).length = ((ns.drop 1).take 40).length := List.length_map ..
        rw [e, List.length_take, List.length_drop] at h3
        omega
      have e1 : ns[1]? = some ((ns[1]?).getD 0) := by rw [List.getElem?_eq_getElem (by omega)]; rfl
      have wb := wide_bot ((ns.getLast?).getD 0)
      refine sq_set (z_add (z_sub (z_modp (ev_ix (f := .int ((ns[1]?).getD 0)) (ev_var rfl) (ev_int (n := 1)) ?_) (z_sub (z_mul ev_int (z_pow (c := 10 ^ 30) ev_int ev_int ⟨by decide, by decide, by decide⟩ rfl) (mulW (a := 10) (b := 110) (by decide) (by decide) (by decide))) ev_int) (by decide)) (z_pow (c := 10 ^ 30) ev_int ev_int ⟨by decide, by decide, by decide⟩ rfl)) ev_int) ?_
      · exact atI_nat (j := 1) (by rw [List.getElem?_map, e1]; rfl)
      refine sw_put (ds := (drBase ns).map fr) (j := (drMode ns / 15 % ((drBase ns).length : Int)).toNat) (d := fr (drWide ns)) rfl
        (ev_call (F := F__law_lowest) (eva_cons (ev_var rfl) (eva_cons (z_add ev_int (z_modp (ev_ix (ev_var rfl) (z_neg ev_int) (last_at (by intro z; rw [z] at hn2; exact absurd hn2 (by decide)))) (z_sub (z_pow (c := 10 ^ 30) ev_int ev_int ⟨by decide, by decide, by decide⟩ rfl) ev_int) (by decide))) eva_nil)) ⟨_, _, rfl, wb.1, lt_pow wb.2 _ (by decide), rfl⟩)
        (z_modp (z_divs (ev_var rfl) ev_int (by decide) (by decide)) (ev_lenO rfl) (by rw [List.length_map]; omega)) ?_ ?_
      · rw [List.length_map]
        exact put_ix h3
      · have e : drPut ns = (drBase ns).set (drMode ns / 15 % ((drBase ns).length : Int)).toNat (drWide ns) := by
          unfold drPut
          rw [if_pos ⟨h3, h2⟩]
        rw [e, map_set_fr] at hN
        exact nx_drop (i := 4) (nx_drop (i := 5) hN)
    · have e : drPut ns = drBase ns := by
        unfold drPut
        refine if_neg fun z => ?_
        rw [decide_eq_true (show (0 : Int) < (((drBase ns).map fr).length : Int) by rw [List.length_map]; omega), decide_eq_true z.2] at h
        cases h
      rw [e] at hN
      exact nx_drop (i := 4) hN
  have t2 := evt_and (K := X.K) (ρ := [.st (.rd (ns.map D.int)), .st (.int (drMode ns)), .st (.int (drFar ns)), .ow ((drPut ns).map fr), .no, .no, .no]) (evt_of (z_gt (ev_lenO (i := 3) rfl) (ev_int (n := 0)))) fun _ => evt_of (z_eqI (z_modp (z_divs (ev_var (i := 1) rfl) (ev_int (n := 3)) (by decide) (by decide)) (ev_int (n := 5)) (by decide)) (ev_int (n := 2)))
  refine sq_if t2 (fun h => ?_) fun h => ?_
  · rw [Bool.and_eq_true] at h
    have h1 : 0 < (((drPut ns).map fr).length : Int) := of_decide_eq_true h.1
    have h2 : drMode ns / 3 % 5 = 2 := of_decide_eq_true h.2
    rw [List.length_map] at h1
    have h3 : 0 < (drPut ns).length := by omega
    have e : drawnFs ns = (drPut ns).map fun _ => ((drPut ns)[0]?).getD (0, 1) := by
      unfold drawnFs
      rw [if_pos ⟨h3, h2⟩]
    rw [e] at hR
    have e0 : (drPut ns)[0]? = some (((drPut ns)[0]?).getD (0, 1)) := by rw [List.getElem?_eq_getElem h3]; rfl
    refine nx_freeze (i := 3) rfl ?_
    refine sw_set (d := .lst (((drPut ns).map fun _ => ((drPut ns)[0]?).getD (0, 1)).map fr)) ?_ (sw_ret (ev_var rfl) hR)
    have e5 : ((drPut ns).map fun _ => ((drPut ns)[0]?).getD (0, 1)).map fr = ((drPut ns).map fr).map fun _ => fr (((drPut ns)[0]?).getD (0, 1)) := by
      rw [List.map_map, List.map_map]
      rfl
    rw [e5]
    refine EvN.ev (evn_map (F := fun _ => fr (((drPut ns)[0]?).getD (0, 1))) (evi_list (ev_var rfl) (.inl rfl)) (by rw [List.length_map]; exact Nat.le_trans put.1 (by decide)) ?_ ?_)
    · intro j ds hj z
      rcases List.mem_singleton.mp hj with rfl
      cases z
    · intro i d hd
      exact ⟨_, _, go_name, fun j hj => hj, ev_ix (ev_var rfl) (ev_int (n := ((0 : Nat) : Int))) (frs_at e0)⟩
  · have e : drawnFs ns = drPut ns := by
      unfold drawnFs
      refine if_neg fun z => ?_
      rw [decide_eq_true (show (0 : Int) < (((drPut ns).map fr).length : Int) by rw [List.length_map]; omega), decide_eq_true z.2] at h
      cases h
    rw [e] at hR
    exact nx_freeze (i := 3) rfl (sw_ret (ev_var rfl) hR)
abbrev s__law_leveled : Stmt := top 20
theorem sc__law_leveled : FnScope ["_law_some", "_law_found", "_law_tops", "_law_bottom", "_law_common", "_law_k"] ["_law_some", "_law_found"] (defScope s__law_leveled) := ⟨rfl, rfl, rfl, by decide +kernel, rfl, by decide +kernel, by decide +kernel⟩
def F__law_leveled (ds : List D) (d : D) : Prop := ∃ fs : List (Int × Int), ds = [.lst (fs.map fr), .tup [.lst ((topsOf fs).map .int), .int (LF fs)]] ∧ Good fs ∧ d = .bl true
theorem F__law_leveled_len : ∀ ds d, F__law_leveled ds d → ds.length = 2 := by
  rintro _ _ ⟨a, rfl, _⟩
  rfl

theorem ok__law_leveled {P : Program} {w : World} {K : PySem.W.Frag} {mg : Str → Option Value} {base : Heap} {f : Addr} {fd : FuncData} (Fn : Fun K "_law_leveled" "_law_leveled" s__law_leveled f fd) {C : Str → Addr} (T : ErrTab K mg C CL RS) (m_len : mg "len" = none) (m_isinstance : mg "isinstance" = none) (m_tuple : mg "tuple" = none) (m_list : mg "list" = none) (m_range : mg "range" = none) (G__law_whole : Gd P w K mg base "_law_whole" 1 ["_law_found"] F__law_whole) (G__law_gcd : Gd P w K mg base "_law_gcd" 1 ["_law_one", "_law_other"] F__law_gcd) :
    FnOk P w K mg base CX0 2 f fd ["_law_some", "_law_found"] (sp K F__law_leveled) := by
  refine def_ok Fn sc__law_leveled F__law_leveled_len (n := 4) rfl (fun cdv A outer s H E hr => ⟨_, (pss_cons (ps_if (PW.pt (pw_or (pt_not (pt_val (pe_callB call_isA (by rfl) m_isinstance (by decide +kernel) (pa_cons (pv 1) (pa_cons (pe_bltn (v := .ty "tuple") (u := .type "tuple") (by rfl) m_tuple (by decide +kernel) rfl) pa_nil))))) (pw_or1 (pt_cmpR (op_neA hr.units) (pe_callB call_lenA (by rfl) m_len (by decide +kernel) (pa_cons (pv 1) pa_nil)) pe_int (nomark _))))) (pss_one (ps_ret pe_bl)) pss_nil)
    (pss_cons (ps_asg (pv 1) (pg_seq (by rfl) (pgs_cons (pg_name (i := 2) sc__law_leveled.nd rfl (Or.inl rfl)) (pgs_cons (pg_name (i := 3) sc__law_leveled.nd rfl (Or.inl rfl)) pgs_nil))))
    (pss_cons (ps_if (PW.pt (pw_or (pt_not (pt_val (pe_callB call_isA (by rfl) m_isinstance (by decide +kernel) (pa_cons (pv 2) (pa_cons (pe_bltn (v := .ty "list") (u := .type "list") (by rfl) m_list (by decide +kernel) rfl) pa_nil))))) (pw_or (pt_cmpR (op_neA hr.units) (pe_callB call_lenA (by rfl) m_len (by decide +kernel) (pa_cons (pv 2) pa_nil)) (pe_callB call_lenA (by rfl) m_len (by decide +kernel) (pa_cons (pv 0) pa_nil)) (nomark _)) (pw_or (pt_not (pt_val (pe_gd G__law_whole hr (by decide) rfl (pa_cons (pv 3) pa_nil)))) (pw_or1 (pt_cmpR op_ltA (pv 3) pe_int (nomark _))))))) (pss_one (ps_ret pe_bl)) pss_nil)
    (pss_cons (ps_set (i := 4) sc__law_leveled.nd rfl (Or.inl rfl) pe_int)
    (pss_cons (ps_for PassesOwn.never rfl (pi_range1 rfl m_range (pa_cons (pe_callB call_lenA (by rfl) m_len (by decide +kernel) (pa_cons (pv 0) pa_nil)) pa_nil)) (pg_name (i := 5) sc__law_leveled.nd rfl (Or.inl rfl)) (pss_cons (ps_if (PW.pt (pw_or (pt_cmpR (op_neA hr.units) (pe_op op_modA (pv 3) (pe_ix ix_seq (pe_ix ix_seq (pv 0) (pv 5) (fun _ _ => rfl)) pe_int (fun _ _ => rfl))) pe_int (nomark _)) (pw_or1 (pt_not (pt_val (pe_gd G__law_whole hr (by decide) rfl (pa_cons (pe_ix ix_seq (pv 2) (pv 5) (fun _ _ => rfl)) pa_nil))))))) (pss_one (ps_ret pe_bl)) pss_nil)
    (pss_cons (ps_if (pt_cmpR (op_neA hr.units) (pe_op op_mulA (pe_ix ix_seq (pv 2) (pv 5) (fun _ _ => rfl)) (pe_ix ix_seq (pe_ix ix_seq (pv 0) (pv 5) (fun _ _ => rfl)) pe_int (fun _ _ => rfl))) (pe_op op_mulA (pe_ix ix_seq (pe_ix ix_seq (pv 0) (pv 5) (fun _ _ => rfl)) pe_int (fun _ _ => rfl)) (pv 3)) (nomark _)) (pss_one (ps_ret pe_bl)) pss_nil)
    (pss_one (ps_set (i := 4) sc__law_leveled.nd rfl (Or.inl rfl) (pe_gd G__law_gcd hr (by decide) rfl (pa_cons (pv 4) (pa_cons (pe_op op_divA (pv 3) (pe_ix ix_seq (pe_ix ix_seq (pv 0) (pv 5) (fun _ _ => rfl)) pe_int (fun _ _ => rfl))) pa_nil))))))))
    (pss_one (ps_ret (pe_or (pe_cmpR (op_eqA hr.units) (pv 4) pe_int (nomark _)) (pe_one (pe_and (pe_cmpR (op_eqA hr.units) (pe_callB call_lenA (by rfl) m_len (by decide +kernel) (pa_cons (pv 0) pa_nil)) pe_int (nomark _)) (pe_one (pe_cmpR (op_eqA hr.units) (pv 3) pe_int (nomark _))))))))))))), ?_⟩)
  dsimp only [L2.cxOf, L2.Cx.nox, L2.Cx.wish]
  rintro _ _ ⟨fs, rfl, hg, rfl⟩ X Q rfl hR
  have b := hg.bound
  have dv := (LFb_spec (b := 1) (by decide) hg.pos).2.2.1
  have len : ∀ {ρ : List Sl}, ρ[0]? = some (.st (.lst (fs.map fr))) → Ev X.K (tCB (rLen X.K) (tCons (tVar 0) tNil)) ρ (.int (fs.length : Int)) := fun h => z_len (ev_var h) (by show some ((fs.map fr).length : Int) = _; rw [List.length_map])
  refine sq_ifL (evt_or (evt_not (evt_b (z_isi (ev_var rfl) rfl (b := true) (by decide +kernel)))) fun _ => evt_of (z_neI (z_len (ev_var rfl) rfl) ev_int)) (fun h => nomatch h) fun _ => ?_
  refine sq_asg (ev_var rfl) (go_seqT rfl (gos_cons go_name (gos_cons go_name gos_nil))) ?_
  refine sq_ifL (b := false) ?_ (fun h => nomatch h) fun _ => ?_
  · have h := evt_or (K := X.K) (ρ := [.st (.lst (fs.map fr)), .st (.tup [.lst ((topsOf fs).map .int), .int (LF fs)]), .st (.lst ((topsOf fs).map .int)), .st (.int (LF fs)), .no, .no])
      (evt_not (evt_b (z_isi (n := "list") (ev_var (i := 2) rfl) rfl (b := true) (by decide +kernel))))
      fun _ => evt_or (evt_of (z_neI (z_len (ev_var (i := 2) rfl) rfl) (len rfl)))
        fun _ => evt_or (evt_not (evt_b (ev_call (F := F__law_whole) (E := E0) (d := .bl true) (eva_cons (ev_var (i := 3) rfl) eva_nil) ⟨_, _, rfl, rfl, rfl⟩))) fun _ => evt_of (z_lt (ev_var (i := 3) rfl) (ev_int (n := 1)))
    have e : (!true || (!decide ((((topsOf fs).map D.int).length : Int) = (fs.length : Int)) || (!true || decide (LF fs < 1)))) = false := by
      rw [decide_eq_true (by rw [List.length_map]; unfold topsOf; rw [List.length_map]), decide_eq_false (by omega)]
      rfl
    rw [e] at h
    exact h
  refine sq_set (d := .int 0) ev_int ?_
  refine sq_for (evi_range1 (len rfl) (by omega) (by have := hg.1; omega)) (fun i ρ1 => ∃ s, ρ1 = [.st (.lst (fs.map fr)), .st (.tup [.lst ((topsOf fs).map .int), .int (LF fs)]), .st (.lst ((topsOf fs).map .int)), .st (.int (LF fs)), .st (.int (CFb (LF fs) 0 (fs.take i))), s]) ⟨.no, rfl⟩ ?_ ?_
  · rintro τ' i d _ hd ⟨s, rfl⟩
    obtain ⟨hi, rfl⟩ := rangeD_get hd
    rw [Int.zero_add]
    have hi' : i < fs.length := by simpa using hi
    have hf : fs[i]? = some fs[i] := List.getElem?_eq_getElem hi'
    generalize fs[i] = f at hf
    have hmem := List.mem_of_getElem? hf
    have hm := hg.2 f hmem
    have e2 := dv f hmem
    have cr := dvd_cross (a := f.1) e2 hm.1
    have tb := hg.top (List.mem_map.mpr ⟨f, hmem, rfl⟩)
    refine ⟨_, _, go_name, fun N hN => ?_⟩
    have at1 : ∀ {ρ : List Sl} {c : Nat} {x : Int}, ρ[0]? = some (.st (.lst (fs.map fr))) → ρ[5]? = some (.st (.int (i : Int))) → ixD (fr f) (c : Int) = some (.int x) → Ev X.K (tOp (rIx X.K) (tOp (rIx X.K) (tVar 0) (tVar 5)) (tC (.int (c : Int)))) ρ (.int x) := fun h1 h2 h3 => ev_ix (ev_ix (ev_var h1) (ev_var h2) (frs_at hf)) ev_int h3
    refine sq_ifL (b := false) ?_ (fun h => nomatch h) fun _ => ?_
    · have h := evt_or (K := X.K) (ρ := [.st (.lst (fs.map fr)), .st (.tup [.lst ((topsOf fs).map .int), .int (LF fs)]), .st (.lst ((topsOf fs).map .int)), .st (.int (LF fs)), .st (.int (CFb (LF fs) 0 (fs.take i))), .st (.int (i : Int))])
        (evt_of (z_neI (z_modp (ev_var (i := 3) rfl) (at1 (c := 1) rfl rfl rfl) hm.1) (ev_int (n := 0))))
        fun _ => evt_not (evt_b (ev_call (F := F__law_whole) (E := E0) (d := .bl true) (eva_cons (ev_ix (ev_var (i := 2) rfl) (ev_var (i := 5) rfl) (tops_at hf)) eva_nil) ⟨_, _, rfl, rfl, rfl⟩))
      have e : (!decide (LF fs % f.2 = 0) || !true) = false := by
        rw [decide_eq_true (Int.emod_eq_zero_of_dvd e2)]
        rfl
      rw [e] at h
      exact h
    refine sq_ifL (b := false) ?_ (fun h => nomatch h) fun _ => ?_
    · have h := evt_of (K := X.K) (ρ := [.st (.lst (fs.map fr)), .st (.tup [.lst ((topsOf fs).map .int), .int (LF fs)]), .st (.lst ((topsOf fs).map .int)), .st (.int (LF fs)), .st (.int (CFb (LF fs) 0 (fs.take i))), .st (.int (i : Int))])
        (z_neI (z_mul (ev_ix (ev_var (i := 2) rfl) (ev_var (i := 5) rfl) (tops_at hf)) (at1 (c := 1) rfl rfl rfl) (mulW tb hm.2.2 (by decide))) (z_mul (at1 (c := 0) rfl rfl rfl) (ev_var (i := 3) rfl) (mulW hm.2.1 b.2 (by decide))))
      rw [decide_eq_true cr] at h
      exact h
    refine sw_set (d := .int (CFb (LF fs) 0 (fs.take (i + 1)))) ?_ (hN _ ⟨.st (.int (i : Int)), rfl⟩)
    rw [CFb_take 0 hf]
    exact ev_call (F := F__law_gcd) (eva_cons (ev_var rfl) (eva_cons (z_divp (ev_var rfl) (at1 (c := 1) rfl rfl rfl) hm.1 (noPy (lt_pow hm.2.2 _ (by decide)))) eva_nil)) ⟨_, _, rfl, rfl⟩
  · rintro _ ⟨s, rfl⟩
    have el : (rangeD 0 ((fs.length : Nat) : Int).toNat).length = fs.length := by unfold rangeD; simp
    rw [el, List.take_length]
    by_cases hne : fs = []
    · subst hne
      exact sw_ret (ev_orV (b := true) (z_eqI (ev_var rfl) ev_int) fun _ => ev_andV (a := true) (b := true) (z_eqI (a := 0) (b := 0) (len rfl) ev_int) fun _ => z_eqI (a := 1) (b := 1) (ev_var rfl) ev_int) hR
    · have e1 := CF_one hg.pos hne
      rw [e1]
      exact sw_ret (ev_orV (b := true) (z_eqI (ev_var rfl) ev_int) fun h => nomatch h) hR
abbrev s__law_sums : Stmt := top 21
theorem sc__law_sums : FnScope ["_law_some", "_law_found", "_law_tops", "_law_bottom", "_law_made", "_law_high", "_law_low"] ["_law_some", "_law_found"] (defScope s__law_sums) := ⟨rfl, rfl, rfl, by decide +kernel, rfl, by decide +kernel, by decide +kernel⟩
def F__law_sums (ds : List D) (d : D) : Prop := ∃ fs : List (Int × Int), ds = [.lst (fs.map fr), .tup [.lst ((topsOf fs).map .int), .int (LF fs)]] ∧ Good fs ∧ d = .bl true
theorem F__law_sums_len : ∀ ds d, F__law_sums ds d → ds.length = 2 := by
  rintro _ _ ⟨a, rfl, _⟩
  rfl
theorem is_fr {p : Int × Int} (h : IsFr p) : (decide (0 < p.2) && decide (Int.gcd p.1 p.2 = 1)) = true := by
  rw [decide_eq_true h.1, decide_eq_true h.2]
  rfl

theorem ok__law_sums {P : Program} {w : World} {K : PySem.W.Frag} {mg : Str → Option Value} {base : Heap} {f : Addr} {fd : FuncData} (Fn : Fun K "_law_sums" "_law_sums" s__law_sums f fd) {C : Str → Addr} (T : ErrTab K mg C CL RS) (m_sum : mg "sum" = none) (m_len : mg "len" = none) (m_min : mg "min" = none) (m_max : mg "max" = none) (G_total : GdN P w K mg base "total" 3 ["fractions"] F_total) (G__law_fraction : Gd P w K mg base "_law_fraction" 2 ["_law_found"] F__law_fraction) (G_greatest : GdN P w K mg base "greatest" 3 ["fractions"] F_greatest) (G_least : GdN P w K mg base "least" 3 ["fractions"] F_least) :
    FnOk P w K mg base CX0 4 f fd ["_law_some", "_law_found"] (sp K F__law_sums) := by
  refine def_ok Fn sc__law_sums F__law_sums_len (n := 5) rfl (fun cdv A outer s H E hr => ⟨_, (pss_cons (ps_asg (pv 1) (pg_seq (by rfl) (pgs_cons (pg_name (i := 2) sc__law_sums.nd rfl (Or.inl rfl)) (pgs_cons (pg_name (i := 3) sc__law_sums.nd rfl (Or.inl rfl)) pgs_nil))))
    (pss_cons (ps_set (i := 4) sc__law_sums.nd rfl (Or.inl rfl) (pe_gdN G_total hr (by decide) rfl (pa_cons (pv 0) pa_nil)))
    (pss_cons (ps_if (PW.pt (pw_or (pt_not (pt_val (pe_gd G__law_fraction hr (by decide) rfl (pa_cons (pv 4) pa_nil)))) (pw_or1 (pt_cmpR (op_neA hr.units) (pe_op op_mulA (pe_ix ix_seq (pv 4) pe_int (fun _ _ => rfl)) (pv 3)) (pe_op op_mulA (pe_callB (cr_sum rfl) (by rfl) m_sum (by decide +kernel) (pa_cons (pv 2) pa_nil)) (pe_ix ix_seq (pv 4) pe_int (fun _ _ => rfl))) (nomark _))))) (pss_one (ps_ret pe_bl)) pss_nil)
    (pss_cons (ps_set (i := 5) sc__law_sums.nd rfl (Or.inl rfl) (pe_gdN G_greatest hr (by decide) rfl (pa_cons (pv 0) pa_nil)))
    (pss_cons (ps_set (i := 6) sc__law_sums.nd rfl (Or.inl rfl) (pe_gdN G_least hr (by decide) rfl (pa_cons (pv 0) pa_nil)))
    (pss_cons (ps_if (pt_cmpR (op_eqA hr.units) (pe_callB call_lenA (by rfl) m_len (by decide +kernel) (pa_cons (pv 0) pa_nil)) pe_int (nomark _)) (pss_one (ps_ret (pe_and (pe_cmpR op_isNA (pv 5) pe_non (nomark _)) (pe_one (pe_cmpR op_isNA (pv 6) pe_non (nomark _)))))) pss_nil)
    (pss_cons (ps_if (PW.pt (pw_or (pt_not (pt_val (pe_gd G__law_fraction hr (by decide) rfl (pa_cons (pv 5) pa_nil)))) (pw_or1 (pt_not (pt_val (pe_gd G__law_fraction hr (by decide) rfl (pa_cons (pv 6) pa_nil))))))) (pss_one (ps_ret pe_bl)) pss_nil)
    (pss_one (ps_ret (pe_and (pe_cmpR (op_eqA hr.units) (pe_op op_mulA (pe_ix ix_seq (pv 5) pe_int (fun _ _ => rfl)) (pv 3)) (pe_op op_mulA (pe_callB (cr_max rfl) (by rfl) m_max (by decide +kernel) (pa_cons (pv 2) pa_nil)) (pe_ix ix_seq (pv 5) pe_int (fun _ _ => rfl))) (nomark _)) (pe_one (pe_cmpR (op_eqA hr.units) (pe_op op_mulA (pe_ix ix_seq (pv 6) pe_int (fun _ _ => rfl)) (pv 3)) (pe_op op_mulA (pe_callB (cr_min rfl) (by rfl) m_min (by decide +kernel) (pa_cons (pv 2) pa_nil)) (pe_ix ix_seq (pv 6) pe_int (fun _ _ => rfl))) (nomark _))))))))))))), ?_⟩)
  dsimp only [L2.cxOf, L2.Cx.nox, L2.Cx.wish]
  rintro _ _ ⟨fs, rfl, hg, rfl⟩ X Q rfl hR
  have b := hg.bound
  have Lb : (LF fs).natAbs < 2 ^ 8999 := lt_pow b.2 _ (by decide)
  have L0 : LF fs ≠ 0 := by omega
  have len : ∀ {ρ : List Sl}, ρ[0]? = some (.st (.lst (fs.map fr))) → Ev X.K (tCB (rLen X.K) (tCons (tVar 0) tNil)) ρ (.int (fs.length : Int)) := fun h => z_len (ev_var h) (by show some ((fs.map fr).length : Int) = _; rw [List.length_map])
  have isF : ∀ {ρ : List Sl} {i : Nat} {t : Int}, ρ[i]? = some (.st (fr (ratioF t (LF fs)))) → Ev X.K (tCall (sp X.K F__law_fraction) [] E0 (tCons (tVar i) tNil)) ρ (.bl true) := fun {ρ i t} h => ev_call (F := F__law_fraction) (eva_cons (ev_var h) eva_nil) ⟨_, _, rfl, by rw [is_fr (ratioF_spec (t := t) L0).1]⟩
  have cr : ∀ t : Int, (ratioF t (LF fs)).1 * LF fs = t * (ratioF t (LF fs)).2 := fun t => (ratioF_spec (t := t) L0).2
  have rb : ∀ {t : Int}, t.natAbs < 2 ^ 4610 → (ratioF t (LF fs)).1.natAbs < 2 ^ 4610 ∧ (ratioF t (LF fs)).2.natAbs < 2 ^ 4501 := fun {t} h => ⟨Nat.lt_of_le_of_lt (ratioF_le (t := t) L0).1 h, Nat.lt_of_le_of_lt (ratioF_le (t := t) L0).2 b.2⟩
  refine sq_asg (ev_var rfl) (go_seqT rfl (gos_cons go_name (gos_cons go_name gos_nil))) ?_
  refine sq_set (d := fr (ratioF (topsOf fs).sum (LF fs))) (z_call (F := F_total) (evl_st (ev_var rfl) evl_nil) ⟨fs, rfl, hg, rfl⟩) ?_
  have r0 := rb hg.sum
  refine sq_ifL (b := false) ?_ (fun h => nomatch h) fun _ => ?_
  · have h := evt_or (K := X.K) (ρ := [.st (.lst (fs.map fr)), .st (.tup [.lst ((topsOf fs).map .int), .int (LF fs)]), .st (.lst ((topsOf fs).map .int)), .st (.int (LF fs)), .st (fr (ratioF (topsOf fs).sum (LF fs))), .no, .no]) (evt_not (evt_b (isF (i := 4) rfl)))
      fun _ => evt_of (z_neI (z_mul (ev_ix (ev_var (i := 4) rfl) (ev_int (n := 0)) rfl) (ev_var (i := 3) rfl) (mulW r0.1 b.2 (by decide))) (z_mul (z_sumL (ns := topsOf fs) (evl_st (ev_var (i := 2) rfl) evl_nil) (.inl rfl)) (ev_ix (ev_var (i := 4) rfl) (ev_int (n := 1)) rfl) (mulW hg.sum r0.2 (by decide))))
    rw [decide_eq_true (cr _)] at h
    exact h
  by_cases hne : fs = []
  · subst hne
    refine sq_set (d := .non) (z_call (F := F_greatest) (evl_st (ev_var rfl) evl_nil) ⟨[], rfl, hg, .inl ⟨rfl, rfl⟩⟩) ?_
    refine sq_set (d := .non) (z_call (F := F_least) (evl_st (ev_var rfl) evl_nil) ⟨[], rfl, hg, .inl ⟨rfl, rfl⟩⟩) ?_
    exact sq_ifL (evt_of (z_eqI (len rfl) ev_int)) (fun _ => sw_ret (ev_andV (a := true) (b := true) (z_isN (d := .non) (ev_var rfl) ev_non) fun _ => z_isN (d := .non) (ev_var rfl) ev_non) hR) (fun h => nomatch h)
  have tne : topsOf fs ≠ [] := fun z => hne (List.map_eq_nil_iff.mp z)
  obtain ⟨m, hm, hmb⟩ := ex_max tne
  obtain ⟨k, hk, hkb⟩ := ex_min tne
  have up : ∀ {n : Nat}, n < 2 ^ 4601 → n < 2 ^ 4610 := fun h => lt_pow h _ (by decide)
  have r1 := rb (up (hg.top hm))
  have r2 := rb (up (hg.top hk))
  refine sq_set (d := fr (ratioF m (LF fs))) (z_call (F := F_greatest) (evl_st (ev_var rfl) evl_nil) ⟨fs, rfl, hg, .inr ⟨m, hm, hmb, rfl⟩⟩) ?_
  refine sq_set (d := fr (ratioF k (LF fs))) (z_call (F := F_least) (evl_st (ev_var rfl) evl_nil) ⟨fs, rfl, hg, .inr ⟨k, hk, hkb, rfl⟩⟩) ?_
  have l0 : ¬ ((fs.length : Int) = 0) := fun z => hne (List.eq_nil_of_length_eq_zero (by omega))
  refine sq_ifL (evt_of (z_eqI (len rfl) ev_int)) (fun h => absurd (of_decide_eq_true h) l0) fun _ => ?_
  refine sq_ifL (evt_or (evt_not (evt_b (isF rfl))) fun _ => evt_not (evt_b (isF rfl))) (fun h => nomatch h) fun _ => ?_
  refine sw_ret (d := .bl true) ?_ hR
  have h := ev_andV (K := X.K) (ρ := [.st (.lst (fs.map fr)), .st (.tup [.lst ((topsOf fs).map .int), .int (LF fs)]), .st (.lst ((topsOf fs).map .int)), .st (.int (LF fs)), .st (fr (ratioF (topsOf fs).sum (LF fs))), .st (fr (ratioF m (LF fs))), .st (fr (ratioF k (LF fs)))])
    (z_eqI (z_mul (ev_ix (ev_var (i := 5) rfl) (ev_int (n := 0)) rfl) (ev_var (i := 3) rfl) (mulW r1.1 b.2 (by decide))) (z_mul (z_max1 (evl_st (ev_var (i := 2) rfl) evl_nil) hm hmb) (ev_ix (ev_var (i := 5) rfl) (ev_int (n := 1)) rfl) (mulW (hg.top hm) r1.2 (by decide))))
    fun _ => z_eqI (z_mul (ev_ix (ev_var (i := 6) rfl) (ev_int (n := 0)) rfl) (ev_var (i := 3) rfl) (mulW r2.1 b.2 (by decide))) (z_mul (z_min1 (evl_st (ev_var (i := 2) rfl) evl_nil) hk hkb) (ev_ix (ev_var (i := 6) rfl) (ev_int (n := 1)) rfl) (mulW (hg.top hk) r2.2 (by decide)))
  rw [decide_eq_true (cr _), decide_eq_true (cr _)] at h
  exact h
abbrev s_law : Stmt := top 22
theorem sc_law : FnScope ["_law_script", "_law_some", "_law_handed", "_law_found", "_law_kept", "_law_turned", "_law_again"] ["_law_script"] (defScope s_law) := ⟨rfl, rfl, rfl, by decide +kernel, rfl, by decide +kernel, by decide +kernel⟩
def F_law (ds : List D) (d : D) : Prop := ∃ ns : List Int, ds = [.rd (ns.map D.int)] ∧ ns.length ≤ 63 ∧ d = .bl true
theorem F_law_len : ∀ ds d, F_law ds d → ds.length = 1 := by
  rintro _ _ ⟨a, rfl, _⟩
  rfl
theorem F_law_of (ns : List Int) (h : ns.length ≤ 63) : F_law [.rd (ns.map D.int)] (.bl true) := ⟨ns, rfl, h, rfl⟩
theorem isPs_frs : ∀ fs : List (Int × Int), isPs (fs.map fr) = true
  | [] => rfl
  | f :: r => isPs_frs r
theorem isPs_ints : ∀ ns : List Int, isPs (ns.map D.int) = true
  | [] => rfl
  | f :: r => isPs_ints r
theorem dep_frs : ∀ fs : List (Int × Int), PyData.depthAll (toPs (fs.map fr)) ≤ 1
  | [] => Nat.zero_le _
  | f :: r => Nat.max_le.mpr ⟨Nat.le_refl 1, dep_frs r⟩
theorem dep_ints : ∀ ns : List Int, PyData.depthAll (toPs (ns.map D.int)) = 0
  | [] => rfl
  | f :: r => by
    show max 0 (PyData.depthAll (toPs (r.map D.int))) = 0
    rw [dep_ints r]
    rfl
theorem lay_frs : ∀ fs : List (Int × Int), PyData.canLayAll0 (toPs (fs.map fr)) = true
  | [] => rfl
  | f :: r => by
    show (true && PyData.canLayAll0 (toPs (r.map fr))) = true
    rw [lay_frs r]
    rfl
theorem lay_ints : ∀ ns : List Int, PyData.canLayAll0 (toPs (ns.map D.int)) = true
  | [] => rfl
  | f :: r => by
    show (true && PyData.canLayAll0 (toPs (r.map D.int))) = true
    rw [lay_ints r]
    rfl
theorem lay_found (ns : List Int) (L : Int) : (toP (.tup [.lst (ns.map D.int), .int L])).canLay0 = true := by
  show (PyData.canLayAll0 (toPs (ns.map D.int)) && true) = true
  rw [lay_ints]
  rfl
theorem sh_frs (fs : List (Int × Int)) : SeqAt.shaped (toP (.lst (fs.map fr))) = true := by
  have e : (toP (.lst (fs.map fr))).canLay0 = true := lay_frs fs
  have e2 : (toP (.lst (fs.map fr))).depth ≤ 64 := by
    show PyData.depthAll (toPs (fs.map fr)) + 1 ≤ 64
    have := dep_frs fs
    omega
  unfold SeqAt.shaped
  rw [e, decide_eq_true e2]
  rfl
theorem isP_found (ns : List Int) (L : Int) : isP (.tup [.lst (ns.map D.int), .int L]) = true := by
  show (isPs (ns.map D.int) && true) = true
  rw [isPs_ints]
  rfl
theorem sh_found (ns : List Int) (L : Int) : SeqAt.shaped (toP (.tup [.lst (ns.map D.int), .int L])) = true := by
  have e2 : (toP (.tup [.lst (ns.map D.int), .int L])).depth ≤ 64 := by
    show max (PyData.depthAll (toPs (ns.map D.int)) + 1) (max 0 0) + 1 ≤ 64
    rw [dep_ints]
    decide
  unfold SeqAt.shaped
  rw [lay_found, decide_eq_true e2]
  rfl
theorem eq_frs (fs : List (Int × Int)) : PyData.eqv (toP (.lst (fs.map fr))) (toP (.lst (fs.map fr))) = true := PySem.SeqAt.eqv_refl _ (lay_frs fs)
theorem eq_found (ns : List Int) (L : Int) : PyData.eqv (toP (.tup [.lst (ns.map D.int), .int L])) (toP (.tup [.lst (ns.map D.int), .int L])) = true := PySem.SeqAt.eqv_refl _ (lay_found ns L)

theorem ok_law {P : Program} {w : World} {K : PySem.W.Frag} {mg : Str → Option Value} {base : Heap} {f : Addr} {fd : FuncData} (Fn : Fun K "law" "law" s_law f fd) {C : Str → Addr} (T : ErrTab K mg C CL RS) (m_list : mg "list" = none) (G__law_drawn : Gd P w K mg base "_law_drawn" 3 ["_law_script"] F__law_drawn) (G_level : GdN P w K mg base "level" 2 ["fractions"] F_level) (G__law_leveled : Gd P w K mg base "_law_leveled" 2 ["_law_some", "_law_found"] F__law_leveled) (G__law_sums : Gd P w K mg base "_law_sums" 4 ["_law_some", "_law_found"] F__law_sums) :
    FnOk P w K mg base CX0 5 f fd ["_law_script"] (sp K F_law) := by
  refine def_ok Fn sc_law F_law_len (n := 6) rfl (fun cdv A outer s H E hr => ⟨_, (pss_cons (ps_set (i := 1) sc_law.nd rfl (Or.inl rfl) (pe_gd G__law_drawn hr (by decide) rfl (pa_cons (pv 0) pa_nil)))
    (pss_cons (ps_set (i := 2) sc_law.nd rfl (Or.inl rfl) (pe_callTy call_listA (by rfl) m_list (by decide +kernel) (pa_cons (pv 1) pa_nil)))
    (pss_cons (ps_set (i := 3) sc_law.nd rfl (Or.inl rfl) (pe_gdN G_level hr (by decide) rfl (pa_cons (pv 2) pa_nil)))
    (pss_cons (ps_if (PW.pt (pw_or (pt_cmpR (op_neA hr.units) (pv 2) (pv 1) (nomark _)) (pw_or1 (pt_not (pt_val (pe_gd G__law_leveled hr (by decide) rfl (pa_cons (pv 1) (pa_cons (pv 3) pa_nil)))))))) (pss_one (ps_ret pe_bl)) pss_nil)
    (pss_cons (ps_set (i := 4) sc_law.nd rfl (Or.inl rfl) (pe_tup (pa_cons (pe_callTy call_listA (by rfl) m_list (by decide +kernel) (pa_cons (pe_ix ix_seq (pv 3) pe_int (fun _ _ => rfl)) pa_nil)) (pa_cons (pe_ix ix_seq (pv 3) pe_int (fun _ _ => rfl)) pa_nil))))
    (pss_cons (ps_if (PW.pt (pw_or (pt_not (pt_val (pe_gd G__law_sums hr (by decide) rfl (pa_cons (pv 2) (pa_cons (pv 4) pa_nil))))) (pw_or1 (pt_cmpR (op_neA hr.units) (pv 2) (pv 1) (nomark _))))) (pss_one (ps_ret pe_bl)) pss_nil)
    (pss_cons (ps_set (i := 5) sc_law.nd rfl (Or.inl rfl) (pe_revL (pv 1)))
    (pss_cons (ps_set (i := 6) sc_law.nd rfl (Or.inl rfl) (pe_gdN G_level hr (by decide) rfl (pa_cons (pv 5) pa_nil)))
    (pss_cons (ps_if (PW.pt (pw_or (pt_not (pt_val (pe_gd G__law_leveled hr (by decide) rfl (pa_cons (pe_revL (pv 1)) (pa_cons (pv 6) pa_nil))))) (pw_or1 (pt_not (pt_val (pe_gd G__law_sums hr (by decide) rfl (pa_cons (pv 5) (pa_cons (pv 6) pa_nil)))))))) (pss_one (ps_ret pe_bl)) pss_nil)
    (pss_cons (ps_expr (pe_bm PySem.F.plainAttrs_list PySem.F.slot_list_append PySem.F.type_list_append mt_append (pv 2) (pa_cons (pe_tup (pa_cons pe_int (pa_cons pe_int pa_nil))) pa_nil)))
    (pss_cons (ps_if (PW.pt (pw_or (pt_cmpR (op_neA hr.units) (pv 3) (pv 4) (nomark _)) (pw_or1 (pt_not (pt_val (pe_gd G__law_leveled hr (by decide) rfl (pa_cons (pe_op op_addA (pv 1) (pe_lst (pa_cons (pe_tup (pa_cons pe_int (pa_cons pe_int pa_nil))) pa_nil))) (pa_cons (pe_gdN G_level hr (by decide) rfl (pa_cons (pv 2) pa_nil)) pa_nil)))))))) (pss_one (ps_ret pe_bl)) pss_nil)
    (pss_cons (ps_expr (pe_bm PySem.F.plainAttrs_list PySem.F.slot_list_append PySem.F.type_list_append mt_append (pe_ix ix_seq (pv 3) pe_int (fun _ _ => rfl)) (pa_cons pe_int pa_nil)))
    (pss_one (ps_ret (pe_gd G__law_leveled hr (by decide) rfl (pa_cons (pv 1) (pa_cons (pe_gdN G_level hr (by decide) rfl (pa_cons (pe_callTy call_listA (by rfl) m_list (by decide +kernel) (pa_cons (pv 1) pa_nil)) pa_nil)) pa_nil))))))))))))))))), ?_⟩)
  dsimp only [L2.cxOf, L2.Cx.nox, L2.Cx.wish]
  rintro _ _ ⟨ns, rfl, hl, rfl⟩ X Q rfl hR
  have hg := drawn_good ns
  have hfl := (drawn_fit ns).1
  refine sq_set (d := .lst ((drawnFs ns).map fr)) (ev_call (F := F__law_drawn) (eva_cons (ev_var rfl) eva_nil) ⟨ns, rfl, hl, rfl⟩) ?_
  generalize drawnFs ns = fs at *
  refine sq_root fun H' up => ?_
  replace hR := up _ _ hR
  have isf := isPs_frs fs
  have shf := sh_frs fs
  have rv : (fs.map fr).reverse = (fs.reverse).map fr := (List.map_reverse ..).symm
  have hgr : Good fs.reverse := ⟨by rw [List.length_reverse]; exact hg.1, fun f hf => hg.2 f (List.mem_reverse.mp hf)⟩
  have hg3 : Good (fs ++ [(1, 3)]) := ⟨by rw [List.length_append]; show fs.length + 1 ≤ 45; omega, fun f hf => by
    rcases List.mem_append.mp hf with hf | hf
    · exact hg.2 f hf
    · rw [List.mem_singleton.mp hf]
      exact ⟨by decide, by decide, by decide⟩⟩
  have a3 : fs.map fr ++ [fr (1, 3)] = (fs ++ [(1, 3)]).map fr := by rw [List.map_append]; rfl
  have sb : ∀ {ρ : List Sl}, ρ[1]? = some (.bo (.lst (fs.map fr))) → EvS X.K (tVar 1) ρ (fs.map fr) := fun h => evs_bo (evh_var h) flat_frs
  have third : ∀ {ρ : List Sl}, Ev X.K (tTup (tCons (tC (.int 1)) (tCons (tC (.int 3)) tNil))) ρ (fr (1, 3)) := ev_tup (eva_cons ev_int (eva_cons ev_int eva_nil))
  refine sq_own (ds := fs.map fr) (evn_listA (sb rfl)) ?_
  refine sq_set (d := .tup [.lst ((topsOf fs).map .int), .int (LF fs)]) (z_call (F := F_level) (evl_ow rfl evl_nil) ⟨fs, rfl, hg, rfl⟩) ?_
  refine sq_ifL (evt_or (evt_of (z_neL (b := false) (evl_ow rfl (evl_bo (evh_var rfl) evl_nil)) isf isf shf shf (by rw [eq_frs]; rfl)))
    fun _ => evt_not (evt_b (ev_callL (F := F__law_leveled) (d := .bl true) (evl_bo (evh_var rfl) (evl_st (ev_var rfl) evl_nil)) ⟨fs, rfl, hg, rfl⟩ rfl))) (fun h => nomatch h) fun _ => ?_
  refine sq_set (d := .tup [.lst ((topsOf fs).map .int), .int (LF fs)]) (ev_tup (eva_cons (EvN.ev (evn_listA (evs_st (ev_ix (ev_var rfl) ev_int rfl)))) (eva_cons (ev_ix (ev_var rfl) ev_int rfl) eva_nil))) ?_
  refine sq_ifL (evt_or (evt_not (evt_b (ev_callL (F := F__law_sums) (d := .bl true) (evl_ow rfl (evl_st (ev_var rfl) evl_nil)) ⟨fs, rfl, hg, rfl⟩ rfl)))
    fun _ => evt_of (z_neL (b := false) (evl_ow rfl (evl_bo (evh_var rfl) evl_nil)) isf isf shf shf (by rw [eq_frs]; rfl))) (fun h => nomatch h) fun _ => ?_
  refine sq_set (d := .lst ((fs.reverse).map fr)) (by rw [← rv]; exact EvN.ev (evn_rev (sb rfl))) ?_
  refine sq_set (d := .tup [.lst ((topsOf fs.reverse).map .int), .int (LF fs.reverse)]) (z_call (F := F_level) (evl_st (ev_var rfl) evl_nil) ⟨fs.reverse, rfl, hgr, rfl⟩) ?_
  refine sq_ifL (evt_or (evt_not (evt_b (ev_callL (F := F__law_leveled) (d := .bl true) (evl_st (EvN.ev (evn_rev (sb rfl))) (evl_st (ev_var rfl) evl_nil)) ⟨fs.reverse, by rw [rv], hgr, rfl⟩ rfl)))
    fun _ => evt_not (evt_b (ev_callL (F := F__law_sums) (d := .bl true) (evl_st (ev_var rfl) (evl_st (ev_var rfl) evl_nil)) ⟨fs.reverse, rfl, hgr, rfl⟩ rfl))) (fun h => nomatch h) fun _ => ?_
  refine sq_app (d := fr (1, 3)) rfl third (by rw [List.length_map]; exact Nat.lt_of_le_of_lt hg.1 (by decide)) ?_
  have isF := isP_found (topsOf fs) (LF fs)
  have shF := sh_found (topsOf fs) (LF fs)
  refine sq_ifL (evt_or (evt_of (z_neD (b := false) (ev_var rfl) (ev_var rfl) isF isF shF shF (by rw [eq_found]; rfl)))
    fun _ => evt_not (evt_b (ev_callL (F := F__law_leveled) (d := .bl true) (evl_st (EvN.ev (evn_cat (sb rfl) (evs_st (ev_lst (eva_cons third eva_nil))) (by rw [List.length_map]; show fs.length + 1 ≤ _; exact Nat.le_trans (Nat.succ_le_succ hg.1) (by decide))))
      (evl_st (z_call (F := F_level) (evl_ow rfl evl_nil) ⟨fs ++ [(1, 3)], by rw [a3], hg3, rfl⟩) evl_nil)) ⟨fs ++ [(1, 3)], by rw [← a3], hg3, rfl⟩ rfl))) (fun h => nomatch h) fun _ => ?_
  refine sq_appIn (d := .tup [.lst ((topsOf fs).map .int), .int (LF fs)]) rfl rfl (by rw [List.length_map]; unfold topsOf; rw [List.length_map]; exact Nat.lt_of_le_of_lt hg.1 (by decide)) ?_
  exact sw_ret (d := .bl true) (ev_callL (F := F__law_leveled) (evl_bo (evh_var rfl) (evl_st (z_call (F := F_level) (evl_st (EvN.ev (evn_listA (sb rfl))) evl_nil) ⟨fs, rfl, hg, rfl⟩) evl_nil)) ⟨fs, rfl, hg, rfl⟩ rfl) hR
theorem all_mk {l : PySem.W.OpenLaw} {w : World} {K : PySem.W.Frag} {h : Heap} {mg : Str → Option Value} {fa : Addr} (X : K.In h) (G : h.Ns mainGlobals mg) (hfa : mg "law" = some (.ref fa))
    {f1 : Addr} {od1 an1 : Option Addr} {sl1 : Array (Option Value)} {oc1 kV1 dc1 pm1 cd1 ct1 : Value} (a1 : PySem.W.nsIn K mainGlobals "is_whole" = some (some (.ref f1))) (l1 : K.lookup f1 = some ⟨oc1, od1, .func (PySem.W.fnOf "is_whole" "is_whole" (defArgs s_is_whole) (defBody s_is_whole) (defScope s_is_whole) .none kV1 dc1 pm1 an1 cd1 ct1), sl1⟩) (c1 : PySem.W.codeIn K cd1 "is_whole" = true) (k1 : PySem.W.keepIn K (.ref f1) = true)
    {f2 : Addr} {od2 an2 : Option Addr} {sl2 : Array (Option Value)} {oc2 kV2 dc2 pm2 cd2 ct2 : Value} (a2 : PySem.W.nsIn K mainGlobals "divisor" = some (some (.ref f2))) (l2 : K.lookup f2 = some ⟨oc2, od2, .func (PySem.W.fnOf "divisor" "divisor" (defArgs s_divisor) (defBody s_divisor) (defScope s_divisor) .none kV2 dc2 pm2 an2 cd2 ct2), sl2⟩) (c2 : PySem.W.codeIn K cd2 "divisor" = true) (k2 : PySem.W.keepIn K (.ref f2) = true)
    {f3 : Addr} {od3 an3 : Option Addr} {sl3 : Array (Option Value)} {oc3 kV3 dc3 pm3 cd3 ct3 : Value} (a3 : PySem.W.nsIn K mainGlobals "ratio" = some (some (.ref f3))) (l3 : K.lookup f3 = some ⟨oc3, od3, .func (PySem.W.fnOf "ratio" "ratio" (defArgs s_ratio) (defBody s_ratio) (defScope s_ratio) .none kV3 dc3 pm3 an3 cd3 ct3), sl3⟩) (c3 : PySem.W.codeIn K cd3 "ratio" = true) (k3 : PySem.W.keepIn K (.ref f3) = true)
    {f4 : Addr} {od4 an4 : Option Addr} {sl4 : Array (Option Value)} {oc4 kV4 dc4 pm4 cd4 ct4 : Value} (a4 : PySem.W.nsIn K mainGlobals "level" = some (some (.ref f4))) (l4 : K.lookup f4 = some ⟨oc4, od4, .func (PySem.W.fnOf "level" "level" (defArgs s_level) (defBody s_level) (defScope s_level) .none kV4 dc4 pm4 an4 cd4 ct4), sl4⟩) (c4 : PySem.W.codeIn K cd4 "level" = true) (k4 : PySem.W.keepIn K (.ref f4) = true)
    {f5 : Addr} {od5 an5 : Option Addr} {sl5 : Array (Option Value)} {oc5 kV5 dc5 pm5 cd5 ct5 : Value} (a5 : PySem.W.nsIn K mainGlobals "total" = some (some (.ref f5))) (l5 : K.lookup f5 = some ⟨oc5, od5, .func (PySem.W.fnOf "total" "total" (defArgs s_total) (defBody s_total) (defScope s_total) .none kV5 dc5 pm5 an5 cd5 ct5), sl5⟩) (c5 : PySem.W.codeIn K cd5 "total" = true) (k5 : PySem.W.keepIn K (.ref f5) = true)
    {f6 : Addr} {od6 an6 : Option Addr} {sl6 : Array (Option Value)} {oc6 kV6 dc6 pm6 cd6 ct6 : Value} (a6 : PySem.W.nsIn K mainGlobals "greatest" = some (some (.ref f6))) (l6 : K.lookup f6 = some ⟨oc6, od6, .func (PySem.W.fnOf "greatest" "greatest" (defArgs s_greatest) (defBody s_greatest) (defScope s_greatest) .none kV6 dc6 pm6 an6 cd6 ct6), sl6⟩) (c6 : PySem.W.codeIn K cd6 "greatest" = true) (k6 : PySem.W.keepIn K (.ref f6) = true)
    {f7 : Addr} {od7 an7 : Option Addr} {sl7 : Array (Option Value)} {oc7 kV7 dc7 pm7 cd7 ct7 : Value} (a7 : PySem.W.nsIn K mainGlobals "least" = some (some (.ref f7))) (l7 : K.lookup f7 = some ⟨oc7, od7, .func (PySem.W.fnOf "least" "least" (defArgs s_least) (defBody s_least) (defScope s_least) .none kV7 dc7 pm7 an7 cd7 ct7), sl7⟩) (c7 : PySem.W.codeIn K cd7 "least" = true) (k7 : PySem.W.keepIn K (.ref f7) = true)
    {f8 : Addr} {od8 an8 : Option Addr} {sl8 : Array (Option Value)} {oc8 kV8 dc8 pm8 cd8 ct8 : Value} (a8 : PySem.W.nsIn K mainGlobals "_law_cell" = some (some (.ref f8))) (l8 : K.lookup f8 = some ⟨oc8, od8, .func (PySem.W.fnOf "_law_cell" "_law_cell" (defArgs s__law_cell) (defBody s__law_cell) (defScope s__law_cell) .none kV8 dc8 pm8 an8 cd8 ct8), sl8⟩) (c8 : PySem.W.codeIn K cd8 "_law_cell" = true) (k8 : PySem.W.keepIn K (.ref f8) = true)
    {f9 : Addr} {od9 an9 : Option Addr} {sl9 : Array (Option Value)} {oc9 kV9 dc9 pm9 cd9 ct9 : Value} (a9 : PySem.W.nsIn K mainGlobals "_law_whole" = some (some (.ref f9))) (l9 : K.lookup f9 = some ⟨oc9, od9, .func (PySem.W.fnOf "_law_whole" "_law_whole" (defArgs s__law_whole) (defBody s__law_whole) (defScope s__law_whole) .none kV9 dc9 pm9 an9 cd9 ct9), sl9⟩) (c9 : PySem.W.codeIn K cd9 "_law_whole" = true) (k9 : PySem.W.keepIn K (.ref f9) = true)
    {f10 : Addr} {od10 an10 : Option Addr} {sl10 : Array (Option Value)} {oc10 kV10 dc10 pm10 cd10 ct10 : Value} (a10 : PySem.W.nsIn K mainGlobals "_law_gcd" = some (some (.ref f10))) (l10 : K.lookup f10 = some ⟨oc10, od10, .func (PySem.W.fnOf "_law_gcd" "_law_gcd" (defArgs s__law_gcd) (defBody s__law_gcd) (defScope s__law_gcd) .none kV10 dc10 pm10 an10 cd10 ct10), sl10⟩) (c10 : PySem.W.codeIn K cd10 "_law_gcd" = true) (k10 : PySem.W.keepIn K (.ref f10) = true)
    {f11 : Addr} {od11 an11 : Option Addr} {sl11 : Array (Option Value)} {oc11 kV11 dc11 pm11 cd11 ct11 : Value} (a11 : PySem.W.nsIn K mainGlobals "_law_lowest" = some (some (.ref f11))) (l11 : K.lookup f11 = some ⟨oc11, od11, .func (PySem.W.fnOf "_law_lowest" "_law_lowest" (defArgs s__law_lowest) (defBody s__law_lowest) (defScope s__law_lowest) .none kV11 dc11 pm11 an11 cd11 ct11), sl11⟩) (c11 : PySem.W.codeIn K cd11 "_law_lowest" = true) (k11 : PySem.W.keepIn K (.ref f11) = true)
    {f12 : Addr} {od12 an12 : Option Addr} {sl12 : Array (Option Value)} {oc12 kV12 dc12 pm12 cd12 ct12 : Value} (a12 : PySem.W.nsIn K mainGlobals "_law_fraction" = some (some (.ref f12))) (l12 : K.lookup f12 = some ⟨oc12, od12, .func (PySem.W.fnOf "_law_fraction" "_law_fraction" (defArgs s__law_fraction) (defBody s__law_fraction) (defScope s__law_fraction) .none kV12 dc12 pm12 an12 cd12 ct12), sl12⟩) (c12 : PySem.W.codeIn K cd12 "_law_fraction" = true) (k12 : PySem.W.keepIn K (.ref f12) = true)
    {f13 : Addr} {od13 an13 : Option Addr} {sl13 : Array (Option Value)} {oc13 kV13 dc13 pm13 cd13 ct13 : Value} (a13 : PySem.W.nsIn K mainGlobals "_law_drawn" = some (some (.ref f13))) (l13 : K.lookup f13 = some ⟨oc13, od13, .func (PySem.W.fnOf "_law_drawn" "_law_drawn" (defArgs s__law_drawn) (defBody s__law_drawn) (defScope s__law_drawn) .none kV13 dc13 pm13 an13 cd13 ct13), sl13⟩) (c13 : PySem.W.codeIn K cd13 "_law_drawn" = true) (k13 : PySem.W.keepIn K (.ref f13) = true)
    {f14 : Addr} {od14 an14 : Option Addr} {sl14 : Array (Option Value)} {oc14 kV14 dc14 pm14 cd14 ct14 : Value} (a14 : PySem.W.nsIn K mainGlobals "_law_leveled" = some (some (.ref f14))) (l14 : K.lookup f14 = some ⟨oc14, od14, .func (PySem.W.fnOf "_law_leveled" "_law_leveled" (defArgs s__law_leveled) (defBody s__law_leveled) (defScope s__law_leveled) .none kV14 dc14 pm14 an14 cd14 ct14), sl14⟩) (c14 : PySem.W.codeIn K cd14 "_law_leveled" = true) (k14 : PySem.W.keepIn K (.ref f14) = true)
    {f15 : Addr} {od15 an15 : Option Addr} {sl15 : Array (Option Value)} {oc15 kV15 dc15 pm15 cd15 ct15 : Value} (a15 : PySem.W.nsIn K mainGlobals "_law_sums" = some (some (.ref f15))) (l15 : K.lookup f15 = some ⟨oc15, od15, .func (PySem.W.fnOf "_law_sums" "_law_sums" (defArgs s__law_sums) (defBody s__law_sums) (defScope s__law_sums) .none kV15 dc15 pm15 an15 cd15 ct15), sl15⟩) (c15 : PySem.W.codeIn K cd15 "_law_sums" = true) (k15 : PySem.W.keepIn K (.ref f15) = true)
    {f16 : Addr} {od16 an16 : Option Addr} {sl16 : Array (Option Value)} {oc16 kV16 dc16 pm16 cd16 ct16 : Value} (a16 : PySem.W.nsIn K mainGlobals "law" = some (some (.ref f16))) (l16 : K.lookup f16 = some ⟨oc16, od16, .func (PySem.W.fnOf "law" "law" (defArgs s_law) (defBody s_law) (defScope s_law) .none kV16 dc16 pm16 an16 cd16 ct16), sl16⟩) (c16 : PySem.W.codeIn K cd16 "law" = true) (k16 : PySem.W.keepIn K (.ref f16) = true)
    (z_isinstance : PySem.W.nsIn K mainGlobals "isinstance" = some none)
    (z_bool : PySem.W.nsIn K mainGlobals "bool" = some none)
    (z_int : PySem.W.nsIn K mainGlobals "int" = some none)
    (z_abs : PySem.W.nsIn K mainGlobals "abs" = some none)
    (z_sum : PySem.W.nsIn K mainGlobals "sum" = some none)
    (z_max : PySem.W.nsIn K mainGlobals "max" = some none)
    (z_min : PySem.W.nsIn K mainGlobals "min" = some none)
    (z_sorted : PySem.W.nsIn K mainGlobals "sorted" = some none)
    (z_len : PySem.W.nsIn K mainGlobals "len" = some none)
    (z_tuple : PySem.W.nsIn K mainGlobals "tuple" = some none)
    (z_list : PySem.W.nsIn K mainGlobals "list" = some none)
    (z_range : PySem.W.nsIn K mainGlobals "range" = some none)
    {c_HallError : Addr}
    (ns_HallError : PySem.W.nsIn K mainGlobals "HallError" = some (some (.ref c_HallError)))
    {c_NoNumber : Addr}
    (ns_NoNumber : PySem.W.nsIn K mainGlobals "NoNumber" = some (some (.ref c_NoNumber)))
    (x_hn : PySem.W.specialIn K (.builtin "object.__class__") "__get__" = some (some (.builtin "getset_descriptor.__get__")))
    (x_ht : PySem.W.takesIn K (.builtin "object.__class__") = some true)
    (xe_NoNumber : PySem.W.excIn K c_NoNumber [.type "ValueError", .type "Exception", .type "BaseException", .type "object"] "ValueError.__new__" = true)
    (xk_NoNumber : PySem.W.keepIn K (.ref c_NoNumber) = true)
    (xs_NoNumber : PySem.W.subIn K (.ref c_NoNumber) (.type "BaseException") = some true)
    (xt_NoNumber : PySem.W.typeIn K (.ref c_NoNumber) = some (.type "type"))
    (xg_NoNumber : PySem.W.findIn K (.ref c_NoNumber) "__getattribute__" = some (some (.builtin "BaseException.__getattribute__")))
    (xa_NoNumber : PySem.W.findIn K (.ref c_NoNumber) "__getattr__" = some none)
    (xd_NoNumber : PySem.W.hasDictIn K c_NoNumber = true)
    (xc_NoNumber : PySem.W.findIn K (.ref c_NoNumber) "__class__" = some (some (.builtin "object.__class__")))
    (xm_NoNumber : PySem.W.mroIn K c_NoNumber (.type "object") = some true)
    (xv_NoNumber : PySem.W.kitOne K (.ref c_NoNumber) (.type "ValueError") = some true)
    (xh_NoNumber : PySem.W.exmOne K (.ref c_NoNumber) (.ref c_HallError) = some true)
    (xi_NoNumber_HallError : PySem.W.kitOne K (.ref c_NoNumber) (.ref c_HallError) = some true)
    (xi_NoNumber_NoNumber : PySem.W.kitOne K (.ref c_NoNumber) (.ref c_NoNumber) = some true)
    : ∃ fd : FuncData, (∀ (s : Shared) (v : Value), BindsTo s fd ⟨[v], []⟩ [("_law_script", v)]) ∧ ∀ base : Heap, K.In base → base.Ns mainGlobals mg → FnOk l.prog w K mg base CX0 5 fa fd ["_law_script"] (sp K F_law) := by
  have e := hfa.symm.trans (PySem.W.mg_of X G a16)
  cases e
  have m_isinstance := PySem.W.mg_none_of X G z_isinstance
  have m_bool := PySem.W.mg_none_of X G z_bool
  have m_int := PySem.W.mg_none_of X G z_int
  have m_abs := PySem.W.mg_none_of X G z_abs
  have m_sum := PySem.W.mg_none_of X G z_sum
  have m_max := PySem.W.mg_none_of X G z_max
  have m_min := PySem.W.mg_none_of X G z_min
  have m_sorted := PySem.W.mg_none_of X G z_sorted
  have m_len := PySem.W.mg_none_of X G z_len
  have m_tuple := PySem.W.mg_none_of X G z_tuple
  have m_list := PySem.W.mg_none_of X G z_list
  have m_range := PySem.W.mg_none_of X G z_range
  have T : ErrTab K mg (lookA [("HallError", c_HallError), ("NoNumber", c_NoNumber)]) CL RS := by
    constructor
    · intro x hx
      simp only [CL, RS, List.mem_cons, List.not_mem_nil, or_false] at hx; rcases hx with rfl | rfl
      · exact ns_HallError
      · exact ns_NoNumber
    · intro x hx
      simp only [CL, RS, List.mem_cons, List.not_mem_nil, or_false] at hx; rcases hx with rfl | rfl
      · exact PySem.W.mg_of X G ns_HallError
      · exact PySem.W.mg_of X G ns_NoNumber
    · intro x hx
      simp only [CL, RS, List.mem_cons, List.not_mem_nil, or_false] at hx; rcases hx with rfl
      · decide +kernel
    · intro x hx
      simp only [CL, RS, List.mem_cons, List.not_mem_nil, or_false] at hx; rcases hx with rfl
      · exact ⟨xg_NoNumber, xa_NoNumber, xs_NoNumber, xd_NoNumber, xc_NoNumber, x_hn, x_ht, xm_NoNumber⟩
    · intro x y hx hy
      simp only [CL, RS, List.mem_cons, List.not_mem_nil, or_false] at hx; rcases hx with rfl
      · (simp only [CL, RS, List.mem_cons, List.not_mem_nil, or_false] at hy; rcases hy with rfl | rfl)
        · exact xi_NoNumber_HallError
        · exact xi_NoNumber_NoNumber
    · intro x hx
      simp only [CL, RS, List.mem_cons, List.not_mem_nil, or_false] at hx; rcases hx with rfl
      · exact xv_NoNumber
    · intro x hx
      simp only [CL, RS, List.mem_cons, List.not_mem_nil, or_false] at hx; rcases hx with rfl
      · exact xh_NoNumber
    · intro x hx
      simp only [CL, RS, List.mem_cons, List.not_mem_nil, or_false] at hx; rcases hx with rfl
      · exact ⟨c_NoNumber, PySem.W.mg_of X G ns_NoNumber, ns_NoNumber, xe_NoNumber, xk_NoNumber, xs_NoNumber, xt_NoNumber⟩
  refine ⟨PySem.W.fnOf "law" "law" (defArgs s_law) (defBody s_law) (defScope s_law) .none kV16 dc16 pm16 an16 cd16 ct16, fun s v => .of_eq rfl, fun base _ _ => ?_⟩
  have F1 := fun_mk (st := s_is_whole) l1 c1 k1
  have G_is_whole : Gd l.prog w K mg base "is_whole" 1 ["thing"] F_is_whole := ⟨_, _, ok_is_whole F1 T m_isinstance m_bool m_int, PySem.W.mg_of X G a1, k1, F1.binds (ps := ["thing"]) fun _ _ _ _ _ _ us hl => match us, hl with | [_], _ => rfl⟩
  have F2 := fun_mk (st := s_divisor) l2 c2 k2
  have G_divisor : Gd l.prog w K mg base "divisor" 1 ["one", "other"] F_divisor := ⟨_, _, ok_divisor F2 T m_abs, PySem.W.mg_of X G a2, k2, F2.binds (ps := ["one", "other"]) fun _ _ _ _ _ _ us hl => match us, hl with | [_, _], _ => rfl⟩
  have F3 := fun_mk (st := s_ratio) l3 c3 k3
  have G_ratio : GdX l.prog w K mg base "ratio" 2 ["top", "bottom"] F_ratio := ⟨_, _, ok_ratio F3 T G_is_whole G_divisor, PySem.W.mg_of X G a3, k3, F3.binds (ps := ["top", "bottom"]) fun _ _ _ _ _ _ us hl => match us, hl with | [_, _], _ => rfl⟩
  have F4 := fun_mk (st := s_level) l4 c4 k4
  have G_level : GdN l.prog w K mg base "level" 2 ["fractions"] F_level := ⟨_, _, ok_level F4 T G_divisor, PySem.W.mg_of X G a4, k4, F4.binds (ps := ["fractions"]) fun _ _ _ _ _ _ us hl => match us, hl with | [_], _ => rfl⟩
  have F5 := fun_mk (st := s_total) l5 c5 k5
  have G_total : GdN l.prog w K mg base "total" 3 ["fractions"] F_total := ⟨_, _, ok_total F5 T m_sum G_level G_ratio, PySem.W.mg_of X G a5, k5, F5.binds (ps := ["fractions"]) fun _ _ _ _ _ _ us hl => match us, hl with | [_], _ => rfl⟩
  have F6 := fun_mk (st := s_greatest) l6 c6 k6
  have G_greatest : GdN l.prog w K mg base "greatest" 3 ["fractions"] F_greatest := ⟨_, _, ok_greatest F6 T m_max G_level G_ratio, PySem.W.mg_of X G a6, k6, F6.binds (ps := ["fractions"]) fun _ _ _ _ _ _ us hl => match us, hl with | [_], _ => rfl⟩
  have F7 := fun_mk (st := s_least) l7 c7 k7
  have G_least : GdN l.prog w K mg base "least" 3 ["fractions"] F_least := ⟨_, _, ok_least F7 T m_min G_level G_ratio, PySem.W.mg_of X G a7, k7, F7.binds (ps := ["fractions"]) fun _ _ _ _ _ _ us hl => match us, hl with | [_], _ => rfl⟩
  have F8 := fun_mk (st := s__law_cell) l8 c8 k8
  have G__law_cell : Gd l.prog w K mg base "_law_cell" 1 ["_law_script", "_law_k"] F__law_cell := ⟨_, _, ok__law_cell F8 T, PySem.W.mg_of X G a8, k8, F8.binds (ps := ["_law_script", "_law_k"]) fun _ _ _ _ _ _ us hl => match us, hl with | [_, _], _ => rfl⟩
  have F9 := fun_mk (st := s__law_whole) l9 c9 k9
  have G__law_whole : Gd l.prog w K mg base "_law_whole" 1 ["_law_found"] F__law_whole := ⟨_, _, ok__law_whole F9 T m_isinstance m_bool m_int, PySem.W.mg_of X G a9, k9, F9.binds (ps := ["_law_found"]) fun _ _ _ _ _ _ us hl => match us, hl with | [_], _ => rfl⟩
  have F10 := fun_mk (st := s__law_gcd) l10 c10 k10
  have G__law_gcd : Gd l.prog w K mg base "_law_gcd" 1 ["_law_one", "_law_other"] F__law_gcd := ⟨_, _, ok__law_gcd F10 T m_sorted m_abs, PySem.W.mg_of X G a10, k10, F10.binds (ps := ["_law_one", "_law_other"]) fun _ _ _ _ _ _ us hl => match us, hl with | [_, _], _ => rfl⟩
  have F11 := fun_mk (st := s__law_lowest) l11 c11 k11
  have G__law_lowest : Gd l.prog w K mg base "_law_lowest" 2 ["_law_top", "_law_bottom"] F__law_lowest := ⟨_, _, ok__law_lowest F11 T G__law_gcd, PySem.W.mg_of X G a11, k11, F11.binds (ps := ["_law_top", "_law_bottom"]) fun _ _ _ _ _ _ us hl => match us, hl with | [_, _], _ => rfl⟩
  have F12 := fun_mk (st := s__law_fraction) l12 c12 k12
  have G__law_fraction : Gd l.prog w K mg base "_law_fraction" 2 ["_law_found"] F__law_fraction := ⟨_, _, ok__law_fraction F12 T m_len m_isinstance m_tuple G__law_whole G__law_gcd, PySem.W.mg_of X G a12, k12, F12.binds (ps := ["_law_found"]) fun _ _ _ _ _ _ us hl => match us, hl with | [_], _ => rfl⟩
  have F13 := fun_mk (st := s__law_drawn) l13 c13 k13
  have G__law_drawn : Gd l.prog w K mg base "_law_drawn" 3 ["_law_script"] F__law_drawn := ⟨_, _, ok__law_drawn F13 T m_len G__law_cell G__law_lowest, PySem.W.mg_of X G a13, k13, F13.binds (ps := ["_law_script"]) fun _ _ _ _ _ _ us hl => match us, hl with | [_], _ => rfl⟩
  have F14 := fun_mk (st := s__law_leveled) l14 c14 k14
  have G__law_leveled : Gd l.prog w K mg base "_law_leveled" 2 ["_law_some", "_law_found"] F__law_leveled := ⟨_, _, ok__law_leveled F14 T m_len m_isinstance m_tuple m_list m_range G__law_whole G__law_gcd, PySem.W.mg_of X G a14, k14, F14.binds (ps := ["_law_some", "_law_found"]) fun _ _ _ _ _ _ us hl => match us, hl with | [_, _], _ => rfl⟩
  have F15 := fun_mk (st := s__law_sums) l15 c15 k15
  have G__law_sums : Gd l.prog w K mg base "_law_sums" 4 ["_law_some", "_law_found"] F__law_sums := ⟨_, _, ok__law_sums F15 T m_sum m_len m_min m_max G_total G__law_fraction G_greatest G_least, PySem.W.mg_of X G a15, k15, F15.binds (ps := ["_law_some", "_law_found"]) fun _ _ _ _ _ _ us hl => match us, hl with | [_, _], _ => rfl⟩
  exact ok_law (fun_mk (st := s_law) l16 c16 k16) T m_list G__law_drawn G_level G__law_leveled G__law_sums
theorem walk {l : PySem.W.OpenLaw} {q : Program} {loose : List Str} {XP : (Str → Option Value) → Heap → Prop} {YP : World → Heap → Prop} {d : DefRec} {K : Params → PySem.W.Frag} (hn : l.most = some 63) (hdf : d.params.defaults = [])
    (hY : ∀ (w : World) (h : Heap), YP w h → (K w.params).In h)
    (F : ∀ (w : World) (mg : Str → Option Value) (fa : Addr) (h : Heap), (K w.params).In h → h.Ns mainGlobals mg → mg d.name = some (.ref fa) →
      ∃ fd : FuncData, (∀ (s : Shared) (u : Value), BindsTo s fd ⟨[u], []⟩ [("_law_script", u)]) ∧ ∀ base : Heap, (K w.params).In base → base.Ns mainGlobals mg → FnOk l.prog w (K w.params) mg base CX0 5 fa fd ["_law_script"] (sp (K w.params) F_law)) :
    PySem.W.WalkO q loose XP YP l.row.toRowW d [] (fun f vs => PySem.call f vs) :=
  L2.walk_of (n := 63) (k := 5) (x := "_law_script") (CX := fun _ => CX0) (sp := fun w => sp (K w.params) F_law) hn (by decide) hdf ⟨rfl, by decide, by decide⟩ hY F (fun w H a ns hl _ hS => law_sp hS (F_law_of ns hl)) fun _ _ _ _ _ z => z
end My
open PySem PySem.W PyProof.Rows
set_option maxRecDepth 100000 in
set_option maxHeartbeats 0 in
theorem PySem.Challenge.cw_chancehall_k05_lists_of_fractions_holds : PySem.Challenge.rw_chancehall_k05_lists_of_fractions.Holds := by
  w_on; o_law; k_head; (case hw => w_witness2)
  k_fill
  refine My.walk (l := PySem.Challenge.rw_chancehall_k05_lists_of_fractions) rfl rfl (fun w h Y => PySem.W.kIn_of Y) ?F
  case F =>
    intro w mg fa h KX G hmg
    refine' My.all_mk KX G hmg ?a1 ?l1 ?c1 ?k1 ?a2 ?l2 ?c2 ?k2 ?a3 ?l3 ?c3 ?k3 ?a4 ?l4 ?c4 ?k4 ?a5 ?l5 ?c5 ?k5 ?a6 ?l6 ?c6 ?k6 ?a7 ?l7 ?c7 ?k7 ?a8 ?l8 ?c8 ?k8 ?a9 ?l9 ?c9 ?k9 ?a10 ?l10 ?c10 ?k10 ?a11 ?l11 ?c11 ?k11 ?a12 ?l12 ?c12 ?k12 ?a13 ?l13 ?c13 ?k13 ?a14 ?l14 ?c14 ?k14 ?a15 ?l15 ?c15 ?k15 ?a16 ?l16 ?c16 ?k16 ?z_isinstance ?z_bool ?z_int ?z_abs ?z_sum ?z_max ?z_min ?z_sorted ?z_len ?z_tuple ?z_list ?z_range ?ns_HallError ?ns_NoNumber ?x_hn ?x_ht ?xe_NoNumber ?xk_NoNumber ?xs_NoNumber ?xt_NoNumber ?xg_NoNumber ?xa_NoNumber ?xd_NoNumber ?xc_NoNumber ?xm_NoNumber ?xv_NoNumber ?xh_NoNumber ?xi_NoNumber_HallError ?xi_NoNumber_NoNumber
    (case a1 => k_is)
    (case l1 => k_is)
    (case c1 => k_is)
    (case k1 => k_is)
    (case a2 => k_is)
    (case l2 => k_is)
    (case c2 => k_is)
    (case k2 => k_is)
    (case a3 => k_is)
    (case l3 => k_is)
    (case c3 => k_is)
    (case k3 => k_is)
    (case a4 => k_is)
    (case l4 => k_is)
    (case c4 => k_is)
    (case k4 => k_is)
    (case a5 => k_is)
    (case l5 => k_is)
    (case c5 => k_is)
    (case k5 => k_is)
    (case a6 => k_is)
    (case l6 => k_is)
    (case c6 => k_is)
    (case k6 => k_is)
    (case a7 => k_is)
    (case l7 => k_is)
    (case c7 => k_is)
    (case k7 => k_is)
    (case a8 => k_is)
    (case l8 => k_is)
    (case c8 => k_is)
    (case k8 => k_is)
    (case a9 => k_is)
    (case l9 => k_is)
    (case c9 => k_is)
    (case k9 => k_is)
    (case a10 => k_is)
    (case l10 => k_is)
    (case c10 => k_is)
    (case k10 => k_is)
    (case a11 => k_is)
    (case l11 => k_is)
    (case c11 => k_is)
    (case k11 => k_is)
    (case a12 => k_is)
    (case l12 => k_is)
    (case c12 => k_is)
    (case k12 => k_is)
    (case a13 => k_is)
    (case l13 => k_is)
    (case c13 => k_is)
    (case k13 => k_is)
    (case a14 => k_is)
    (case l14 => k_is)
    (case c14 => k_is)
    (case k14 => k_is)
    (case a15 => k_is)
    (case l15 => k_is)
    (case c15 => k_is)
    (case k15 => k_is)
    (case a16 => k_is)
    (case l16 => k_is)
    (case c16 => k_is)
    (case k16 => k_is)
    (case z_isinstance => k_is)
    (case z_bool => k_is)
    (case z_int => k_is)
    (case z_abs => k_is)
    (case z_sum => k_is)
    (case z_max => k_is)
    (case z_min => k_is)
    (case z_sorted => k_is)
    (case z_len => k_is)
    (case z_tuple => k_is)
    (case z_list => k_is)
    (case z_range => k_is)
    (case ns_HallError => k_is)
    (case ns_NoNumber => k_is)
    (case x_hn => k_is)
    (case x_ht => k_is)
    (case xe_NoNumber => k_exc)
    (case xk_NoNumber => k_is)
    (case xs_NoNumber => k_is)
    (case xt_NoNumber => k_is)
    (case xg_NoNumber => k_is)
    (case xa_NoNumber => k_is)
    (case xd_NoNumber => k_is)
    (case xc_NoNumber => k_is)
    (case xm_NoNumber => k_is)
    (case xv_NoNumber => kit_is)
    (case xh_NoNumber => kts_exm)
    (case xi_NoNumber_HallError => kit_is)
    (case xi_NoNumber_NoNumber => kit_is)
