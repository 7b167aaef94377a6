import PyProof.Rows.All
import Wide.All
import OpenK.AllK
import Wide.FinOn
import HandS.ForMost
import HandS.ForExc
import HandS.Style
import HandS.Flow
import HandS.Zip
import HandS.TupAny
import HandS.Conv
import HandS.Wide
import HandS.TupMul
import PyProof.Rows.RuleB_pow
import HandS.IsInst
import HandS.Star
import HandS.RaiseMore
import HandS.Dict
import HandS.WordsDict
import HandS.SetKeys
import HandS.Comp
import HandS.Iter
import KE.GoesMore
import KE.KDictCopyH
import HandS.HeadHook2
import HandS.HeadEnd
import HandS.Head0
import HandS.Head1
import HandS.Head2
import PySem.Challenge.RW_queueloops_k16_whole_pairs_that_can_be
set_option Elab.async false
set_option linter.all false
set_option maxRecDepth 100000
set_option maxHeartbeats 0
/-! A1: own values, own store, how they stand for the model's. -/
namespace Q
open PySem PySem.Spec PyProof.Rows L2

/-- a value: tuples are values -/
inductive W where
  | non
  | bl (b : Bool)
  | int (i : Int)
  | str (x : Str)
  | tup (xs : List W)
  | fl (xs : List W)
  | ref (n : Nat)
  | glb (i : Nat)
  | ty (n : String)
  deriving Inhabited

inductive O where
  | lst (xs : List W)
  | dic (kvs : List (W × W))
  | ins (c : Nat) (fs : List (Str × W))
  deriving Inhabited

structure Store where
  n : Nat
  f : Nat → Option O

def Store.get (s : Store) (a : Nat) : Option O := s.f a
def Store.put (s : Store) (a : Nat) (o : O) : Store := ⟨s.n, fun b => if b = a then some o else s.f b⟩
def Store.add (s : Store) (o : O) : Store := ⟨s.n + 1, fun b => if b = s.n then some o else s.f b⟩

inductive Res (α : Type) where
  | ok (a : α) (s : Store)
  | exc (c : Nat) (v : W) (s : Store)
  | err

def Res.bind {α β : Type} (r : Res α) (k : α → Store → Res β) : Res β := match r with
  | .ok a s => k a s
  | .exc c v s => .exc c v s
  | .err => .err

abbrev Env' := List (Option W)
abbrev Ev (α : Type) := Env' → Store → Res α

/-- what a statement leaves -/
inductive RS where
  | nx (e : Env') (s : Store)
  | ret (w : W) (s : Store)
  | bk (e : Env') (s : Store)
  | ct (e : Env') (s : Store)
  | exc (c : Nat) (v : W) (e : Env') (s : Store)
  | err
abbrev Sv := Env' → Store → RS

/-- the module: what the top has written, the addresses of its defs and classes by number -/
structure Gm where
  K : PySem.W.Frag
  g : Nat → Option Addr

/-- a tuple of texts, one at least: it may stand in the written part -/
def allStr : List W → Bool
  | [] => false
  | [.str _] => true
  | .str _ :: r => allStr r
  | _ => false
section
variable (G : Gm)
mutual
inductive RV (ρ : List Addr) (H : Hp) : W → V → Prop where
  | non : RV ρ H .non .non
  | bl (b : Bool) : RV ρ H (.bl b) (.bl b)
  | int (i : Int) : RV ρ H (.int i) (.int i)
  | str (x : Str) : RV ρ H (.str x) (.str x)
  | ty (n : String) : RV ρ H (.ty n) (.ty n)
  | ref {n : Nat} {a : Addr} : ρ[n]? = some a → RV ρ H (.ref n) (.ref a)
  | glb {i : Nat} {a : Addr} : G.g i = some a → RV ρ H (.glb i) (.ref a)
  | tup {ws : List W} {vs : List V} {a : Addr} : H a = some (.tup vs) → RVs ρ H ws vs → RV ρ H (.tup ws) (.ref a)
  | fl {ws : List W} {vs : List V} {a : Addr} : ((∃ ob, H a = some (.frz ob (.lst vs))) ∨ ∀ H1, SqL G.K H1 a vs) → RVs ρ H ws vs → RV ρ H (.fl ws) (.ref a)
  | ktup {ws : List W} {vs : List V} {a : Addr} : SqT G.K H a vs → allStr ws = true → RVs ρ H ws vs → RV ρ H (.tup ws) (.ref a)
inductive RVs (ρ : List Addr) (H : Hp) : List W → List V → Prop where
  | nil : RVs ρ H [] []
  | cons {w : W} {v : V} {ws : List W} {vs : List V} : RV ρ H w v → RVs ρ H ws vs → RVs ρ H (w :: ws) (v :: vs)
end

/-- a list that nobody writes -/
theorem fl_sql {K : PySem.W.Frag} {H : Hp} {a : Addr} {vs : List V} (h : (∃ ob, H a = some (.frz ob (.lst vs))) ∨ ∀ H1, SqL K H1 a vs) : SqL K H a vs := h.elim (fun z => .inl (.inr z)) fun z => z H
/-- the tuples stay -/
structure KT (H H' : Hp) : Prop where
  t : ∀ a vs, H a = some (.tup vs) → H' a = some (.tup vs)
  s : ∀ a vs, SqT G.K H a vs → SqT G.K H' a vs
  z : ∀ a ob u, H a = some (.frz ob u) → H' a = some (.frz ob u)
variable {G}
theorem KT.refl {H : Hp} : KT G H H := ⟨fun _ _ h => h, fun _ _ h => h, fun _ _ _ h => h⟩
theorem KT.trans {H H1 H2 : Hp} (a : KT G H H1) (b : KT G H1 H2) : KT G H H2 := ⟨fun p vs h => b.t p vs (a.t p vs h), fun p vs h => b.s p vs (a.s p vs h), fun p ob u h => b.z p ob u (a.z p ob u h)⟩
/-- a place that holds no tuple is written -/
theorem KT.wr {H : Hp} {a : Addr} {o : HO} (h : ∀ o', H a = some o' → (∀ xs, o' ≠ .tup xs) ∧ ∀ ob u, o' ≠ .frz ob u) : KT G H (upd H a o) := by
  refine ⟨fun p vs q => ?_, fun p vs q => ?_, fun p ob u q => ?_⟩
  rotate_left 2
  · have ne : p ≠ a := by
      rintro rfl
      exact (h _ q).2 _ _ rfl
    rw [upd_ne ne]
    exact q
  · have ne : p ≠ a := by
      rintro rfl
      exact (h _ q).1 _ rfl
    rw [upd_ne ne]
    exact q
  rcases q with q | q
  · have ne : p ≠ a := by
      rintro rfl
      rcases q with q | ⟨ob, q⟩
      · exact (h _ q).1 _ rfl
      · exact (h _ q).2 _ _ rfl
    refine .inl ?_
    rcases q with q | ⟨ob, q⟩
    · exact .inl (by rw [upd_ne ne]; exact q)
    · exact .inr ⟨ob, by rw [upd_ne ne]; exact q⟩
  · exact .inr q
theorem KT.new {H : Hp} {a : Addr} {o : HO} (h : H a = none) : KT G H (upd H a o) := KT.wr fun o' e => by rw [h] at e; cases e

theorem pre_get {α : Type} {l l' : List α} (h : l <+: l') {n : Nat} {a : α} (e : l[n]? = some a) : l'[n]? = some a := by
  obtain ⟨r, rfl⟩ := h
  rw [List.getElem?_append_left (List.getElem?_eq_some_iff.mp e).1]
  exact e

mutual
theorem RV.mono {ρ ρ' : List Addr} {H H' : Hp} (hp : ρ <+: ρ') (kt : KT G H H') : ∀ {w : W} {v : V}, RV G ρ H w v → RV G ρ' H' w v
  | _, _, .non => .non
  | _, _, .bl b => .bl b
  | _, _, .int b => .int b
  | _, _, .str b => .str b
  | _, _, .ty b => .ty b
  | _, _, .ref e => .ref (pre_get hp e)
  | _, _, .glb e => .glb e
  | _, _, .tup h r => .tup (kt.t _ _ h) (RVs.mono hp kt r)
  | _, _, .fl h r => .fl (h.imp (fun ⟨ob, z⟩ => ⟨ob, kt.z _ _ _ z⟩) id) (RVs.mono hp kt r)
  | _, _, .ktup h z r => .ktup (kt.s _ _ h) z (RVs.mono hp kt r)
theorem RVs.mono {ρ ρ' : List Addr} {H H' : Hp} (hp : ρ <+: ρ') (kt : KT G H H') : ∀ {ws : List W} {vs : List V}, RVs G ρ H ws vs → RVs G ρ' H' ws vs
  | _, _, .nil => .nil
  | _, _, .cons a b => .cons (RV.mono hp kt a) (RVs.mono hp kt b)
end

section
variable {ρ : List Addr} {H : Hp}
theorem RVs.length : ∀ {ws : List W} {vs : List V}, RVs G ρ H ws vs → ws.length = vs.length
  | _, _, .nil => rfl
  | _, _, .cons _ t => by simp [RVs.length t]
theorem RVs.get : ∀ {ws : List W} {vs : List V} {i : Nat} {w : W}, RVs G ρ H ws vs → ws[i]? = some w → ∃ v, vs[i]? = some v ∧ RV G ρ H w v
  | _, _, _, _, .nil, e => by simp at e
  | _, _, 0, _, .cons r _, e => by simp at e; subst e; exact ⟨_, rfl, r⟩
  | _, _, i + 1, w, .cons _ t, e => by
    obtain ⟨v, h1, h2⟩ := RVs.get (i := i) (w := w) t (by simpa using e)
    exact ⟨v, by simpa using h1, h2⟩
theorem RVs.app : ∀ {ws us : List W} {vs xs : List V}, RVs G ρ H ws vs → RVs G ρ H us xs → RVs G ρ H (ws ++ us) (vs ++ xs)
  | _, _, _, _, .nil, s => s
  | _, _, _, _, .cons r t, s => .cons r (RVs.app t s)
theorem RVs.take : ∀ {ws : List W} {vs : List V} (n : Nat), RVs G ρ H ws vs → RVs G ρ H (ws.take n) (vs.take n)
  | _, _, 0, _ => .nil
  | _, _, _ + 1, .nil => .nil
  | _, _, n + 1, .cons r t => .cons r (RVs.take n t)
theorem RVs.drop : ∀ {ws : List W} {vs : List V} (n : Nat), RVs G ρ H ws vs → RVs G ρ H (ws.drop n) (vs.drop n)
  | _, _, 0, r => r
  | _, _, _ + 1, .nil => .nil
  | _, _, n + 1, .cons _ t => RVs.drop n t
theorem RVs.set {w : W} {v : V} (r : RV G ρ H w v) : ∀ {ws : List W} {vs : List V} (i : Nat), RVs G ρ H ws vs → RVs G ρ H (ws.set i w) (vs.set i v)
  | _, _, _, .nil => .nil
  | _, _, 0, .cons _ t => .cons r t
  | _, _, i + 1, .cons q t => .cons q (RVs.set r i t)
theorem RVs.eraseIdx : ∀ {ws : List W} {vs : List V} (i : Nat), RVs G ρ H ws vs → RVs G ρ H (ws.eraseIdx i) (vs.eraseIdx i)
  | _, _, _, .nil => .nil
  | _, _, 0, .cons _ t => t
  | _, _, i + 1, .cons q t => .cons q (RVs.eraseIdx i t)
theorem RVs.rev {ws : List W} {vs : List V} (h : RVs G ρ H ws vs) : RVs G ρ H ws.reverse vs.reverse := by
  induction ws generalizing vs with
  | nil => cases h; exact .nil
  | cons w r ih =>
    cases h with
    | cons a b => rw [List.reverse_cons, List.reverse_cons]; exact (ih b).app (.cons a .nil)
theorem RVs.rep {w : W} {v : V} (r : RV G ρ H w v) : ∀ n : Nat, RVs G ρ H (List.replicate n w) (List.replicate n v)
  | 0 => .nil
  | n + 1 => .cons r (RVs.rep r n)
theorem RVs.ints : ∀ (ns : List Int), RVs G ρ H (ns.map W.int) (ns.map V.int)
  | [] => .nil
  | n :: r => .cons (.int n) (RVs.ints r)
/-- ints are themselves -/
theorem RVs.int_inv : ∀ {ns : List Int} {vs : List V}, RVs G ρ H (ns.map W.int) vs → vs = ns.map V.int
  | [], _, .nil => rfl
  | n :: r, _, .cons a b => by
    cases a
    rw [RVs.int_inv b]
    rfl
theorem RVs.str_inv : ∀ {ns : List Str} {vs : List V}, RVs G ρ H (ns.map W.str) vs → vs = ns.map V.str
  | [], _, .nil => rfl
  | n :: r, _, .cons a b => by
    cases a
    rw [RVs.str_inv b]
    rfl
theorem RVs.bl_inv : ∀ {ns : List Bool} {vs : List V}, RVs G ρ H (ns.map W.bl) vs → vs = ns.map V.bl
  | [], _, .nil => rfl
  | n :: r, _, .cons a b => by
    cases a
    rw [RVs.bl_inv b]
    rfl
end

/-! ### keys, objects, the store -/
def keyK : W → Option Key
  | .int i => some (.inl i)
  | .str x => some (.inr x)
  | _ => none
def keysK : List W → Option (List Key)
  | [] => some []
  | w :: r => match keyK w, keysK r with
    | some k, some ks => some (k :: ks)
    | _, _ => none
def keyT : W → Option (List Key)
  | .tup ws => if allStr ws then none else keysK ws
  | _ => none

inductive All2 {α β : Type} (R : α → β → Prop) : List α → List β → Prop where
  | nil : All2 R [] []
  | cons {a : α} {b : β} {as : List α} {bs : List β} : R a b → All2 R as bs → All2 R (a :: as) (b :: bs)
theorem All2.imp {α β : Type} {R S : α → β → Prop} (h : ∀ a b, R a b → S a b) : ∀ {as : List α} {bs : List β}, All2 R as bs → All2 S as bs
  | _, _, .nil => .nil
  | _, _, .cons r t => .cons (h _ _ r) (All2.imp h t)
theorem All2.len {α β : Type} {R : α → β → Prop} : ∀ {as : List α} {bs : List β}, All2 R as bs → as.length = bs.length
  | _, _, .nil => rfl
  | _, _, .cons _ t => by simp [All2.len t]
theorem All2.app {α β : Type} {R : α → β → Prop} : ∀ {as as' : List α} {bs bs' : List β}, All2 R as bs → All2 R as' bs' → All2 R (as ++ as') (bs ++ bs')
  | _, _, _, _, .nil, s => s
  | _, _, _, _, .cons r t, s => .cons r (All2.app t s)

def REK (G : Gm) (ρ : List Addr) (H : Hp) (p : W × W) (q : Key × V) : Prop := keyK p.1 = some q.1 ∧ RV G ρ H p.2 q.2
def RET (G : Gm) (ρ : List Addr) (H : Hp) (p : W × W) (q : List Key × V) : Prop := keyT p.1 = some q.1 ∧ RV G ρ H p.2 q.2
def REF (G : Gm) (ρ : List Addr) (H : Hp) (p : Str × W) (q : Str × V) : Prop := p.1 = q.1 ∧ RV G ρ H p.2 q.2

/-- an object, at its address -/
def RO (G : Gm) (ρ : List Addr) (H : Hp) (a : Addr) : O → Prop
  | .lst ws => ∃ vs, H a = some (.lst vs) ∧ RVs G ρ H ws vs
  | .dic kvs => (∃ ks, H a = some (.dK ks) ∧ All2 (REK G ρ H) kvs ks) ∨ ∃ ks, H a = some (.dT ks) ∧ All2 (RET G ρ H) kvs ks
  | .ins c fs => ∃ C dx gs, G.g c = some C ∧ H a = some (.ins C dx gs) ∧ H dx = some (.own a) ∧ All2 (REF G ρ H) fs gs

structure Sim (G : Gm) (ρ : List Addr) (st : Store) (H : Hp) : Prop where
  len : ρ.length = st.n
  nd : ρ.Nodup
  ob : ∀ i a, ρ[i]? = some a → ∃ o, st.f i = some o ∧ RO G ρ H a o

/-- what an object says, seen later: the same at its place, more tuples, more names -/
theorem RO.keep {ρ ρ' : List Addr} {H H' : Hp} {a : Addr} {o : O} (hp : ρ <+: ρ') (kt : KT G H H') (h : RO G ρ H a o) (e : ∀ u, H a = some u → H' a = some u)
    (eo : ∀ b, H b = some (.own a) → H' b = some (.own a)) : RO G ρ' H' a o := by
  cases o with
  | lst ws =>
    obtain ⟨vs, h1, h2⟩ := h
    exact ⟨vs, e _ h1, h2.mono hp kt⟩
  | dic kvs =>
    rcases h with ⟨ks, h1, h2⟩ | ⟨ks, h1, h2⟩
    · exact .inl ⟨ks, e _ h1, h2.imp fun p q z => ⟨z.1, z.2.mono hp kt⟩⟩
    · exact .inr ⟨ks, e _ h1, h2.imp fun p q z => ⟨z.1, z.2.mono hp kt⟩⟩
  | ins c fs =>
    obtain ⟨C, dx, gs, h0, h1, h2, h3⟩ := h
    exact ⟨C, dx, gs, h0, e _ h1, eo _ h2, h3.imp fun p q z => ⟨z.1, z.2.mono hp kt⟩⟩
theorem RO.there {ρ : List Addr} {H : Hp} {a : Addr} {o : O} (h : RO G ρ H a o) : ∃ u, H a = some u ∧ Mut (some u) := by
  cases o with
  | lst ws => obtain ⟨vs, h1, _⟩ := h; exact ⟨_, h1, trivial⟩
  | dic kvs => rcases h with ⟨ks, h1, _⟩ | ⟨ks, h1, _⟩ <;> exact ⟨_, h1, trivial⟩
  | ins c fs => obtain ⟨C, dx, gs, _, h1, _⟩ := h; exact ⟨_, h1, trivial⟩
theorem KT.mut {H : Hp} {a : Addr} {o : HO} (h : ∃ u, H a = some u ∧ Mut (some u)) : KT G H (upd H a o) := by
  obtain ⟨u, e, m⟩ := h
  refine KT.wr fun o' e' => ?_
  rw [e] at e'
  cases e'
  constructor
  · rintro xs rfl; exact m
  · rintro ob u' rfl; exact m

section
variable {ρ : List Addr} {st : Store} {H : Hp}
theorem Sim.place (S : Sim G ρ st H) {n : Nat} {o : O} {a : Addr} (e : ρ[n]? = some a) (h : st.f n = some o) : RO G ρ H a o := by
  obtain ⟨o', h1, h2⟩ := S.ob n a e
  rw [h] at h1
  cases h1
  exact h2
theorem Sim.inj (S : Sim G ρ st H) {i j : Nat} {a : Addr} (h : ρ[i]? = some a) (h' : ρ[j]? = some a) : i = j := by
  obtain ⟨x1, e1⟩ := List.getElem?_eq_some_iff.mp h
  obtain ⟨x2, e2⟩ := List.getElem?_eq_some_iff.mp h'
  exact (List.getElem_inj S.nd).mp (e1.trans e2.symm)
/-- H is extended at places that hold nothing of the store -/
theorem Sim.kept (S : Sim G ρ st H) {H' : Hp} (kt : KT G H H') (e : ∀ b u, H b = some u → H' b = some u) : Sim G ρ st H' :=
  ⟨S.len, S.nd, fun i a h => let ⟨o, h1, h2⟩ := S.ob i a h; ⟨o, h1, h2.keep (List.prefix_refl _) kt (fun u q => e _ u q) fun b q => e _ _ q⟩⟩
/-- a new object -/
theorem Sim.add (S : Sim G ρ st H) {p : Addr} {u : HO} {o : O} {H' : Hp} (hp : H p = none) (kt : KT G H H') (e : ∀ b w, H b = some w → H' b = some w) (new : RO G (ρ ++ [p]) H' p o) : Sim G (ρ ++ [p]) (st.add o) H' := by
  have nm : p ∉ ρ := fun hm => by
    obtain ⟨i, hi⟩ := List.getElem?_of_mem hm
    obtain ⟨o', _, h2⟩ := S.ob i p hi
    obtain ⟨u, hu, _⟩ := h2.there
    rw [hp] at hu
    cases hu
  refine ⟨by simp [Store.add, S.len], ?_, fun i a h => ?_⟩
  · rw [List.nodup_append]
    refine ⟨S.nd, by simp, fun x hx y hy => ?_⟩
    have : y = p := by simpa using hy
    subst this
    exact fun z => nm (z ▸ hx)
  · by_cases hi : i < ρ.length
    · rw [List.getElem?_append_left hi] at h
      obtain ⟨o', h1, h2⟩ := S.ob i a h
      refine ⟨o', ?_, h2.keep (List.prefix_append _ _) kt (fun u q => e _ u q) fun b q => e _ _ q⟩
      show (if i = st.n then some o else st.f i) = some o'
      rw [if_neg (by rw [← S.len]; exact Nat.ne_of_lt hi)]
      exact h1
    · rw [List.getElem?_append_right (by omega)] at h
      have hz : i - ρ.length = 0 := by
        by_cases hz : i - ρ.length = 0
        · exact hz
        · rw [List.getElem?_eq_none (by simp; omega)] at h
          cases h
      rw [hz] at h
      have : p = a := by simpa using h
      subst this
      refine ⟨o, ?_, new⟩
      show (if i = st.n then some o else st.f i) = some o
      rw [if_pos (by rw [← S.len]; omega)]
/-- an object is changed in its place -/
theorem Sim.put (S : Sim G ρ st H) {n : Nat} {a : Addr} {u : HO} {o : O} (hn : ρ[n]? = some a) (new : RO G ρ (upd H a u) a o) : Sim G ρ (st.put n o) (upd H a u) := by
  obtain ⟨o0, _, h0⟩ := S.ob n a hn
  obtain ⟨u0, hu0, mu⟩ := h0.there
  have kt : KT G H (upd H a u) := KT.mut ⟨u0, hu0, mu⟩
  refine ⟨S.len, S.nd, fun i b h => ?_⟩
  by_cases hi : i = n
  · subst hi
    rw [hn] at h
    cases h
    exact ⟨o, by simp [Store.put], new⟩
  · obtain ⟨o', h1, h2⟩ := S.ob i b h
    have ne : b ≠ a := fun z => hi (S.inj (z ▸ h) hn)
    refine ⟨o', ?_, h2.keep (List.prefix_refl _) kt (fun w q => by rw [upd_ne ne]; exact q) fun c q => ?_⟩
    · show (if i = n then some o else st.f i) = some o'
      rw [if_neg hi]
      exact h1
    · have : c ≠ a := by
        rintro rfl
        rw [hu0] at q
        cases q
        exact mu
      rw [upd_ne this]
      exact q
end
end
end Q
/-! A2: what is wanted behind a run of the evaluator; its readings. -/
namespace Q
open PySem PySem.Spec PyProof.Rows L2
abbrev St := L2.St

/-- the slots -/
def REnv (G : Gm) (ρ : List Addr) (H : Hp) (e : Env') (σ : St) : Prop := e.length = σ.length ∧ ∀ (i : Nat) (w : W), e[i]? = some (some w) → ∃ v, σ[i]? = some (some v) ∧ RV G ρ H w v
structure Rel (G : Gm) (ρ : List Addr) (e : Env') (st : Store) (σ : St) (H : Hp) : Prop where
  env : REnv G ρ H e σ
  sim : Sim G ρ st H

/-- Ext: later than -/
structure Lat (G : Gm) (ρ : List Addr) (H : Hp) (ρ' : List Addr) (H' : Hp) : Prop where
  pre : ρ <+: ρ'
  kt : KT G H H'
theorem Lat.refl {G : Gm} {ρ : List Addr} {H : Hp} : Lat G ρ H ρ H := ⟨List.prefix_refl _, .refl⟩
theorem Lat.trans {G : Gm} {ρ ρ1 ρ2 : List Addr} {H H1 H2 : Hp} (a : Lat G ρ H ρ1 H1) (b : Lat G ρ1 H1 ρ2 H2) : Lat G ρ H ρ2 H2 := ⟨a.pre.trans b.pre, a.kt.trans b.kt⟩
theorem Lat.rv {G : Gm} {ρ ρ' : List Addr} {H H' : Hp} (l : Lat G ρ H ρ' H') {w : W} {v : V} (h : RV G ρ H w v) : RV G ρ' H' w v := h.mono l.pre l.kt
theorem Lat.rvs {G : Gm} {ρ ρ' : List Addr} {H H' : Hp} (l : Lat G ρ H ρ' H') {w : List W} {v : List V} (h : RVs G ρ H w v) : RVs G ρ' H' w v := h.mono l.pre l.kt
theorem Lat.env {G : Gm} {ρ ρ' : List Addr} {H H' : Hp} (l : Lat G ρ H ρ' H') {e : Env'} {σ : St} (h : REnv G ρ H e σ) : REnv G ρ' H' e σ :=
  ⟨h.1, fun i w q => let ⟨v, h1, h2⟩ := h.2 i w q; ⟨v, h1, l.rv h2⟩⟩

/-- what is wanted of an exception: its class's number, its value, its own dict -/
def ExW (G : Gm) (ρ : List Addr) (H : Hp) (c : Nat) (w : W) (st : Store) (Ex : XK) : Prop :=
  ∀ ρ' H' v C d, Lat G ρ H ρ' H' → Sim G ρ' st H' → RV G ρ' H' w v → G.g c = some C → H' d = some (.xd [(("value" : Str), v)]) → Ex (.ref C) (some d) H'
theorem ExW.mono {G : Gm} {ρ ρ1 : List Addr} {H H1 : Hp} {c : Nat} {w : W} {st : Store} {Ex : XK} (l : Lat G ρ H ρ1 H1) (h : ExW G ρ H c w st Ex) : ExW G ρ1 H1 c w st Ex :=
  fun ρ' H' v C d l' => h ρ' H' v C d (l.trans l')

/-- what is wanted of an answer: R says what of the model's stands for it -/
def Post {α β : Type} (G : Gm) (ρ : List Addr) (H : Hp) (R : List Addr → Hp → α → β → Prop) (r : Res α) (Q : β → Hp → Prop) (Ex : XK) : Prop := match r with
  | .ok a st => ∀ ρ' H' b, Lat G ρ H ρ' H' → Sim G ρ' st H' → R ρ' H' a b → Q b H'
  | .exc c w st => ExW G ρ H c w st Ex
  | .err => False
theorem Post.mono {α β : Type} {G : Gm} {ρ ρ1 : List Addr} {H H1 : Hp} {R : List Addr → Hp → α → β → Prop} {r : Res α} {Q : β → Hp → Prop} {Ex : XK} (l : Lat G ρ H ρ1 H1) (h : Post G ρ H R r Q Ex) : Post G ρ1 H1 R r Q Ex := by
  cases r with
  | ok a st => exact fun ρ' H' b l' => h ρ' H' b (l.trans l')
  | exc c w st => exact ExW.mono l h
  | err => exact h
/-- one thing, then another -/
theorem Post.bind {α β γ δ : Type} {G : Gm} {ρ : List Addr} {H : Hp} {S : List Addr → Hp → α → β → Prop} {R : List Addr → Hp → γ → δ → Prop} {r : Res α} {k : α → Store → Res γ} {Q : δ → Hp → Prop} {Ex : XK} {T : β → Hp → Prop}
    (h : Post G ρ H R (r.bind k) Q Ex) (f : ∀ a st ρ' H' b, Lat G ρ H ρ' H' → Sim G ρ' st H' → S ρ' H' a b → Post G ρ' H' R (k a st) Q Ex → T b H') : Post G ρ H S r T Ex := by
  cases r with
  | ok a st => exact fun ρ' H' b l s q => f a st ρ' H' b l s q (Post.mono l h)
  | exc c w st => exact h
  | err => exact h
theorem Post.ret {α β : Type} {G : Gm} {ρ : List Addr} {H : Hp} {R : List Addr → Hp → α → β → Prop} {a : α} {st : Store} {Q : β → Hp → Prop} {Ex : XK} {b : β} (h : Post G ρ H R (.ok a st) Q Ex) (s : Sim G ρ st H) (r : R ρ H a b) : Q b H := h ρ H b .refl s r

abbrev RB : List Addr → Hp → Bool → Bool → Prop := fun _ _ a b => a = b
abbrev RU : List Addr → Hp → Unit → Unit → Prop := fun _ _ _ _ => True

/-! ### the readings -/
variable (G : Gm) (Wx : WX)
def tI (m : Ev W) : TE := fun σ H Q => ∃ ρ e st, Rel G ρ e st σ H ∧ Post G ρ H (RV G) (m e st) Q fun c d H' => Wx c d σ H'
def tIA (m : Ev (List W)) : TA := fun σ H Q => ∃ ρ e st, Rel G ρ e st σ H ∧ Post G ρ H (RVs G) (m e st) Q fun c d H' => Wx c d σ H'
def tIT (m : Ev Bool) : TT := fun σ H Q => ∃ ρ e st, Rel G ρ e st σ H ∧ Post G ρ H RB (m e st) Q fun c d H' => Wx c d σ H'
/-- a statement's end -/
def PostS (ρ : List Addr) (H : Hp) (r : RS) (D : Ends) : Prop := match r with
  | .nx e st => ∀ ρ' H' σ', Lat G ρ H ρ' H' → Rel G ρ' e st σ' H' → D.nx σ' H'
  | .ret w st => ∀ ρ' H' v, Lat G ρ H ρ' H' → Sim G ρ' st H' → RV G ρ' H' w v → D.rt v H'
  | .bk e st => ∀ ρ' H' σ', Lat G ρ H ρ' H' → Rel G ρ' e st σ' H' → D.bk σ' H'
  | .ct e st => ∀ ρ' H' σ', Lat G ρ H ρ' H' → Rel G ρ' e st σ' H' → D.ct σ' H'
  | .exc c w e st => ∀ ρ' H' σ' v C d, Lat G ρ H ρ' H' → Rel G ρ' e st σ' H' → RV G ρ' H' w v → G.g c = some C → H' d = some (.xd [(("value" : Str), v)]) → Wx (.ref C) (some d) σ' H'
  | .err => False
def tIS (m : Sv) : TS := fun D σ H => ∃ ρ e st, Rel G ρ e st σ H ∧ PostS G Wx ρ H (m e st) D
variable {G Wx}
theorem PostS.mono {ρ ρ1 : List Addr} {H H1 : Hp} {r : RS} {D : Ends} (l : Lat G ρ H ρ1 H1) (h : PostS G Wx ρ H r D) : PostS G Wx ρ1 H1 r D := by
  cases r with
  | nx e st => exact fun ρ' H' σ' l' => h ρ' H' σ' (l.trans l')
  | ret w st => exact fun ρ' H' v l' => h ρ' H' v (l.trans l')
  | bk e st => exact fun ρ' H' σ' l' => h ρ' H' σ' (l.trans l')
  | ct e st => exact fun ρ' H' σ' l' => h ρ' H' σ' (l.trans l')
  | exc c w e st => exact fun ρ' H' σ' v C d l' => h ρ' H' σ' v C d (l.trans l')
  | err => exact h
/-- an expression's answer in a statement -/
def Res.bindS {α : Type} (r : Res α) (e : Env') (k : α → Store → RS) : RS := match r with
  | .ok a s => k a s
  | .exc c v s => .exc c v e s
  | .err => .err
theorem PostS.bind {α β : Type} {ρ : List Addr} {H : Hp} {S : List Addr → Hp → α → β → Prop} {r : Res α} {e : Env'} {k : α → Store → RS} {D : Ends} {σ : St} {T : β → Hp → Prop} (re : REnv G ρ H e σ) (h : PostS G Wx ρ H (r.bindS e k) D)
    (f : ∀ a st ρ' H' b, Lat G ρ H ρ' H' → Rel G ρ' e st σ H' → S ρ' H' a b → PostS G Wx ρ' H' (k a st) D → T b H') : Post G ρ H S r T fun c d H' => Wx c d σ H' := by
  cases r with
  | ok a st => exact fun ρ' H' b l s q => f a st ρ' H' b l ⟨l.env re, s⟩ q (PostS.mono l h)
  | exc c w st => exact fun ρ' H' v C d l s rv gc hd => h ρ' H' σ v C d l ⟨l.env re, s⟩ rv gc hd
  | err => exact h

/-! ### weaker readings -/
theorem peM {X : Cx} {e : Expr} {t t' : TE} (h : PE X e t) (f : ∀ σ H Q, t' σ H Q → t σ H Q) : PE X e t' := ⟨fun pins s σ H Q I q => h.run pins s σ H Q I (f σ H Q q)⟩
theorem paM {X : Cx} {e : List Expr} {t t' : TA} (h : PA X e t) (f : ∀ σ H Q, t' σ H Q → t σ H Q) : PA X e t' := ⟨fun p pins s σ H Q I q => h.run p pins s σ H Q I (f σ H Q q)⟩
theorem ptM {X : Cx} {e : Expr} {t t' : TT} (h : PT X e t) (f : ∀ σ H Q, t' σ H Q → t σ H Q) : PT X e t' := ⟨fun pins s σ H Q I q => h.run pins s σ H Q I (f σ H Q q)⟩
theorem pwM {X : Cx} {e : Expr} {t t' : TT} (h : PW X e t) (f : ∀ σ H Q, t' σ H Q → t σ H Q) : PW X e t' := ⟨fun wh pins s σ H Q I q => h.run wh pins s σ H Q I (f σ H Q q)⟩
theorem psM {X : Cx} {e : Stmt} {t t' : TS} (h : PS X e t) (f : ∀ D σ H, t' D σ H → t D σ H) : PS X e t' := ⟨fun pins s σ H D I q => h.run pins s σ H D I (f D σ H q)⟩
theorem pssM {X : Cx} {e : List Stmt} {t t' : TS} (h : PSs X e t) (f : ∀ D σ H, t' D σ H → t D σ H) : PSs X e t' := ⟨fun pins s σ H D I q => h.run pins s σ H D I (f D σ H q)⟩

/-! ### combinators -/
def eErr {α : Type} : Ev α := fun _ _ => .err
def eC (w : W) : Ev W := fun _ s => .ok w s
def eVar (i : Nat) : Ev W := fun e s => match e[i]? with
  | some (some w) => .ok w s
  | _ => .err
def eBind {α β : Type} (m : Ev α) (k : α → Ev β) : Ev β := fun e s => (m e s).bind fun a s' => k a e s'
def eOp1 (f : W → Store → Res W) (a : Ev W) : Ev W := fun e s => (a e s).bind fun x s1 => f x s1
def eOp2 (f : W → W → Store → Res W) (a b : Ev W) : Ev W := fun e s => (a e s).bind fun x s1 => (b e s1).bind fun y s2 => f x y s2
def eNil : Ev (List W) := fun _ s => .ok [] s
def eCons (a : Ev W) (r : Ev (List W)) : Ev (List W) := fun e s => (a e s).bind fun x s1 => (r e s1).bind fun xs s2 => .ok (x :: xs) s2

section
variable {X : Cx} {K' : PySem.W.Frag}
theorem si_c {e : Expr} {w : W} {v : V} (h : PE X e (tC v)) (r : ∀ ρ H, RV G ρ H w v) : PE X e (tI G Wx (eC w)) :=
  peM h fun σ H Q ⟨ρ, e, st, R, p⟩ => p ρ H v .refl R.sim (r _ _)
theorem si_err {e : Expr} : PE X e (tI G Wx eErr) := ⟨fun pins s σ H Q I ⟨_, _, _, _, p⟩ => p.elim⟩
theorem si_var {e : Expr} {i : Nat} (h : PE X e (tVar i)) : PE X e (tI G Wx (eVar i)) := peM h fun σ H Q ⟨ρ, e, st, R, p⟩ => by
  unfold eVar at p
  cases q : e[i]? with
  | none => rw [q] at p; exact p.elim
  | some o =>
    cases o with
    | none => rw [q] at p; exact p.elim
    | some w =>
      rw [q] at p
      obtain ⟨v, h1, h2⟩ := R.env.2 i w q
      exact ⟨v, h1, p ρ H v .refl R.sim h2⟩
/-- a value-level operation, by its rule -/
def Op2Ok (K : Gm) (f : W → W → Store → Res W) (r : R2) : Prop := ∀ ρ H st x y v u Q Ex, Sim K ρ st H → RV K ρ H x v → RV K ρ H y u → Post K ρ H (RV K) (f x y st) Q Ex → r v u H Q
def Op1Ok (K : Gm) (f : W → Store → Res W) (r : V → Hp → VK → Prop) : Prop := ∀ ρ H st x v Q Ex, Sim K ρ st H → RV K ρ H x v → Post K ρ H (RV K) (f x st) Q Ex → r v H Q
theorem tI_op2 {f : W → W → Store → Res W} {r : R2} {ma mb : Ev W} (ok : Op2Ok G f r) : ∀ σ H Q, tI G Wx (eOp2 f ma mb) σ H Q → tOp r (tI G Wx ma) (tI G Wx mb) σ H Q := by
  rintro σ H Q ⟨ρ, e, st, R, p⟩
  refine ⟨ρ, e, st, R, Post.bind p fun x s1 ρ1 H1 v l1 S1 r1 p1 => ?_⟩
  refine ⟨ρ1, e, s1, ⟨l1.env R.env, S1⟩, Post.bind p1 fun y s2 ρ2 H2 u l2 S2 r2 p2 => ?_⟩
  exact ok ρ2 H2 s2 x y v u Q _ S2 (l2.rv r1) r2 p2
theorem tI_op1 {f : W → Store → Res W} {r : V → Hp → VK → Prop} {ma : Ev W} (ok : Op1Ok G f r) : ∀ σ H Q, tI G Wx (eOp1 f ma) σ H Q → tUn r (tI G Wx ma) σ H Q := by
  rintro σ H Q ⟨ρ, e, st, R, p⟩
  exact ⟨ρ, e, st, R, Post.bind p fun x s1 ρ1 H1 v l1 S1 r1 p1 => ok ρ1 H1 s1 x v Q _ S1 r1 p1⟩
theorem si_nil : PA X [] (tIA G Wx eNil) := paM pa_nil fun σ H Q ⟨ρ, e, st, R, p⟩ => p ρ H [] .refl R.sim .nil
theorem si_cons {e : Expr} {es : List Expr} {ma : Ev W} {mr : Ev (List W)} (ha : PE X e (tI G Wx ma)) (hr : PA X es (tIA G Wx mr)) (hs : starEach (e :: es) X.env = (false, eval e X.env) :: starEach es X.env) : PA X (e :: es) (tIA G Wx (eCons ma mr)) := by
  refine paM (pa_cons ha hr hs) ?_
  rintro σ H Q ⟨ρ, e, st, R, p⟩
  refine ⟨ρ, e, st, R, Post.bind p fun x s1 ρ1 H1 v l1 S1 r1 p1 => ?_⟩
  refine ⟨ρ1, e, s1, ⟨l1.env R.env, S1⟩, Post.bind p1 fun y s2 ρ2 H2 u l2 S2 r2 p2 => ?_⟩
  exact p2 ρ2 H2 _ .refl S2 (.cons (l2.rv r1) r2)
end
end Q
/-! A3: operators and comparisons on values. -/
namespace Q
open PySem PySem.Spec PyProof.Rows L2
variable {G : Gm} {Wx : WX}

/-! ### new objects -/
section
variable {ρ : List Addr} {st : Store} {H : Hp} {p a : Addr}
theorem tup_new {ws : List W} {vs : List V} (S : Sim G ρ st H) (hp : H p = none) (r : RVs G ρ H ws vs) : Lat G ρ H ρ (upd H p (.tup vs)) ∧ Sim G ρ st (upd H p (.tup vs)) ∧ RV G ρ (upd H p (.tup vs)) (.tup ws) (.ref p) :=
  have kt : KT G H (upd H p (.tup vs)) := KT.new hp
  ⟨⟨List.prefix_refl _, kt⟩, S.kept kt fun b u e => by rw [upd_ne (ne_of_none e hp)]; exact e, .tup upd_same (r.mono (List.prefix_refl _) kt)⟩
theorem Sim.at_new (S : Sim G ρ st H) {p : Addr} : (ρ ++ [p])[st.n]? = some p := by
  rw [← S.len, List.getElem?_append_right (Nat.le_refl _)]
  simp
theorem lst_new {ws : List W} {vs : List V} (S : Sim G ρ st H) (hp : H p = none) (r : RVs G ρ H ws vs) : Lat G ρ H (ρ ++ [p]) (upd H p (.lst vs)) ∧ Sim G (ρ ++ [p]) (st.add (.lst ws)) (upd H p (.lst vs)) ∧ RV G (ρ ++ [p]) (upd H p (.lst vs)) (.ref st.n) (.ref p) :=
  have kt : KT G H (upd H p (.lst vs)) := KT.new hp
  ⟨⟨List.prefix_append _ _, kt⟩, S.add (u := .lst vs) hp kt (fun b u e => by rw [upd_ne (ne_of_none e hp)]; exact e) ⟨vs, upd_same, r.mono (List.prefix_append _ _) kt⟩, .ref S.at_new⟩
theorem lst_put {ws : List W} {vs vs0 : List V} {n : Nat} (S : Sim G ρ st H) (hn : ρ[n]? = some a) (h0 : H a = some (.lst vs0)) (r : RVs G ρ H ws vs) : Lat G ρ H ρ (upd H a (.lst vs)) ∧ Sim G ρ (st.put n (.lst ws)) (upd H a (.lst vs)) :=
  have kt : KT G H (upd H a (.lst vs)) := KT.mut ⟨_, h0, trivial⟩
  ⟨⟨List.prefix_refl _, kt⟩, S.put hn ⟨vs, upd_same, r.mono (List.prefix_refl _) kt⟩⟩
/-- a list of the store -/
theorem Sim.lst (S : Sim G ρ st H) {n : Nat} {v : V} {ws : List W} (r : RV G ρ H (.ref n) v) (h : st.f n = some (.lst ws)) : ∃ a vs, v = .ref a ∧ ρ[n]? = some a ∧ H a = some (.lst vs) ∧ RVs G ρ H ws vs := by
  cases r with
  | ref e =>
    obtain ⟨vs, h1, h2⟩ := S.place e h
    exact ⟨_, vs, rfl, e, h1, h2⟩
theorem RV.tup_inv {ws : List W} {v : V} (r : RV G ρ H (.tup ws) v) : ∃ a vs, v = .ref a ∧ SqT G.K H a vs ∧ RVs G ρ H ws vs := by
  cases r with
  | tup h1 h2 => exact ⟨_, _, rfl, SqT.of h1, h2⟩
  | ktup h1 _ h2 => exact ⟨_, _, rfl, h1, h2⟩
theorem RV.int_inv {i : Int} {v : V} (r : RV G ρ H (.int i) v) : v = .int i := by cases r; rfl
theorem RV.str_inv {i : Str} {v : V} (r : RV G ρ H (.str i) v) : v = .str i := by cases r; rfl
theorem RV.bl_inv {i : Bool} {v : V} (r : RV G ρ H (.bl i) v) : v = .bl i := by cases r; rfl
theorem RV.non_inv {v : V} (r : RV G ρ H .non v) : v = .non := by cases r; rfl
end

def LIM : Nat := 16777216
theorem lim_eq : sizeLine = LIM := sizeLine_eq

/-! ### + -/
def vAdd : W → W → Store → Res W
  | .int i, .int j, s => .ok (.int (i + j)) s
  | .str x, .str y, s => if x.length + y.length ≤ LIM then .ok (.str (x ++ y)) s else .err
  | .tup xs, .tup ys, s => if xs.length + ys.length ≤ LIM then .ok (.tup (xs ++ ys)) s else .err
  | .ref a, .ref b, s => match s.f a, s.f b with
    | some (.lst xs), some (.lst ys) => if xs.length + ys.length ≤ LIM then .ok (.ref s.n) (s.add (.lst (xs ++ ys))) else .err
    | _, _ => .err
  | _, _, _ => .err
abbrev rAddV (K : PySem.W.Frag) : R2 := fun x y H Q => rI0 (fun i j => .int (i + j)) x y H Q ∨ (∃ i j, x = .str i ∧ y = .str j ∧ i.length + j.length ≤ sizeLine ∧ Q (.str (i ++ j)) H) ∨ rCatA K x y H Q ∨ rCat x y H Q
theorem op_addV {X : Cx} : OpR X (binaryOp .Add) (rAddV X.K) := op_add.or (op_add_str.or (op_catA.or op_cat))
theorem ok_add : Op2Ok G vAdd (rAddV G.K) := by
  intro ρ H st x y v u Q Ex S rx ry p
  unfold vAdd at p
  split at p
  · cases rx; cases ry
    exact .inl ⟨_, _, rfl, rfl, p.ret S (.int _)⟩
  · cases rx; cases ry
    split at p
    · rename_i h
      exact .inr (.inl ⟨_, _, rfl, rfl, by rw [lim_eq]; exact h, p.ret S (.str _)⟩)
    · exact p.elim
  · obtain ⟨a, xs, rfl, hx, rxs⟩ := rx.tup_inv
    obtain ⟨b, ys, rfl, hy, rys⟩ := ry.tup_inv
    split at p
    · rename_i h
      rw [rxs.length, rys.length] at h
      refine .inr (.inr (.inl ⟨a, b, xs, ys, rfl, rfl, hx, hy, by rw [lim_eq]; exact h, fun e => ?_, fun e1 e2 => ?_, fun _ _ q hq => ?_⟩))
      · subst e
        cases rxs
        exact p.ret S ry
      · subst e2
        cases rys
        rw [List.append_nil] at p
        exact p.ret S rx
      · obtain ⟨l, S', r⟩ := tup_new S hq (rxs.app rys)
        exact p _ _ _ l S' r
    · exact p.elim
  · split at p
    · rename_i h1 h2
      obtain ⟨a, xs, rfl, ea, hx, rxs⟩ := S.lst rx h1
      obtain ⟨b, ys, rfl, eb, hy, rys⟩ := S.lst ry h2
      split at p
      · rename_i h
        rw [rxs.length, rys.length] at h
        refine .inr (.inr (.inr ⟨a, b, xs, ys, rfl, rfl, hx, hy, by rw [lim_eq]; exact h, fun q hq => ?_⟩))
        obtain ⟨l, S', r⟩ := lst_new S hq (rxs.app rys)
        exact p _ _ _ l S' r
      · exact p.elim
    · exact p.elim
  · exact p.elim

/-! ### - * // % ** -/
def vSub : W → W → Store → Res W
  | .int i, .int j, s => .ok (.int (i - j)) s
  | _, _, _ => .err
theorem ok_sub : Op2Ok G vSub (rI0 fun i j => .int (i - j)) := by
  intro ρ H st x y v u Q Ex S rx ry p
  unfold vSub at p
  split at p
  · cases rx; cases ry
    exact ⟨_, _, rfl, rfl, p.ret S (.int _)⟩
  · exact p.elim
def ix63 (i : Int) : Bool := Nat.ble i.natAbs 9223372036854775807
theorem ix63_ok {i : Int} (h : ix63 i = true) : -(2 ^ 63) ≤ i ∧ i < 2 ^ 63 := by
  have := Nat.le_of_ble_eq_true h
  omega
def small64 (i : Int) : Bool := decide (i.natAbs < 18446744073709551616)
theorem cmul_of {i j : Int} (h : (small64 i || small64 j) = true) : CMul i j := by
  rw [Bool.or_eq_true] at h
  rcases h with h | h
  · have := of_decide_eq_true h
    exact .inl (by omega)
  · have := of_decide_eq_true h
    exact .inr (by omega)
def rept {α : Type} (k : Nat) (xs : List α) : List α := (List.replicate k xs).flatten
def vMul : W → W → Store → Res W
  | .int i, .int j, s => if small64 i || small64 j then .ok (.int (i * j)) s else .err
  | .ref a, .int k, s => match s.f a with
    | some (.lst xs) => if ix63 k = true ∧ xs.length * k.toNat ≤ LIM then .ok (.ref s.n) (s.add (.lst (rept k.toNat xs))) else .err
    | _ => .err
  | .tup xs, .int k, s => if xs ≠ [] ∧ 2 ≤ k ∧ k ≤ 1000 ∧ xs.length ≤ 1000 then .ok (.tup (rept k.toNat xs)) s else .err
  | _, _, _ => .err
abbrev rMulV (K : PySem.W.Frag) : R2 := fun x y H Q => rI CMul (fun i j => .int (i * j)) x y H Q ∨ rRep x y H Q ∨ rRepT K x y H Q
theorem op_mulV {X : Cx} : OpR X (binaryOp .Mult) (rMulV X.K) := op_mul.or (op_rep.or op_repT)
theorem RVs.rept {ρ : List Addr} {H : Hp} {ws : List W} {vs : List V} (r : RVs G ρ H ws vs) : ∀ k : Nat, RVs G ρ H (Q.rept k ws) (Q.rept k vs)
  | 0 => .nil
  | k + 1 => by
    have ih := RVs.rept r k
    unfold Q.rept at ih ⊢
    rw [List.replicate_succ, List.flatten_cons, List.replicate_succ, List.flatten_cons]
    exact r.app ih
theorem ok_mul : Op2Ok G vMul (rMulV G.K) := by
  intro ρ H st x y v u Q Ex S rx ry p
  unfold vMul at p
  split at p
  · cases rx; cases ry
    split at p
    · rename_i h
      refine .inl ⟨_, _, rfl, rfl, cmul_of h, p.ret S (.int _)⟩
    · exact p.elim
  · cases ry
    split at p
    · rename_i h1
      obtain ⟨a, xs, rfl, ea, hx, rxs⟩ := S.lst rx h1
      split at p
      · rename_i h
        rw [rxs.length] at h
        refine .inr (.inl ⟨a, _, xs, rfl, rfl, hx, (ix63_ok h.1).1, (ix63_ok h.1).2, by rw [lim_eq]; exact h.2, fun q hq => ?_⟩)
        obtain ⟨l, S', r⟩ := lst_new S hq (rxs.rept _)
        exact p _ _ _ l S' r
      · exact p.elim
    · exact p.elim
  · cases ry
    obtain ⟨a, xs, rfl, hx, rxs⟩ := rx.tup_inv
    split at p
    · rename_i h
      rw [rxs.length] at h
      refine .inr (.inr ⟨a, _, xs, rfl, rfl, hx, fun e => ?_, h.2.1, h.2.2.1, h.2.2.2, fun q hq => ?_⟩)
      · subst e
        cases rxs
        exact h.1 rfl
      · obtain ⟨l, S', r⟩ := tup_new S hq (rxs.rept _)
        exact p _ _ _ l S' r
    · exact p.elim
  · exact p.elim
def vDiv : W → W → Store → Res W
  | .int i, .int j, s => if 0 < j ∧ j.natAbs.log2 < 9000 then .ok (.int (i / j)) s else .err
  | _, _, _ => .err
theorem ok_div : Op2Ok G vDiv (rI CDivW fun i j => .int (i / j)) := by
  intro ρ H st x y v u Q Ex S rx ry p
  unfold vDiv at p
  split at p
  · cases rx; cases ry
    split at p
    · rename_i h
      exact ⟨_, _, rfl, rfl, h, p.ret S (.int _)⟩
    · exact p.elim
  · exact p.elim
def vMod : W → W → Store → Res W
  | .int i, .int j, s => if 0 < j then .ok (.int (i % j)) s else .err
  | _, _, _ => .err
theorem ok_mod : Op2Ok G vMod (rI (fun _ j => 0 < j) fun i j => .int (i % j)) := by
  intro ρ H st x y v u Q Ex S rx ry p
  unfold vMod at p
  split at p
  · cases rx; cases ry
    split at p
    · rename_i h
      exact ⟨_, _, rfl, rfl, h, p.ret S (.int _)⟩
    · exact p.elim
  · exact p.elim
def CPowW (i j : Int) : Prop := 0 ≤ j ∧ ((i.natAbs.log2 + 1 : Nat) : Int) * j ≤ 134217728
/-- asked over Nat: the kernel compares Ints with large figures one by one -/
def powB (i j : Int) : Bool := match j with
  | .ofNat n => Nat.ble ((i.natAbs.log2 + 1) * n) 134217728
  | _ => false
theorem powB_ok {i j : Int} (h : powB i j = true) : CPowW i j := by
  cases j with
  | ofNat n =>
    have := Nat.le_of_ble_eq_true h
    refine ⟨Int.natCast_nonneg n, ?_⟩
    show ((i.natAbs.log2 + 1 : Nat) : Int) * (n : Int) ≤ 134217728
    have h2 : (((i.natAbs.log2 + 1) * n : Nat) : Int) ≤ ((134217728 : Nat) : Int) := Int.ofNat_le.mpr this
    rw [Int.natCast_mul] at h2
    exact h2
  | negSucc n => cases h
theorem op_powW {X : Cx} : OpR X (binaryOp .Pow) (rI CPowW fun i j => .int (i ^ j.toNat)) := opI fun i j _ _ _ _ _ hc q => by
  refine pow_int hc.1 ?_ q
  have b : Builtin.Int.intBits i ≤ i.natAbs.log2 + 1 := by
    unfold Builtin.Int.intBits
    split <;> omega
  have h2 := hc.2
  have h1 := hc.1
  have : (Builtin.Int.intBits i : Int) * j ≤ ((i.natAbs.log2 + 1 : Nat) : Int) * j := Int.mul_le_mul_of_nonneg_right (by exact_mod_cast b) h1
  omega
def vPow : W → W → Store → Res W
  | .int i, .int j, s => if powB i j = true then .ok (.int (i ^ j.toNat)) s else .err
  | _, _, _ => .err
theorem ok_pow : Op2Ok G vPow (rI CPowW fun i j => .int (i ^ j.toNat)) := by
  intro ρ H st x y v u Q Ex S rx ry p
  unfold vPow at p
  split at p
  · cases rx; cases ry
    split at p
    · rename_i h
      exact ⟨_, _, rfl, rfl, powB_ok h, p.ret S (.int _)⟩
    · exact p.elim
  · exact p.elim
def vNeg : W → Store → Res W
  | .int i, s => .ok (.int (-i)) s
  | _, _ => .err
theorem ok_neg : Op1Ok G vNeg (rU fun i => .int (-i)) := by
  intro ρ H st x v Q Ex S rx p
  unfold vNeg at p
  split at p
  · cases rx
    exact ⟨_, rfl, p.ret S (.int _)⟩
  · exact p.elim

/-! ### comparisons -/
def vCmpI (f : Int → Int → Bool) : W → W → Store → Res W
  | .int i, .int j, s => .ok (.bl (f i j)) s
  | _, _, _ => .err
theorem ok_cmpI {f : Int → Int → Bool} : Op2Ok G (vCmpI f) (rI0 fun i j => .bl (f i j)) := by
  intro ρ H st x y v u Q Ex S rx ry p
  unfold vCmpI at p
  split at p
  · cases rx; cases ry
    exact ⟨_, _, rfl, rfl, p.ret S (.bl _)⟩
  · exact p.elim
def vIsN (neg : Bool) : W → W → Store → Res W
  | x, .non, s => match x with
    | .non => .ok (.bl (!neg)) s
    | _ => .ok (.bl neg) s
  | _, _, _ => .err
theorem ok_isN : Op2Ok G (vIsN false) (fun x y H Q => y = .non ∧ Q (.bl (decide (x = .non))) H) := by
  intro ρ H st x y v u Q Ex S rx ry p
  unfold vIsN at p
  split at p
  · cases ry
    refine ⟨rfl, ?_⟩
    cases rx <;> exact p.ret S (.bl _)
  · exact p.elim
theorem ok_notN : Op2Ok G (vIsN true) (fun x y H Q => y = .non ∧ Q (.bl (!decide (x = .non))) H) := by
  intro ρ H st x y v u Q Ex S rx ry p
  unfold vIsN at p
  split at p
  · cases ry
    refine ⟨rfl, ?_⟩
    cases rx <;> exact p.ret S (.bl _)
  · exact p.elim

/-! ### data -/
mutual
def dat (s : Store) : Nat → W → Option PyData
  | 0, _ => none
  | k + 1, w => match w with
    | .non => some .none
    | .bl b => some (.bool b)
    | .int i => some (.int i)
    | .str x => some (.str x)
    | .tup ws => (dats s k ws).map .tuple
    | .ref n => match s.f n with
      | some (.lst ws) => (dats s k ws).map .list
      | _ => none
    | _ => none
def dats (s : Store) : Nat → List W → Option (List PyData)
  | 0, _ => none
  | _ + 1, [] => some []
  | k + 1, w :: r => match dat s k w, dats s k r with
    | some d, some ds => some (d :: ds)
    | _, _ => none
end
section
variable {ρ : List Addr} {st : Store} {H : Hp}
mutual
theorem dat_ok (S : Sim G ρ st H) : ∀ (k : Nat) {w : W} {v : V} {d : PyData}, dat st k w = some d → RV G ρ H w v → Dp G.K H v d
  | 0, _, _, _, e, _ => by simp [dat] at e
  | k + 1, w, v, d, e, r => by
    cases w with
    | non => cases r; simp [dat] at e; subst e; exact .non
    | bl b => cases r; simp [dat] at e; subst e; exact .bl _
    | int b => cases r; simp [dat] at e; subst e; exact .int _
    | str b => cases r; simp [dat] at e; subst e; exact .str _
    | tup ws =>
      obtain ⟨a, vs, rfl, h, rs⟩ := r.tup_inv
      simp only [dat, Option.map_eq_some_iff] at e
      obtain ⟨ds, e, rfl⟩ := e
      exact .tup h (dats_ok S k e rs)
    | ref n =>
      cases q : st.f n with
      | none => simp [dat, q] at e
      | some o =>
        cases o with
        | lst ws =>
          obtain ⟨a, vs, rfl, ea, h, rs⟩ := S.lst r q
          simp only [dat, q, Option.map_eq_some_iff] at e
          obtain ⟨ds, e, rfl⟩ := e
          exact .lst (SqL.of h) (dats_ok S k e rs)
        | dic kvs => simp [dat, q] at e
        | ins c fs => simp [dat, q] at e
    | glb i => simp [dat] at e
    | ty n => simp [dat] at e
    | fl n => simp [dat] at e
theorem dats_ok (S : Sim G ρ st H) : ∀ (k : Nat) {ws : List W} {vs : List V} {ds : List PyData}, dats st k ws = some ds → RVs G ρ H ws vs → DpAll G.K H vs ds
  | 0, _, _, _, e, _ => by simp [dats] at e
  | k + 1, [], _, ds, e, r => by
    cases r
    simp [dats] at e
    subst e
    exact .nil
  | k + 1, w :: ws, _, ds, e, r => by
    cases r with
    | cons r1 r2 =>
      simp only [dats] at e
      cases h1 : dat st k w with
      | none => simp [h1] at e
      | some d =>
        cases h2 : dats st k ws with
        | none => simp [h1, h2] at e
        | some ds' =>
          simp [h1, h2] at e
          subst e
          exact .cons (dat_ok S k h1 r1) (dats_ok S k h2 r2)
end
end
def eqF : W → W → Option Bool
  | .int i, .int j => some (i == j)
  | .str i, .str j => some (decide (i = j))
  | .bl i, .bl j => some (i == j)
  | .non, .non => some true
  | .non, .int _ => some false
  | .int _, .non => some false
  | .non, .str _ => some false
  | .str _, .non => some false
  | .int _, .str _ => some false
  | .str _, .int _ => some false
  | _, _ => none
theorem eqF_ok {ρ : List Addr} {H : Hp} {x y : W} {v u : V} {b : Bool} (e : eqF x y = some b) (rx : RV G ρ H x v) (ry : RV G ρ H y u) : scal v u = true ∧ decide (v = u) = b := by
  unfold eqF at e
  split at e <;> cases e <;> cases rx <;> cases ry <;> refine ⟨rfl, ?_⟩ <;> simp [Bool.beq_eq_decide_eq]
def vEq (neg : Bool) (x y : W) (s : Store) : Res W := match eqF x y with
  | some b => .ok (.bl (if neg then !b else b)) s
  | none => match dat s 200 x, dat s 200 y with
    | some d, some e => if SeqAt.shaped d && SeqAt.shaped e then .ok (.bl (if neg then !PyData.eqv d e else PyData.eqv d e)) s else .err
    | _, _ => .err
abbrev rEqV' (K : PySem.W.Frag) : R2 := fun x y H Q => rEq x y H Q ∨ rEqD K x y H Q
abbrev rNeV' (K : PySem.W.Frag) : R2 := fun x y H Q => rNe x y H Q ∨ rNeD K x y H Q
theorem ok_eq : Op2Ok G (vEq false) (rEqV' G.K) := by
  intro ρ H st x y v u Q Ex S rx ry p
  unfold vEq at p
  split at p
  · rename_i b e
    obtain ⟨h1, h2⟩ := eqF_ok e rx ry
    refine .inl ⟨h1, ?_⟩
    rw [h2]
    exact p.ret S (.bl _)
  · split at p
    · rename_i d e h1 h2
      split at p
      · rename_i hs
        rw [Bool.and_eq_true] at hs
        exact .inr ⟨d, e, dat_ok S _ h1 rx, dat_ok S _ h2 ry, hs.1, hs.2, p.ret S (.bl _)⟩
      · exact p.elim
    · exact p.elim
theorem ok_ne : Op2Ok G (vEq true) (rNeV' G.K) := by
  intro ρ H st x y v u Q Ex S rx ry p
  unfold vEq at p
  split at p
  · rename_i b e
    obtain ⟨h1, h2⟩ := eqF_ok e rx ry
    refine .inl ⟨h1, ?_⟩
    rw [h2]
    exact p.ret S (.bl _)
  · split at p
    · rename_i d e h1 h2
      split at p
      · rename_i hs
        rw [Bool.and_eq_true] at hs
        exact .inr ⟨d, e, dat_ok S _ h1 rx, dat_ok S _ h2 ry, hs.1, hs.2, p.ret S (.bl _)⟩
      · exact p.elim
    · exact p.elim

/-! ### in -/
def flatW : W → Bool
  | .non => true
  | .bl _ => true
  | .int _ => true
  | .str _ => true
  | _ => false
def eqW : W → W → Bool
  | .non, .non => true
  | .bl a, .bl b => a == b
  | .bl a, .int b => (if a then 1 else 0) == b
  | .int a, .bl b => a == (if b then 1 else 0)
  | .int a, .int b => a == b
  | .str a, .str b => a == b
  | _, _ => false
theorem flat_ok {ρ : List Addr} {H : Hp} {x : W} {v : V} (e : flatW x = true) (rx : RV G ρ H x v) : flatV v = true := by
  cases rx <;> first | rfl | cases e
theorem eqW_ok {ρ : List Addr} {H : Hp} {x y : W} {v u : V} (e : flatW x = true) (e2 : flatW y = true) (rx : RV G ρ H x v) (ry : RV G ρ H y u) : eqV v u = eqW x y := by
  cases rx <;> first | (cases ry <;> first | rfl | cases e2) | cases e
theorem flats_ok {ρ : List Addr} {H : Hp} : ∀ {xs : List W} {vs : List V}, xs.all flatW = true → RVs G ρ H xs vs → vs.all flatV = true
  | [], _, _, .nil => rfl
  | x :: xs, _, e, .cons r t => by
    rw [List.all_cons, Bool.and_eq_true] at e
    rw [List.all_cons, Bool.and_eq_true]
    exact ⟨flat_ok e.1 r, flats_ok e.2 t⟩
def inW (x : W) (xs : List W) : Bool := xs.any fun y => eqW y x
theorem inW_ok {ρ : List Addr} {H : Hp} {x : W} {v : V} (e : flatW x = true) (rx : RV G ρ H x v) : ∀ {xs : List W} {vs : List V}, xs.all flatW = true → RVs G ρ H xs vs → inV v vs = inW x xs
  | [], _, _, .nil => rfl
  | y :: xs, _, e2, .cons r t => by
    rw [List.all_cons, Bool.and_eq_true] at e2
    unfold inV inW
    rw [List.any_cons, List.any_cons, eqW_ok e2.1 e r rx]
    have ih := inW_ok e rx e2.2 t
    unfold inV inW at ih
    rw [ih]
end Q
/-! A4: in, subscripts, slices, displays, built-ins by values. -/
namespace Q
open PySem PySem.Spec PyProof.Rows L2
variable {G : Gm} {Wx : WX}

/-! ### in -/
def vIn (neg : Bool) : W → W → Store → Res W
  | x, .tup ys, s => if flatW x && ys.all flatW then .ok (.bl (if neg then !inW x ys else inW x ys)) s else .err
  | x, .ref n, s => match s.f n with
    | some (.lst ys) => if flatW x && ys.all flatW then .ok (.bl (if neg then !inW x ys else inW x ys)) s else .err
    | _ => .err
  | .str x, .str y, s => .ok (.bl (if neg then !(!(Builtin.Str.occurrences y x 0 y.length 1).isEmpty) else !(Builtin.Str.occurrences y x 0 y.length 1).isEmpty)) s
  | _, _, _ => .err
abbrev rInV (K : PySem.W.Frag) : R2 := fun x y H Q => rIn K false x y H Q ∨ ∃ i j, x = .str i ∧ y = .str j ∧ Q (.bl (!(Builtin.Str.occurrences j i 0 j.length 1).isEmpty)) H
abbrev rNotInV (K : PySem.W.Frag) : R2 := fun x y H Q => rIn K true x y H Q ∨ ∃ i j, x = .str i ∧ y = .str j ∧ Q (.bl (!(!(Builtin.Str.occurrences j i 0 j.length 1).isEmpty))) H
theorem op_inV {X : Cx} : OpR X (compareOp .In) (rInV X.K) := op_in_seq.or op_in_str
theorem op_notInV {X : Cx} : OpR X (compareOp .NotIn) (rNotInV X.K) := op_notIn_seq.or op_notIn_str
theorem ok_in : Op2Ok G (vIn false) (rInV G.K) := by
  intro ρ H st x y v u Q Ex S rx ry p
  unfold vIn at p
  split at p
  · obtain ⟨b, ys, rfl, hy, rys⟩ := ry.tup_inv
    split at p
    · rename_i h
      rw [Bool.and_eq_true] at h
      exact .inl ⟨b, ys, rfl, .inr hy, flat_ok h.1 rx, flats_ok h.2 rys, by rw [inW_ok h.1 rx h.2 rys]; exact p.ret S (.bl _)⟩
    · exact p.elim
  · split at p
    · rename_i h1
      obtain ⟨b, ys, rfl, eb, hy, rys⟩ := S.lst ry h1
      split at p
      · rename_i h
        rw [Bool.and_eq_true] at h
        exact .inl ⟨b, ys, rfl, .inl (SqL.of hy), flat_ok h.1 rx, flats_ok h.2 rys, by rw [inW_ok h.1 rx h.2 rys]; exact p.ret S (.bl _)⟩
      · exact p.elim
    · exact p.elim
  · cases rx; cases ry
    exact .inr ⟨_, _, rfl, rfl, p.ret S (.bl _)⟩
  · exact p.elim
theorem ok_notIn : Op2Ok G (vIn true) (rNotInV G.K) := by
  intro ρ H st x y v u Q Ex S rx ry p
  unfold vIn at p
  split at p
  · obtain ⟨b, ys, rfl, hy, rys⟩ := ry.tup_inv
    split at p
    · rename_i h
      rw [Bool.and_eq_true] at h
      exact .inl ⟨b, ys, rfl, .inr hy, flat_ok h.1 rx, flats_ok h.2 rys, by rw [inW_ok h.1 rx h.2 rys]; exact p.ret S (.bl _)⟩
    · exact p.elim
  · split at p
    · rename_i h1
      obtain ⟨b, ys, rfl, eb, hy, rys⟩ := S.lst ry h1
      split at p
      · rename_i h
        rw [Bool.and_eq_true] at h
        exact .inl ⟨b, ys, rfl, .inl (SqL.of hy), flat_ok h.1 rx, flats_ok h.2 rys, by rw [inW_ok h.1 rx h.2 rys]; exact p.ret S (.bl _)⟩
      · exact p.elim
    · exact p.elim
  · cases rx; cases ry
    exact .inr ⟨_, _, rfl, rfl, p.ret S (.bl _)⟩
  · exact p.elim

/-! ### subscripts -/
def vIx : W → W → Store → Res W
  | .tup ys, .int i, s => match atI ys i with
    | some w => .ok w s
    | none => .err
  | .fl ys, .int i, s => match atI ys i with
    | some w => .ok w s
    | none => .err
  | .ref n, .int i, s => match s.f n with
    | some (.lst ys) => match atI ys i with
      | some w => .ok w s
      | none => .err
    | _ => .err
  | .str x, .int i, s => if x.length ≤ LIM then (match atI x.cps.toList i with
      | some c => .ok (.str ⟨#[c]⟩) s
      | none => .err) else .err
  | _, _, _ => .err
theorem RVs.atI {ρ : List Addr} {H : Hp} {ws : List W} {vs : List V} {i : Int} {w : W} (r : RVs G ρ H ws vs) (e : L2.atI ws i = some w) : ∃ v, L2.atI vs i = some v ∧ RV G ρ H w v := by
  unfold L2.atI at e ⊢
  rw [r.length] at e
  cases q : ixN vs.length i with
  | none => rw [q] at e; simp at e
  | some j =>
    rw [q] at e
    exact r.get (i := j) (w := w) (by simpa using e)
theorem ok_ix : Op2Ok G vIx (rIx G.K) := by
  intro ρ H st x y v u Q Ex S rx ry p
  unfold vIx at p
  split at p
  · cases ry
    obtain ⟨a, ys, rfl, hy, rys⟩ := rx.tup_inv
    split at p
    · rename_i e
      obtain ⟨z, h1, h2⟩ := rys.atI e
      exact .inr (.inl ⟨a, ys, _, z, rfl, rfl, hy, h1, p.ret S h2⟩)
    · exact p.elim
  · cases ry
    cases rx with
    | fl hz rys =>
      split at p
      · rename_i e
        obtain ⟨z, h1, h2⟩ := rys.atI e
        exact .inl ⟨_, _, _, z, rfl, rfl, fl_sql hz, h1, p.ret S h2⟩
      · exact p.elim
  · cases ry
    split at p
    · rename_i h0
      obtain ⟨a, ys, rfl, ea, hy, rys⟩ := S.lst rx h0
      split at p
      · rename_i e
        obtain ⟨z, h1, h2⟩ := rys.atI e
        exact .inl ⟨a, ys, _, z, rfl, rfl, SqL.of hy, h1, p.ret S h2⟩
      · exact p.elim
    · exact p.elim
  · cases rx; cases ry
    split at p
    · rename_i hz
      split at p
      · rename_i c e
        exact .inr (.inr ⟨_, _, c, rfl, rfl, by rw [lim_eq]; exact hz, e, p.ret S (.str _)⟩)
      · exact p.elim
    · exact p.elim
  · exact p.elim

/-! ### slices -/
def cutW {α : Type} (xs : List α) (lo hi : Option Int) : List α := (xs.drop (HT.sIx xs.length 0 lo)).take (HT.sIx xs.length xs.length hi - HT.sIx xs.length 0 lo)
theorem RVs.cut {ρ : List Addr} {H : Hp} {ws : List W} {vs : List V} (r : RVs G ρ H ws vs) (lo hi : Option Int) : RVs G ρ H (cutW ws lo hi) (cutV vs lo hi) := by
  unfold cutW cutV
  rw [r.length]
  exact (r.drop _).take _
def vCut (lo hi : Option Int) : W → Store → Res W
  | .tup ys, s => .ok (.tup (cutW ys lo hi)) s
  | .fl ys, s => .ok (.ref s.n) (s.add (.lst (cutW ys lo hi)))
  | .ref n, s => match s.f n with
    | some (.lst ys) => .ok (.ref s.n) (s.add (.lst (cutW ys lo hi)))
    | _ => .err
  | _, _ => .err
abbrev rSlV (K : PySem.W.Frag) : V → Option Int → Option Int → Hp → VK → Prop := fun x lo hi H Q => rSlA K x lo hi H Q ∨ rSlL K x lo hi H Q
theorem sl_V {X : Cx} : SlR X (rSlV X.K) := sl_tupA.or sl_list
theorem cut_whole {α : Type} (xs : List α) (lo hi : Option Int) (h : HT.sIx xs.length 0 lo = 0 ∧ HT.sIx xs.length xs.length hi = xs.length) : cutW xs lo hi = xs := by
  unfold cutW
  rw [h.1, h.2, List.drop_zero, Nat.sub_zero, List.take_length]
theorem ok_cut {lo hi : Option Int} : ∀ ρ H st x v Q Ex, Sim G ρ st H → RV G ρ H x v → Post G ρ H (RV G) (vCut lo hi x st) Q Ex → rSlV G.K v lo hi H Q := by
  intro ρ H st x v Q Ex S rx p
  unfold vCut at p
  split at p
  · rename_i ws _
    obtain ⟨a, ys, rfl, hy, rys⟩ := rx.tup_inv
    refine .inl ⟨a, ys, rfl, hy, fun hw => ?_, fun _ q hq => ?_⟩
    · rw [← rys.length] at hw
      rw [cut_whole _ _ _ hw] at p
      exact p.ret S rx
    · obtain ⟨l, S', r⟩ := tup_new S hq (rys.cut lo hi)
      exact p _ _ _ l S' r
  · cases rx with
    | fl hz rys =>
      refine .inr ⟨_, _, rfl, fl_sql hz, fun q hq => ?_⟩
      obtain ⟨l, S', r⟩ := lst_new S hq (rys.cut lo hi)
      exact p _ _ _ l S' r
  · split at p
    · rename_i h0
      obtain ⟨a, ys, rfl, ea, hy, rys⟩ := S.lst rx h0
      refine .inr ⟨a, ys, rfl, SqL.of hy, fun q hq => ?_⟩
      obtain ⟨l, S', r⟩ := lst_new S hq (rys.cut lo hi)
      exact p _ _ _ l S' r
    · exact p.elim
  · exact p.elim

def eOpt (m : Option (Ev W)) : Ev (Option Int) := fun e s => match m with
  | none => .ok none s
  | some m => (m e s).bind fun w s1 => match w with
    | .int i => .ok (some i) s1
    | _ => .err
def eSlice (a : Ev W) (lo hi : Option (Ev W)) : Ev W := fun e s => (a e s).bind fun x s1 => (eOpt lo e s1).bind fun l s2 => (eOpt hi e s2).bind fun h s3 => vCut l h x s3
abbrev RO' : List Addr → Hp → Option Int → Option Int → Prop := fun _ _ a b => a = b
def tIO (G : Gm) (Wx : WX) (m : Option (Ev W)) : TO := fun σ H Q => ∃ ρ e st, Rel G ρ e st σ H ∧ Post G ρ H RO' (eOpt m e st) Q fun c d H' => Wx c d σ H'
section
variable {X : Cx}
theorem si_part0 : PO X none (tIO G Wx none) := by
  refine ⟨?_⟩
  intro pins s σ H Q I ⟨ρ, e, st, R, p⟩
  exact po_none.run pins s σ H Q I (p ρ H none .refl R.sim rfl)
theorem si_part1 {e : Expr} {m : Ev W} (h : PE X e (tI G Wx m)) : PO X (some e) (tIO G Wx (some m)) := by
  refine ⟨?_⟩
  intro pins s σ H Q I ⟨ρ, e, st, R, p⟩
  refine (po_some h).run pins s σ H Q I ⟨ρ, e, st, R, Post.bind (S := RV G) p fun w s1 ρ1 H1 v l1 S1 r1 p1 => ?_⟩
  cases w with
  | int i =>
    cases r1
    exact ⟨i, rfl, p1.ret (b := some i) S1 rfl⟩
  | _ => exact p1.elim
theorem si_slice (hK : X.K = G.K) {a : Expr} {lo hi : Option Expr} {pos p2 : Pos} {ma : Ev W} {ml mh : Option (Ev W)} (ha : PE X a (tI G Wx ma)) (hl : PO X lo (tIO G Wx ml)) (hh : PO X hi (tIO G Wx mh)) :
    PE X (.Subscript a (.Slice lo hi none p2) pos) (tI G Wx (eSlice ma ml mh)) := by
  refine peM (pe_slice sl_V ha hl hh) ?_
  rintro σ H Q ⟨ρ, e, st, R, p⟩
  refine ⟨ρ, e, st, R, Post.bind p fun x s1 ρ1 H1 v l1 S1 r1 p1 => ?_⟩
  refine ⟨ρ1, e, s1, ⟨l1.env R.env, S1⟩, Post.bind p1 fun o1 s2 ρ2 H2 b2 l2 S2 r2 p2 => ?_⟩
  refine ⟨ρ2, e, s2, ⟨(l1.trans l2).env R.env, S2⟩, Post.bind p2 fun o3 s3 ρ3 H3 b3 l3 S3 r3 p3 => ?_⟩
  rw [hK]
  cases r2
  cases r3
  exact ok_cut _ _ _ _ _ _ _ S3 (l3.rv (l2.rv r1)) p3
end

/-! ### argument lists, displays -/
def isSt : Expr → Bool
  | .Starred .. => true
  | _ => false
theorem star_plain {env : Env} {e : Expr} {es : List Expr} (h : isSt e = false) : starEach (e :: es) env = (false, eval e env) :: starEach es env := by
  cases e <;> first | rfl | cases h
theorem star_all {env : Env} {pos : Pos} : ∀ {es : List Expr}, es.any isSt = false → (backTo pos (starEach es env)).any (·.1) = false
  | [], _ => rfl
  | e :: es, h => by
    rw [List.any_cons, Bool.or_eq_false_iff] at h
    rw [star_plain h.1]
    show (false || (backTo pos (starEach es env)).any (·.1)) = false
    rw [star_all h.2]
    rfl
/-- what a starred item gives -/
def vItems : W → Store → Res (List W)
  | .tup ys, s => .ok ys s
  | .ref n, s => match s.f n with
    | some (.lst ys) => .ok ys s
    | _ => .err
  | _, _ => .err
def eStar (a : Ev W) (r : Ev (List W)) : Ev (List W) := fun e s => (a e s).bind fun x s1 => (vItems x s1).bind fun xs s2 => (r e s2).bind fun ys s3 => .ok (xs ++ ys) s3
def eTup (r : Ev (List W)) : Ev W := fun e s => (r e s).bind fun xs s1 => if xs.length ≤ LIM then .ok (.tup xs) s1 else .err
def eLst (r : Ev (List W)) : Ev W := fun e s => (r e s).bind fun xs s1 => if xs.length ≤ LIM then .ok (.ref s1.n) (s1.add (.lst xs)) else .err
section
variable {X : Cx}
theorem si_star (hK : X.K = G.K) {e : Expr} {p : Pos} {es : List Expr} {ma : Ev W} {mr : Ev (List W)} (ha : PE X e (tI G Wx ma)) (hr : PA X es (tIA G Wx mr)) : PA X (.Starred e p :: es) (tIA G Wx (eStar ma mr)) := by
  refine paM (StX.pa_star ha hr rfl) ?_
  rintro σ H Q ⟨ρ, e, st, R, p⟩
  refine ⟨ρ, e, st, R, Post.bind p fun x s1 ρ1 H1 v l1 S1 r1 p1 => ?_⟩
  rw [hK]
  have go : ∀ {xs : List W} {vs : List V}, RVs G ρ1 H1 xs vs → Post G ρ1 H1 (RVs G) ((Res.ok xs s1).bind fun xs s2 => (mr e s2).bind fun ys s3 => .ok (xs ++ ys) s3) Q (fun c d H' => Wx c d σ H') → tIA G Wx mr σ H1 fun ys H2 => Q (vs ++ ys) H2 := fun {xs vs} rx p2 =>
    ⟨ρ1, e, s1, ⟨l1.env R.env, S1⟩, Post.bind p2 fun ys s3 ρ3 H3 us l3 S3 r3 p3 => p3.ret S3 ((l3.rvs rx).app r3)⟩
  unfold vItems at p1
  cases x with
  | tup ys =>
    obtain ⟨a, vs, rfl, h, rs⟩ := r1.tup_inv
    exact ⟨a, vs, rfl, .inl h, go rs p1⟩
  | ref n =>
    cases q : s1.f n with
    | none => simp only [q] at p1; exact p1.elim
    | some o =>
      cases o with
      | lst ys =>
        simp only [q] at p1
        obtain ⟨a, vs, rfl, ea, h, rs⟩ := S1.lst r1 q
        exact ⟨a, vs, rfl, .inr (SqL.of h), go rs p1⟩
      | _ => simp only [q] at p1; exact p1.elim
  | _ => exact p1.elim
theorem si_tup {es : List Expr} {k : Nat} {pos : Pos} {m : Ev (List W)} (h : PA X es (tIA G Wx m)) : PE X (.Tuple es k pos) (tI G Wx (eTup m)) := by
  refine peM (pe_tup h) ?_
  rintro σ H Q ⟨ρ, e, st, R, p⟩
  refine ⟨ρ, e, st, R, Post.bind p fun x s1 ρ1 H1 v l1 S1 r1 p1 => ?_⟩
  split at p1
  · rename_i hz
    rw [r1.length] at hz
    refine ⟨by rw [lim_eq]; exact hz, fun q hq => ?_⟩
    obtain ⟨l, S', r⟩ := tup_new S1 hq r1
    exact p1 _ _ _ l S' r
  · exact p1.elim
theorem si_lst {es : List Expr} {pos : Pos} {m : Ev (List W)} (h : PA X es (tIA G Wx m)) : PE X (.List es pos) (tI G Wx (eLst m)) := by
  refine peM (pe_lst h) ?_
  rintro σ H Q ⟨ρ, e, st, R, p⟩
  refine ⟨ρ, e, st, R, Post.bind p fun x s1 ρ1 H1 v l1 S1 r1 p1 => ?_⟩
  split at p1
  · rename_i hz
    rw [r1.length] at hz
    refine ⟨by rw [lim_eq]; exact hz, fun q hq => ?_⟩
    obtain ⟨l, S', r⟩ := lst_new S1 hq r1
    exact p1 _ _ _ l S' r
  · exact p1.elim
end

/-! ### built-ins by values -/
def CallOk (G : Gm) (f : List W → Store → Res W) (r : List V → Hp → VK → Prop) : Prop := ∀ ρ H st ws vs Q Ex, Sim G ρ st H → RVs G ρ H ws vs → Post G ρ H (RV G) (f ws st) Q Ex → r vs H Q
def eCallB (f : List W → Store → Res W) (m : Ev (List W)) : Ev W := fun e s => (m e s).bind fun xs s1 => f xs s1
theorem tI_callB {f : List W → Store → Res W} {r : List V → Hp → VK → Prop} {m : Ev (List W)} (ok : CallOk G f r) : ∀ σ H Q, tI G Wx (eCallB f m) σ H Q → tCB r (tIA G Wx m) σ H Q := by
  rintro σ H Q ⟨ρ, e, st, R, p⟩
  exact ⟨ρ, e, st, R, Post.bind p fun x s1 ρ1 H1 v l1 S1 r1 p1 => ok ρ1 H1 s1 x v Q _ S1 r1 p1⟩
theorem CallOk.or1 {f : List W → Store → Res W} {r r' : List V → Hp → VK → Prop} (h : CallOk G f r) : CallOk G f (fun xs H Q => r xs H Q ∨ r' xs H Q) := fun ρ H st ws vs Q Ex S rv p => .inl (h ρ H st ws vs Q Ex S rv p)
def bAbs : List W → Store → Res W
  | [.int i], s => .ok (.int (if i < 0 then -i else i)) s
  | _, _ => .err
theorem ok_abs : CallOk G bAbs (fun xs H Q => ∃ i, xs = [.int i] ∧ Q (.int (if i < 0 then -i else i)) H) := by
  intro ρ H st ws vs Q Ex S rv p
  unfold bAbs at p
  split at p
  · cases rv with
    | cons r t =>
      cases t; cases r
      exact ⟨_, rfl, p.ret S (.int _)⟩
  · exact p.elim
def bInt : List W → Store → Res W
  | [.int i], s => .ok (.int i) s
  | [.bl b], s => .ok (.int (if b then 1 else 0)) s
  | _, _ => .err
theorem ok_int : CallOk G bInt (fun xs H Q => (∃ i, xs = [.int i] ∧ Q (.int i) H) ∨ ∃ k, xs = [.bl k] ∧ Q (.int (if k then 1 else 0)) H) := by
  intro ρ H st ws vs Q Ex S rv p
  unfold bInt at p
  split at p
  · cases rv with
    | cons r t =>
      cases t; cases r
      exact .inl ⟨_, rfl, p.ret S (.int _)⟩
  · cases rv with
    | cons r t =>
      cases t; cases r
      exact .inr ⟨_, rfl, p.ret S (.int _)⟩
  · exact p.elim
def bBool : List W → Store → Res W
  | [.int i], s => .ok (.bl (i != 0)) s
  | [.bl b], s => .ok (.bl b) s
  | _, _ => .err
theorem ok_bool : CallOk G bBool (fun xs H Q => (∃ i, xs = [.int i] ∧ Q (.bl (i != 0)) H) ∨ ∃ k, xs = [.bl k] ∧ Q (.bl k) H) := by
  intro ρ H st ws vs Q Ex S rv p
  unfold bBool at p
  split at p
  · cases rv with
    | cons r t =>
      cases t; cases r
      exact .inl ⟨_, rfl, p.ret S (.bl _)⟩
  · cases rv with
    | cons r t =>
      cases t; cases r
      exact .inr ⟨_, rfl, p.ret S (.bl _)⟩
  · exact p.elim
theorem Sim.dic {ρ : List Addr} {st : Store} {H : Hp} (S : Sim G ρ st H) {n : Nat} {v : V} {kvs : List (W × W)} (r : RV G ρ H (.ref n) v) (h : st.f n = some (.dic kvs)) :
    ∃ a, v = .ref a ∧ ρ[n]? = some a ∧ ((∃ ks, H a = some (.dK ks) ∧ All2 (REK G ρ H) kvs ks) ∨ ∃ ks, H a = some (.dT ks) ∧ All2 (RET G ρ H) kvs ks) := by
  cases r with
  | ref e => exact ⟨_, rfl, e, S.place e h⟩
def bLen : List W → Store → Res W
  | [.tup ys], s => .ok (.int ys.length) s
  | [.fl ys], s => .ok (.int ys.length) s
  | [.ref n], s => match s.f n with
    | some (.lst ys) => .ok (.int ys.length) s
    | _ => .err
  | [.str x], s => if x.length ≤ LIM then .ok (.int x.length) s else .err
  | _, _ => .err
theorem ok_len : CallOk G bLen (fun xs H Q => ∃ x n, xs = [x] ∧ LenV G.K x H n ∧ Q (.int n) H) := by
  intro ρ H st ws vs Q Ex S rv p
  unfold bLen at p
  split at p
  · cases rv with
    | cons r t =>
      cases t
      obtain ⟨a, ys, rfl, hy, rys⟩ := r.tup_inv
      refine ⟨_, ys.length, rfl, .inr ⟨ys, hy, rfl⟩, ?_⟩
      rw [← rys.length]
      exact p.ret S (.int _)
  · cases rv with
    | cons r t =>
      cases t
      cases r with
      | fl hz rys =>
        refine ⟨_, _, rfl, .inl ⟨_, fl_sql hz, rfl⟩, ?_⟩
        rw [← rys.length]
        exact p.ret S (.int _)
  · cases rv with
    | cons r t =>
      cases t
      split at p
      · rename_i h0
        obtain ⟨a, ys, rfl, ea, hy, rys⟩ := S.lst r h0
        refine ⟨_, ys.length, rfl, .inl ⟨ys, SqL.of hy, rfl⟩, ?_⟩
        rw [← rys.length]
        exact p.ret S (.int _)
      · exact p.elim
  · cases rv with
    | cons r t =>
      cases t; cases r
      split at p
      · rename_i h
        exact ⟨_, _, rfl, ⟨by rw [lim_eq]; exact h, rfl⟩, p.ret S (.int _)⟩
      · exact p.elim
  · exact p.elim
def bTuple : List W → Store → Res W
  | [.tup ys], s => .ok (.tup ys) s
  | [.ref n], s => match s.f n with
    | some (.lst ys) => .ok (.tup ys) s
    | _ => .err
  | _, _ => .err
theorem ok_tuple : CallOk G bTuple (fun xs H Q => ∃ p ys, xs = [.ref p] ∧ ((SqL G.K H p ys ∧ ∀ l, H l = none → Q (.ref l) (upd H l (.tup ys))) ∨ (SqT G.K H p ys ∧ Q (.ref p) H))) := by
  intro ρ H st ws vs Q Ex S rv p
  unfold bTuple at p
  split at p
  · cases rv with
    | cons r t =>
      cases t
      obtain ⟨a, ys, rfl, hy, rys⟩ := r.tup_inv
      exact ⟨a, ys, rfl, .inr ⟨hy, p.ret S r⟩⟩
  · cases rv with
    | cons r t =>
      cases t
      split at p
      · rename_i h0
        obtain ⟨a, ys, rfl, ea, hy, rys⟩ := S.lst r h0
        refine ⟨a, ys, rfl, .inl ⟨SqL.of hy, fun q hq => ?_⟩⟩
        obtain ⟨l, S', r⟩ := tup_new S hq rys
        exact p _ _ _ l S' r
      · exact p.elim
  · exact p.elim
def bList : List W → Store → Res W
  | [.tup ys], s => .ok (.ref s.n) (s.add (.lst ys))
  | [.ref n], s => match s.f n with
    | some (.lst ys) => .ok (.ref s.n) (s.add (.lst ys))
    | _ => .err
  | _, _ => .err
theorem ok_list : CallOk G bList (fun xs H Q => ∃ p ys, xs = [.ref p] ∧ (SqL G.K H p ys ∨ SqT G.K H p ys) ∧ ∀ l, H l = none → Q (.ref l) (upd H l (.lst ys))) := by
  intro ρ H st ws vs Q Ex S rv p
  unfold bList at p
  split at p
  · cases rv with
    | cons r t =>
      cases t
      obtain ⟨a, ys, rfl, hy, rys⟩ := r.tup_inv
      refine ⟨a, ys, rfl, .inr hy, fun q hq => ?_⟩
      obtain ⟨l, S', r⟩ := lst_new S hq rys
      exact p _ _ _ l S' r
  · cases rv with
    | cons r t =>
      cases t
      split at p
      · rename_i h0
        obtain ⟨a, ys, rfl, ea, hy, rys⟩ := S.lst r h0
        refine ⟨a, ys, rfl, .inl (SqL.of hy), fun q hq => ?_⟩
        obtain ⟨l, S', r⟩ := lst_new S hq rys
        exact p _ _ _ l S' r
      · exact p.elim
  · exact p.elim
/-- ints of a list -/
def intsW : List W → Option (List Int)
  | [] => some []
  | .int i :: r => (intsW r).map (i :: ·)
  | _ => none
theorem intsW_eq : ∀ {ws : List W} {ns : List Int}, intsW ws = some ns → ws = ns.map W.int
  | [], ns, h => by simp [intsW] at h; subst h; rfl
  | w :: r, ns, h => by
    cases w with
    | int i =>
      simp only [intsW, Option.map_eq_some_iff] at h
      obtain ⟨ms, h1, rfl⟩ := h
      rw [intsW_eq h1]
      rfl
    | _ => simp [intsW] at h
def blsW : List W → Option (List Bool)
  | [] => some []
  | .bl i :: r => (blsW r).map (i :: ·)
  | _ => none
theorem blsW_eq : ∀ {ws : List W} {ns : List Bool}, blsW ws = some ns → ws = ns.map W.bl
  | [], ns, h => by simp [blsW] at h; subst h; rfl
  | w :: r, ns, h => by
    cases w with
    | bl i =>
      simp only [blsW, Option.map_eq_some_iff] at h
      obtain ⟨ms, h1, rfl⟩ := h
      rw [blsW_eq h1]
      rfl
    | _ => simp [blsW] at h
def bFold (f : List Int → Option Int) : List W → Store → Res W
  | [.ref n], s => match s.f n with
    | some (.lst ys) => match intsW ys with
      | some ns => match f ns with
        | some i => .ok (.int i) s
        | none => .err
      | none => .err
    | _ => .err
  | _, _ => .err
theorem ok_sum : CallOk G (bFold fun ns => some ns.sum) (rSum G.K) := by
  intro ρ H st ws vs Q Ex S rv p
  unfold bFold at p
  split at p
  · cases rv with
    | cons r t =>
      cases t
      split at p
      · rename_i h0
        obtain ⟨a, ys, rfl, ea, hy, rys⟩ := S.lst r h0
        split at p
        · rename_i ns e
          rw [intsW_eq e] at rys
          rw [rys.int_inv] at hy
          exact ⟨a, ns, rfl, SqL.of hy, p.ret S (.int _)⟩
        · exact p.elim
      · exact p.elim
  · exact p.elim
def bMaxL : List W → Store → Res W := bFold fun ns => ns.max?
def bMinL : List W → Store → Res W := bFold fun ns => ns.min?
theorem ok_maxL : CallOk G bMaxL (rMax G.K) := by
  intro ρ H st ws vs Q Ex S rv p
  unfold bMaxL bFold at p
  split at p
  · cases rv with
    | cons r t =>
      cases t
      split at p
      · rename_i h0
        obtain ⟨a, ys, rfl, ea, hy, rys⟩ := S.lst r h0
        split at p
        · rename_i ns e
          rw [intsW_eq e] at rys
          rw [rys.int_inv] at hy
          split at p
          · rename_i i hi
            have hm := List.max?_eq_some_iff.mp hi
            refine ⟨a, ns, rfl, SqL.of hy, List.length_pos_of_mem hm.1, fun m m1 m2 => ?_⟩
            have : m = i := Int.le_antisymm (hm.2 m m1) (m2 i hm.1)
            subst this
            exact p.ret S (.int _)
          · exact p.elim
        · exact p.elim
      · exact p.elim
  · exact p.elim
theorem ok_minL : CallOk G bMinL (rMin G.K) := by
  intro ρ H st ws vs Q Ex S rv p
  unfold bMinL bFold at p
  split at p
  · cases rv with
    | cons r t =>
      cases t
      split at p
      · rename_i h0
        obtain ⟨a, ys, rfl, ea, hy, rys⟩ := S.lst r h0
        split at p
        · rename_i ns e
          rw [intsW_eq e] at rys
          rw [rys.int_inv] at hy
          split at p
          · rename_i i hi
            have hm := List.min?_eq_some_iff.mp hi
            refine ⟨a, ns, rfl, SqL.of hy, List.length_pos_of_mem hm.1, fun m m1 m2 => ?_⟩
            have : m = i := Int.le_antisymm (m2 i hm.1) (hm.2 m m1)
            subst this
            exact p.ret S (.int _)
          · exact p.elim
        · exact p.elim
      · exact p.elim
  · exact p.elim
def bMM (mx : Bool) : List W → Store → Res W
  | [.int i, .int j], s => .ok (.int (if mx then (if j > i then j else i) else if j < i then j else i)) s
  | _, _ => .err
theorem ok_max2 : CallOk G (bMM true) (fun xs H Q => ∃ i j, xs = [.int i, .int j] ∧ Q (.int (if j > i then j else i)) H) := by
  intro ρ H st ws vs Q Ex S rv p
  unfold bMM at p
  split at p
  · cases rv with
    | cons r t =>
      cases t with
      | cons r2 t2 =>
        cases t2; cases r; cases r2
        exact ⟨_, _, rfl, p.ret S (.int _)⟩
  · exact p.elim
theorem ok_min2 : CallOk G (bMM false) (fun xs H Q => ∃ i j, xs = [.int i, .int j] ∧ Q (.int (if j < i then j else i)) H) := by
  intro ρ H st ws vs Q Ex S rv p
  unfold bMM at p
  split at p
  · cases rv with
    | cons r t =>
      cases t with
      | cons r2 t2 =>
        cases t2; cases r; cases r2
        exact ⟨_, _, rfl, p.ret S (.int _)⟩
  · exact p.elim
def bAA (f : List Bool → Bool) : List W → Store → Res W
  | [.ref n], s => match s.f n with
    | some (.lst ys) => match blsW ys with
      | some ns => .ok (.bl (f ns)) s
      | none => .err
    | _ => .err
  | _, _ => .err
theorem ok_all : CallOk G (bAA fun bs => bs.all id) (rAll G.K) := by
  intro ρ H st ws vs Q Ex S rv p
  unfold bAA at p
  split at p
  · cases rv with
    | cons r t =>
      cases t
      split at p
      · rename_i h0
        obtain ⟨a, ys, rfl, ea, hy, rys⟩ := S.lst r h0
        split at p
        · rename_i ns e
          rw [blsW_eq e] at rys
          rw [rys.bl_inv] at hy
          exact ⟨a, ns, rfl, SqL.of hy, p.ret S (.bl _)⟩
        · exact p.elim
      · exact p.elim
  · exact p.elim
theorem ok_any : CallOk G (bAA fun bs => bs.any id) (rAny G.K) := by
  intro ρ H st ws vs Q Ex S rv p
  unfold bAA at p
  split at p
  · cases rv with
    | cons r t =>
      cases t
      split at p
      · rename_i h0
        obtain ⟨a, ys, rfl, ea, hy, rys⟩ := S.lst r h0
        split at p
        · rename_i ns e
          rw [blsW_eq e] at rys
          rw [rys.bl_inv] at hy
          exact ⟨a, ns, rfl, SqL.of hy, p.ret S (.bl _)⟩
        · exact p.elim
      · exact p.elim
  · exact p.elim
end Q
/-! A5: dicts. -/
namespace Q
open PySem PySem.Spec PyProof.Rows L2
variable {G : Gm} {Wx : WX}

/-! ### keys -/
theorem keyK_rv {ρ : List Addr} {H : Hp} {w : W} {v : V} {k : Key} (e : keyK w = some k) (r : RV G ρ H w v) : v = kV k := by
  unfold keyK at e
  split at e <;> cases e <;> cases r <;> rfl
theorem keysK_rv {ρ : List Addr} {H : Hp} : ∀ {ws : List W} {vs : List V} {ks : List Key}, keysK ws = some ks → RVs G ρ H ws vs → vs = ks.map kV
  | [], _, _, e, .nil => by simp [keysK] at e; subst e; rfl
  | w :: ws, _, ks, e, .cons r t => by
    unfold keysK at e
    split at e
    · rename_i k ks' h1 h2
      cases e
      rw [keyK_rv h1 r, keysK_rv h2 t]
      rfl
    · cases e
theorem keyT_rv {ρ : List Addr} {H : Hp} {w : W} {v : V} {ks : List Key} (e : keyT w = some ks) (r : RV G ρ H w v) : ∃ b, v = .ref b ∧ H b = some (.tup (ks.map kV)) := by
  unfold keyT at e
  split at e
  · split at e
    · cases e
    · rename_i hn
      cases r with
      | tup h rs => exact ⟨_, rfl, by rw [h, keysK_rv e rs]⟩
      | ktup _ z _ => exact absurd z hn
  · cases e
/-- two keys are one -/
def keqs : List W → List W → Bool
  | [], [] => true
  | .int i :: r, .int j :: s => i == j && keqs r s
  | .str i :: r, .str j :: s => decide (i = j) && keqs r s
  | _, _ => false
def keq : W → W → Bool
  | .int i, .int j => i == j
  | .str i, .str j => decide (i = j)
  | .tup a, .tup b => keqs a b
  | _, _ => false
theorem keqK {a b : W} {k l : Key} (ea : keyK a = some k) (eb : keyK b = some l) : keq a b = decide (k = l) := by
  unfold keyK at ea eb
  split at ea <;> cases ea <;> split at eb <;> cases eb <;> simp [keq, Bool.beq_eq_decide_eq]
theorem keqsK : ∀ {a b : List W} {k l : List Key}, keysK a = some k → keysK b = some l → keqs a b = decide (k = l)
  | [], [], k, l, ea, eb => by simp [keysK] at ea eb; subst ea; subst eb; rfl
  | [], w :: r, k, l, ea, eb => by
    simp [keysK] at ea
    subst ea
    unfold keysK at eb
    split at eb
    · cases eb; simp [keqs]
    · cases eb
  | w :: r, [], k, l, ea, eb => by
    simp [keysK] at eb
    subst eb
    unfold keysK at ea
    split at ea
    · cases ea; cases w <;> simp [keqs]
    · cases ea
  | a :: r, b :: s, k, l, ea, eb => by
    unfold keysK at ea eb
    split at ea
    · rename_i k1 ks1 h1 h2
      cases ea
      split at eb
      · rename_i k2 ks2 h3 h4
        cases eb
        have ih := keqsK h2 h4
        have q := keqK h1 h3
        have e : keqs (a :: r) (b :: s) = (keq a b && keqs r s) := by
          cases a <;> first | rfl | (cases b <;> first | rfl | (simp [keyK] at h3) | (simp [keyK] at h1) | simp [keqs, keq])
        rw [e, ih, q]
        by_cases x : k1 = k2 <;> by_cases y : ks1 = ks2 <;> simp [x, y]
      · cases eb
    · cases ea
theorem keqT {a b : W} {k l : List Key} (ea : keyT a = some k) (eb : keyT b = some l) : keq a b = decide (k = l) := by
  unfold keyT at ea eb
  split at ea
  · split at ea
    · cases ea
    · split at eb
      · split at eb
        · cases eb
        · exact keqsK ea eb
      · cases eb
  · cases ea
def lookW (kvs : List (W × W)) (k : W) : Option W := (kvs.find? fun p => keq p.1 k).map (·.2)
def hasW (kvs : List (W × W)) (k : W) : Bool := kvs.any fun p => keq p.1 k
def putW (kvs : List (W × W)) (k v : W) : List (W × W) := if hasW kvs k then kvs.map (fun p => if keq p.1 k then (p.1, v) else p) else kvs ++ [(k, v)]
def dropW (kvs : List (W × W)) (k : W) : List (W × W) := kvs.filter fun p => !keq p.1 k

/-- both kinds at once: what relates keys -/
structure KeyRel (κ : Type) [DecidableEq κ] where
  of : W → Option κ
  eq : ∀ {a b k l}, of a = some k → of b = some l → keq a b = decide (k = l)
def krK : KeyRel Key := ⟨keyK, keqK⟩
def krT : KeyRel (List Key) := ⟨keyT, keqT⟩
section
variable {κ : Type} [DecidableEq κ] (R : KeyRel κ)
def RE (G : Gm) (ρ : List Addr) (H : Hp) (p : W × W) (q : κ × V) : Prop := R.of p.1 = some q.1 ∧ RV G ρ H p.2 q.2
variable {R} {ρ : List Addr} {H : Hp}
theorem All2.look {kvs : List (W × W)} {ks : List (κ × V)} {k : W} {l : κ} (h : All2 (RE R G ρ H) kvs ks) (e : R.of k = some l) :
    (lookW kvs k = none ∧ valV ks l = none) ∨ ∃ w v, lookW kvs k = some w ∧ valV ks l = some v ∧ RV G ρ H w v := by
  induction h with
  | nil => exact .inl ⟨rfl, rfl⟩
  | @cons p q ps qs r t ih =>
    have z := R.eq r.1 e
    by_cases x : q.1 = l
    · refine .inr ⟨p.2, q.2, ?_, valV_pos x, r.2⟩
      unfold lookW
      rw [List.find?_cons, z, decide_eq_true x]
      rfl
    · have z' : keq p.1 k = false := by rw [z, decide_eq_false x]
      rw [valV_neg x]
      have e2 : lookW (p :: ps) k = lookW ps k := by
        unfold lookW
        rw [List.find?_cons, z']
      rw [e2]
      exact ih
theorem All2.has {kvs : List (W × W)} {ks : List (κ × V)} {k : W} {l : κ} (h : All2 (RE R G ρ H) kvs ks) (e : R.of k = some l) : hasW kvs k = ks.any fun q => decide (q.1 = l) := by
  unfold hasW
  induction h with
  | nil => rfl
  | @cons p q ps qs r t ih => rw [List.any_cons, List.any_cons, R.eq r.1 e, ih]
theorem All2.put {kvs : List (W × W)} {ks : List (κ × V)} {k w : W} {l : κ} {v : V} (h : All2 (RE R G ρ H) kvs ks) (e : R.of k = some l) (r : RV G ρ H w v) : All2 (RE R G ρ H) (putW kvs k w) (putK ks l v) := by
  unfold putW putK
  rw [h.has e]
  by_cases x : (ks.any fun q => decide (q.1 = l)) = true
  · rw [if_pos x, if_pos x]
    clear x
    induction h with
    | nil => exact .nil
    | @cons p q ps qs r' t ih =>
      rw [List.map_cons, List.map_cons]
      refine .cons ?_ ih
      rw [R.eq r'.1 e]
      by_cases y : q.1 = l
      · simp only [y, decide_true, if_true]
        exact ⟨y ▸ r'.1, r⟩
      · rw [if_neg (by simpa using y), if_neg y]
        exact r'
  · rw [if_neg x, if_neg x]
    exact h.app (.cons ⟨e, r⟩ .nil)
theorem All2.drop {kvs : List (W × W)} {ks : List (κ × V)} {k : W} {l : κ} (h : All2 (RE R G ρ H) kvs ks) (e : R.of k = some l) : All2 (RE R G ρ H) (dropW kvs k) (dropK ks l) := by
  unfold dropW dropK
  induction h with
  | nil => exact .nil
  | @cons p q ps qs r t ih =>
    rw [List.filter_cons, List.filter_cons, R.eq r.1 e]
    by_cases y : q.1 = l
    · simp only [y, decide_true, Bool.not_true, ne_eq, not_true, decide_false]
      exact ih
    · simp only [y, decide_false, Bool.not_false, ne_eq, not_false_eq_true, decide_true, if_true]
      exact .cons r ih
end

/-! ### the empty dict is of both kinds -/
def Sw (H : Hp) (a : Addr) (H1 : Hp) : Prop := H1 = H ∨ (H a = some (.dK []) ∧ H1 = upd H a (.dT [])) ∨ (H a = some (.dT []) ∧ H1 = upd H a (.dK []))
theorem _root_.L2.Inv.sw {X : Cx} {pins : List (Addr × Obj)} {σ : St} {H H1 : Hp} {s : Shared} {a : Addr} (I : Inv X pins σ H s) (h : Sw H a H1) : Inv X pins σ H1 s := by
  rcases h with rfl | ⟨e, rfl⟩ | ⟨e, rfl⟩
  · exact I
  · obtain ⟨z, hd, vs, rel, o, es, ep, h1, h2, h3, h4, h5, h6⟩ := dk_of I.hok e
    cases rel
    refine I.write (t' := s.toks) (e := a) (by rw [e]; trivial) (.inl rfl) (fun _ _ _ q => q) ⟨o, h1⟩ ⟨z, hd, [], .nil, o, es, ep, h1, h2, h3, ?_, List.nodup_nil⟩
    cases h5' : es.toList with
    | nil => rfl
    | cons x xs => rw [h5'] at h5; cases h5
  · obtain ⟨z, hd, xs, rel, dd⟩ := dt_of I.hok e
    cases rel
    obtain ⟨o, es, ep, h1, h2, h3, h4, h5⟩ := dd
    have he : es = #[] := by
      cases es with
      | mk l =>
        have : l = [] := by simpa using h4
        rw [this]
    subst he
    exact I.write (t' := s.toks) (e := a) (by rw [e]; trivial) (.inl rfl) (fun _ _ _ q => q) ⟨o, h1⟩ ⟨z, hd, [], .nil, o, #[], ep, h1, h2, h3, (by intro i hi; simp at hi), .nil, List.nodup_nil⟩
end Q
/-! A6: dicts by values; methods. -/
namespace Q
open PySem PySem.Spec PyProof.Rows L2
variable {G : Gm} {Wx : WX}

/-! ### what a dict of the store says of a key -/
def kd (w : W) : Option Bool := if (keyK w).isSome then some true else if (keyT w).isSome then some false else none
/-- the dict is empty, or its keys are of the kind of w -/
def kindOk (kvs : List (W × W)) (w : W) : Bool := match kd w with
  | none => false
  | some b => match kvs with
    | [] => true
    | p :: _ => kd p.1 == some b
section
variable {ρ : List Addr} {st : Store} {H : Hp}
theorem All2.nil_iff {α β : Type} {R : α → β → Prop} {as : List α} {bs : List β} (h : All2 R as bs) : as = [] ↔ bs = [] := by
  cases h <;> simp
/-- the dict, brought to the key's kind -/
inductive DAt (G : Gm) (ρ : List Addr) (H : Hp) (a : Addr) (kvs : List (W × W)) (w : W) (v : V) : Hp → Prop where
  | k {H1 : Hp} {ks : List (Key × V)} {k : Key} : Sw H a H1 → keyK w = some k → v = kV k → H1 a = some (.dK ks) → All2 (RE krK G ρ H1) kvs ks → DAt G ρ H a kvs w v H1
  | t {H1 : Hp} {ks : List (List Key × V)} {k : List Key} {b : Addr} : Sw H a H1 → keyT w = some k → v = .ref b → H1 b = some (.tup (k.map kV)) → H1 a = some (.dT ks) → All2 (RE krT G ρ H1) kvs ks → DAt G ρ H a kvs w v H1
theorem sw_lat {a : Addr} {H1 : Hp} (S : Sim G ρ st H) {n : Nat} {kvs : List (W × W)} (hn : ρ[n]? = some a) (hf : st.f n = some (.dic kvs)) (h : Sw H a H1) : Lat G ρ H ρ H1 ∧ Sim G ρ st H1 := by
  rcases h with rfl | ⟨e, rfl⟩ | ⟨e, rfl⟩
  · exact ⟨.refl, S⟩
  · have hk : kvs = [] := by
      rcases S.place hn hf with ⟨ks, h1, h2⟩ | ⟨ks, h1, h2⟩
      · rw [e] at h1; cases h1; exact h2.nil_iff.mpr rfl
      · rw [e] at h1; cases h1
    subst hk
    have s := S.put (o := .dic []) (u := .dT []) hn (.inr ⟨[], upd_same, .nil⟩)
    refine ⟨⟨List.prefix_refl _, KT.mut ⟨_, e, trivial⟩⟩, ⟨s.len, s.nd, fun i b hb => ?_⟩⟩
    obtain ⟨o, h1, h2⟩ := s.ob i b hb
    refine ⟨o, ?_, h2⟩
    by_cases hi : i = n
    · subst hi
      rw [hf]
      simpa [Store.put] using h1
    · simpa [Store.put, hi] using h1
  · have hk : kvs = [] := by
      rcases S.place hn hf with ⟨ks, h1, h2⟩ | ⟨ks, h1, h2⟩
      · rw [e] at h1; cases h1
      · rw [e] at h1; cases h1; exact h2.nil_iff.mpr rfl
    subst hk
    have s := S.put (o := .dic []) (u := .dK []) hn (.inl ⟨[], upd_same, .nil⟩)
    refine ⟨⟨List.prefix_refl _, KT.mut ⟨_, e, trivial⟩⟩, ⟨s.len, s.nd, fun i b hb => ?_⟩⟩
    obtain ⟨o, h1, h2⟩ := s.ob i b hb
    refine ⟨o, ?_, h2⟩
    by_cases hi : i = n
    · subst hi
      rw [hf]
      simpa [Store.put] using h1
    · simpa [Store.put, hi] using h1
theorem Sim.dAt (S : Sim G ρ st H) {n : Nat} {u : V} {kvs : List (W × W)} {w : W} {v : V} (r : RV G ρ H (.ref n) u) (h : st.f n = some (.dic kvs)) (rw' : RV G ρ H w v) (ok : kindOk kvs w = true) :
    ∃ a H1, u = .ref a ∧ ρ[n]? = some a ∧ DAt G ρ H a kvs w v H1 := by
  obtain ⟨a, rfl, hn, hd⟩ := S.dic r h
  unfold kindOk at ok
  split at ok
  · cases ok
  · rename_i b hb
    unfold kd at hb
    split at hb
    · rename_i hk
      obtain ⟨k, hk⟩ := Option.isSome_iff_exists.mp hk
      cases hb
      have hv := keyK_rv hk rw'
      cases kvs with
      | nil =>
        rcases hd with ⟨ks, h1, h2⟩ | ⟨ks, h1, h2⟩
        · exact ⟨a, H, rfl, hn, .k (.inl rfl) hk hv h1 h2⟩
        · cases h2
          exact ⟨a, _, rfl, hn, .k (.inr (.inr ⟨h1, rfl⟩)) hk hv upd_same .nil⟩
      | cons p r' =>
        rcases hd with ⟨ks, h1, h2⟩ | ⟨ks, h1, h2⟩
        · exact ⟨a, H, rfl, hn, .k (.inl rfl) hk hv h1 h2⟩
        · exfalso
          cases h2 with
          | cons z _ =>
            have hp := z.1
            simp only at ok
            have e := eq_of_beq ok
            unfold kd at e
            unfold keyT at hp
            split at hp
            · rename_i ws he
              rw [he] at e
              have z0 : keyK (.tup ws) = none := rfl
              rw [z0] at e
              simp at e
            · cases hp
    · split at hb
      · rename_i hk
        obtain ⟨k, hk⟩ := Option.isSome_iff_exists.mp hk
        cases hb
        obtain ⟨b, rfl, hv⟩ := keyT_rv hk rw'
        cases kvs with
        | nil =>
          rcases hd with ⟨ks, h1, h2⟩ | ⟨ks, h1, h2⟩
          · cases h2
            refine ⟨a, _, rfl, hn, .t (.inr (.inl ⟨h1, rfl⟩)) hk rfl ?_ upd_same .nil⟩
            rw [upd_ne (ne_of hv h1 (fun z => nomatch z))]
            exact hv
          · exact ⟨a, H, rfl, hn, .t (.inl rfl) hk rfl hv h1 h2⟩
        | cons p r' =>
          rcases hd with ⟨ks, h1, h2⟩ | ⟨ks, h1, h2⟩
          · exfalso
            cases h2 with
            | cons z _ =>
              have hp := z.1
              simp only at ok
              have e := eq_of_beq ok
              unfold kd at e
              rw [hp] at e
              simp at e
          · exact ⟨a, H, rfl, hn, .t (.inl rfl) hk rfl hv h1 h2⟩
      · cases hb
theorem DAt.sw {a : Addr} {kvs : List (W × W)} {w : W} {v : V} {H1 : Hp} (d : DAt G ρ H a kvs w v H1) : Sw H a H1 := by cases d <;> assumption
/-- the look -/
theorem DAt.look {a : Addr} {kvs : List (W × W)} {w : W} {v : V} {H1 : Hp} (d : DAt G ρ H a kvs w v H1) :
    ∃ o, DGet H1 a v o ∧ ((lookW kvs w = none ∧ o = none) ∨ ∃ x y, lookW kvs w = some x ∧ o = some y ∧ RV G ρ H1 x y) := by
  cases d with
  | k hs hk hv h1 h2 =>
    subst hv
    refine ⟨_, DGet.k h1, ?_⟩
    rcases h2.look hk with ⟨e1, e2⟩ | ⟨x, y, e1, e2, r⟩
    · exact .inl ⟨e1, e2⟩
    · exact .inr ⟨x, y, e1, e2, r⟩
  | t hs hk hv hb h1 h2 =>
    subst hv
    refine ⟨_, DGet.t h1 hb, ?_⟩
    rcases h2.look hk with ⟨e1, e2⟩ | ⟨x, y, e1, e2, r⟩
    · exact .inl ⟨e1, e2⟩
    · exact .inr ⟨x, y, e1, e2, r⟩
/-- the store -/
theorem DAt.put {a : Addr} {kvs : List (W × W)} {w x : W} {v y : V} {H1 : Hp} {n : Nat} (d : DAt G ρ H a kvs w v H1) (S : Sim G ρ st H1) (hn : ρ[n]? = some a) (r : RV G ρ H1 x y) (hz : kvs.length < sizeLine) :
    ∃ H2, DPut H1 a v y H2 ∧ Lat G ρ H1 ρ H2 ∧ Sim G ρ (st.put n (.dic (putW kvs w x))) H2 := by
  cases d with
  | @k ks k hs hk hv h1 h2 =>
    subst hv
    refine ⟨_, DPut.k h1 (by rw [← h2.len]; exact hz), ?_⟩
    have kt : KT G H1 (upd H1 a (.dK (putK ks k y))) := KT.mut ⟨_, h1, trivial⟩
    exact ⟨⟨List.prefix_refl _, kt⟩, S.put hn (.inl ⟨_, upd_same, (h2.put hk r).imp fun p q z => ⟨z.1, z.2.mono (List.prefix_refl _) kt⟩⟩)⟩
  | @t ks k b hs hk hv hb h1 h2 =>
    subst hv
    refine ⟨_, DPut.t h1 hb (by rw [← h2.len]; exact hz), ?_⟩
    have kt : KT G H1 (upd H1 a (.dT (putK ks k y))) := KT.mut ⟨_, h1, trivial⟩
    exact ⟨⟨List.prefix_refl _, kt⟩, S.put hn (.inr ⟨_, upd_same, (h2.put hk r).imp fun p q z => ⟨z.1, z.2.mono (List.prefix_refl _) kt⟩⟩)⟩
end

/-! ### rules -/
def rIxD : R2 := fun x y H Q => ∃ a v H1, x = .ref a ∧ Sw H a H1 ∧ DGet H1 a y (some v) ∧ Q v H1
theorem ix_dict {X : Cx} (hu : X.A.units + 1 < cLine) : IxR X rIxD := by
  intro value slice pins s σ H x y v u Q I rx ry h hs
  obtain ⟨a, z, H1, rfl, sw, g, q⟩ := h
  cases rx
  have I1 := I.sw sw
  exact tail_any (dict_typeIs I1 g) PySem.F.slot_dict_getitem.lookup (d_getItem hu I1 g ry fun w' s3 I3 rw' => ⟨z, H1, I3, rw', q⟩) hs
def rInD (neg : Bool) : R2 := fun y x H Q => ∃ a o H1, x = .ref a ∧ Sw H a H1 ∧ DGet H1 a y o ∧ Q (.bl (if neg then !o.isSome else o.isSome)) H1
theorem op_inD {X : Cx} (hu : X.A.units + 1 < cLine) : OpR X (compareOp .In) (rInD false) := by
  intro pins s σ H x y v u Q I rx ry h
  obtain ⟨a, o, H1, rfl, sw, g, q⟩ := h
  cases ry
  exact d_in hu (I.sw sw) g rx fun s3 I3 => ⟨.bl o.isSome, H1, I3, rfl, q⟩
theorem op_notInD {X : Cx} (hu : X.A.units + 1 < cLine) : OpR X (compareOp .NotIn) (rInD true) := by
  intro pins s σ H x y v u Q I rx ry h
  obtain ⟨a, o, H1, rfl, sw, g, q⟩ := h
  cases ry
  exact d_notIn hu (I.sw sw) g rx fun s3 I3 => ⟨.bl (!o.isSome), H1, I3, rfl, q⟩
def rSetD : TSet := fun o i v H Q => ∃ a H1 H2, o = .ref a ∧ Sw H a H1 ∧ DPut H1 a i v H2 ∧ Q H2
theorem set_dict {X : Cx} (hu : X.A.units + 1 < cLine) : PSet X rSetD := by
  intro pins s σ H o i v ov iv u Q I ro ri rv h
  obtain ⟨a, H1, H2, rfl, sw, g, q⟩ := h
  cases ro
  exact d_setItem hu (I.sw sw) g ri rv fun s4 I4 => ⟨H2, I4, q⟩
theorem _root_.L2.PSet.or {X : Cx} {t t' : TSet} (h : PSet X t) (h' : PSet X t') : PSet X (fun o i v H Q => t o i v H Q ∨ t' o i v H Q) := by
  intro pins s σ H o i v ov iv u Q I ro ri rv q
  rcases q with q | q
  · exact h pins s σ H o i v ov iv u Q I ro ri rv q
  · exact h' pins s σ H o i v ov iv u Q I ro ri rv q

/-! ### with dicts -/
def vIx' (x y : W) (s : Store) : Res W := match x with
  | .ref n => match s.f n with
    | some (.dic kvs) => if kindOk kvs y then (match lookW kvs y with
      | some w => .ok w s
      | none => .err) else .err
    | _ => vIx x y s
  | _ => vIx x y s
abbrev rIx' (K : PySem.W.Frag) : R2 := fun x y H Q => rIx K x y H Q ∨ rIxD x y H Q
theorem ix_all {X : Cx} (hu : X.A.units + 1 < cLine) : IxR X (rIx' X.K) := ix_seq.or (ix_dict hu)
theorem ok_ix' : Op2Ok G vIx' (rIx' G.K) := by
  intro ρ H st x y v u Q Ex S rx ry p
  unfold vIx' at p
  split at p
  · split at p
    · rename_i n kvs hf
      split at p
      · rename_i hk
        obtain ⟨a, H1, rfl, hn, d⟩ := S.dAt rx hf ry hk
        obtain ⟨l, S1⟩ := sw_lat S hn hf d.sw
        obtain ⟨o, g, ho⟩ := d.look
        split at p
        · rename_i w hw
          rcases ho with ⟨e, _⟩ | ⟨x', y', e, rfl, r⟩
          · rw [hw] at e; cases e
          · rw [hw] at e
            cases e
            exact .inr ⟨a, y', H1, rfl, d.sw, g, p ρ H1 y' l S1 r⟩
        · exact p.elim
      · exact p.elim
    · exact .inl (ok_ix ρ H st _ y v u Q Ex S rx ry p)
  · exact .inl (ok_ix ρ H st _ y v u Q Ex S rx ry p)
def vIn' (neg : Bool) (x y : W) (s : Store) : Res W := match y with
  | .ref n => match s.f n with
    | some (.dic kvs) => if kindOk kvs x then .ok (.bl (if neg then !(lookW kvs x).isSome else (lookW kvs x).isSome)) s else .err
    | _ => vIn neg x y s
  | _ => vIn neg x y s
abbrev rIn' (K : PySem.W.Frag) : R2 := fun x y H Q => rInV K x y H Q ∨ rInD false x y H Q
abbrev rNotIn' (K : PySem.W.Frag) : R2 := fun x y H Q => rNotInV K x y H Q ∨ rInD true x y H Q
theorem ok_inD {neg : Bool} {ρ : List Addr} {H : Hp} {st : Store} {x : W} {n : Nat} {v u : V} {Q : VK} {Ex : XK} {kvs : List (W × W)} (S : Sim G ρ st H) (rx : RV G ρ H x v) (ry : RV G ρ H (.ref n) u) (hf : st.f n = some (.dic kvs)) (hk : kindOk kvs x = true)
    (p : Post G ρ H (RV G) (.ok (.bl (if neg then !(lookW kvs x).isSome else (lookW kvs x).isSome)) st) Q Ex) : rInD neg v u H Q := by
  obtain ⟨a, H1, rfl, hn, d⟩ := S.dAt ry hf rx hk
  obtain ⟨l, S1⟩ := sw_lat S hn hf d.sw
  obtain ⟨o, g, ho⟩ := d.look
  refine ⟨a, o, H1, rfl, d.sw, g, ?_⟩
  rcases ho with ⟨e, rfl⟩ | ⟨x', y', e, rfl, r⟩
  · rw [e] at p
    exact p ρ H1 _ l S1 (.bl _)
  · rw [e] at p
    exact p ρ H1 _ l S1 (.bl _)
theorem ok_in' : Op2Ok G (vIn' false) (rIn' G.K) := by
  intro ρ H st x y v u Q Ex S rx ry p
  unfold vIn' at p
  split at p
  · split at p
    · rename_i n kvs hf
      split at p
      · rename_i hk
        exact .inr (ok_inD S rx ry hf hk p)
      · exact p.elim
    · exact .inl (ok_in ρ H st x _ v u Q Ex S rx ry p)
  · exact .inl (ok_in ρ H st x _ v u Q Ex S rx ry p)
theorem ok_notIn' : Op2Ok G (vIn' true) (rNotIn' G.K) := by
  intro ρ H st x y v u Q Ex S rx ry p
  unfold vIn' at p
  split at p
  · split at p
    · rename_i n kvs hf
      split at p
      · rename_i hk
        exact .inr (ok_inD S rx ry hf hk p)
      · exact p.elim
    · exact .inl (ok_notIn ρ H st x _ v u Q Ex S rx ry p)
  · exact .inl (ok_notIn ρ H st x _ v u Q Ex S rx ry p)
/-- o[i] = v -/
def vSet : W → W → W → Store → Res Unit
  | .ref n, i, v, s => match s.f n with
    | some (.lst ys) => match i with
      | .int i => match ixN ys.length i with
        | some j => .ok () (s.put n (.lst (ys.set j v)))
        | none => .err
      | _ => .err
    | some (.dic kvs) => if kindOk kvs i ∧ kvs.length < LIM then .ok () (s.put n (.dic (putW kvs i v))) else .err
    | _ => .err
  | _, _, _, _ => .err
abbrev rSetV : TSet := fun o i v H Q => rSetL o i v H Q ∨ rSetD o i v H Q
theorem set_all {X : Cx} (hu : X.A.units + 1 < cLine) : PSet X rSetV := set_list.or (set_dict hu)
theorem ok_set {ρ : List Addr} {H : Hp} {st : Store} {o i v : W} {ov iv vv : V} {Q : Hp → Prop} {Ex : XK} (S : Sim G ρ st H) (ro : RV G ρ H o ov) (ri : RV G ρ H i iv) (rv : RV G ρ H v vv)
    (p : Post G ρ H RU (vSet o i v st) (fun _ H' => Q H') Ex) : rSetV ov iv vv H Q := by
  unfold vSet at p
  split at p
  · split at p
    · rename_i n _ _ ys hf
      split at p
      · cases ri
        obtain ⟨a, vs, rfl, hn, hy, rys⟩ := S.lst ro hf
        split at p
        · rename_i j hj
          rw [rys.length] at hj
          refine .inl ⟨a, vs, _, j, rfl, rfl, hy, hj, ?_⟩
          obtain ⟨l, S'⟩ := lst_put S hn hy (rys.set rv j)
          exact p ρ _ () l S' trivial
        · exact p.elim
      · exact p.elim
    · rename_i n _ _ kvs hf
      split at p
      · rename_i hk
        obtain ⟨a, H1, rfl, hn, d⟩ := S.dAt ro hf ri hk.1
        obtain ⟨l, S1⟩ := sw_lat S hn hf d.sw
        obtain ⟨H2, g, l2, S2⟩ := d.put S1 hn (l.rv rv) (by rw [lim_eq]; exact hk.2)
        exact .inr ⟨a, H1, H2, rfl, d.sw, g, p ρ H2 () (l.trans l2) S2 trivial⟩
      · exact p.elim
    · exact p.elim
  · exact p.elim
/-- len -/
def bLen' : List W → Store → Res W
  | [.ref n], s => match s.f n with
    | some (.dic kvs) => match kvs with
      | [] => .ok (.int 0) s
      | p :: _ => if (keyK p.1).isSome then .ok (.int kvs.length) s else .err
    | _ => bLen [.ref n] s
  | ws, s => bLen ws s
def rLenD : List V → Hp → VK → Prop := fun xs H Q => ∃ a kvs H1, xs = [V.ref a] ∧ Sw H a H1 ∧ H1 a = some (.dK kvs) ∧ Q (.int kvs.length) H1
theorem call_lenD' {X : Cx} : CallR X (.builtin "len") rLenD := by
  intro pins s σ H xs us Q I r h
  obtain ⟨a, kvs, H1, rfl, sw, h1, q⟩ := h
  exact call_lenD pins s σ H1 _ us Q (I.sw sw) r ⟨a, kvs, rfl, h1, q⟩
abbrev rLen' (K : PySem.W.Frag) : List V → Hp → VK → Prop := fun xs H Q => (∃ x n, xs = [x] ∧ LenV K x H n ∧ Q (.int n) H) ∨ rLenD xs H Q
theorem call_lenV {X : Cx} : CallR X (.builtin "len") (rLen' X.K) := call_len.or call_lenD'
theorem ok_len' : CallOk G bLen' (rLen' G.K) := by
  intro ρ H st ws vs Q Ex S rv p
  unfold bLen' at p
  split at p
  · split at p
    · rename_i n kvs hf
      cases rv with
      | cons r t =>
        cases t
        obtain ⟨a, rfl, hn, hd⟩ := S.dic r hf
        split at p
        · rcases hd with ⟨ks, h1, h2⟩ | ⟨ks, h1, h2⟩
          · cases h2
            exact .inr ⟨a, [], H, rfl, .inl rfl, h1, p.ret S (.int _)⟩
          · cases h2
            have sw : Sw H a (upd H a (.dK [])) := .inr (.inr ⟨h1, rfl⟩)
            obtain ⟨l, S1⟩ := sw_lat S hn hf sw
            exact .inr ⟨a, [], _, rfl, sw, upd_same, p ρ _ _ l S1 (.int _)⟩
        · rename_i q _
          split at p
          · rename_i hk
            rcases hd with ⟨ks, h1, h2⟩ | ⟨ks, h1, h2⟩
            · refine .inr ⟨a, ks, H, rfl, .inl rfl, h1, ?_⟩
              rw [← h2.len]
              exact p.ret S (.int _)
            · exfalso
              cases h2 with
              | cons z _ =>
                have hp := z.1
                unfold keyT at hp
                split at hp
                · rename_i ws he
                  rw [he] at hk
                  cases hk
                · cases hp
          · exact p.elim
    · exact .inl (ok_len ρ H st _ vs Q Ex S rv p)
  · exact .inl (ok_len ρ H st _ vs Q Ex S rv p)

/-! ### truth -/
def truW : W → Store → Option Bool
  | .non, _ => some false
  | .bl b, _ => some b
  | .int i, _ => some (i != 0)
  | .str x, _ => if x.length ≤ LIM then some ((x.length : Int) != 0) else none
  | .tup ys, _ => some (!ys.isEmpty)
  | .ref n, s => match s.f n with
    | some (.lst ys) => some (!ys.isEmpty)
    | some (.dic (p :: _)) => if (keyK p.1).isSome then some true else none
    | _ => none
  | _, _ => none
theorem emp_eq {ρ : List Addr} {H : Hp} {ws : List W} {vs : List V} (r : RVs G ρ H ws vs) : (!ws.isEmpty) = !vs.isEmpty := by cases r <;> rfl
theorem truW_ok {ρ : List Addr} {H : Hp} {st : Store} {w : W} {v : V} {b : Bool} (S : Sim G ρ st H) (r : RV G ρ H w v) (e : truW w st = some b) : TruV G.K v H b := by
  cases w with
  | non => cases r; simp [truW] at e; exact e.symm ▸ rfl
  | bl c => cases r; simp [truW] at e; exact e.symm
  | int c => cases r; simp only [truW, Option.some.injEq] at e; exact e.symm
  | str x =>
    cases r
    simp only [truW] at e
    split at e
    · rename_i h
      cases e
      exact ⟨by rw [lim_eq]; exact h, rfl⟩
    · cases e
  | tup ys =>
    obtain ⟨a, vs, rfl, h, rs⟩ := r.tup_inv
    simp only [truW, Option.some.injEq] at e
    exact .inr (.inl ⟨vs, h, by rw [← e, emp_eq rs]⟩)
  | ref n =>
    simp only [truW] at e
    split at e
    · rename_i ys hf
      obtain ⟨a, vs, rfl, hn, h, rs⟩ := S.lst r hf
      cases e
      exact .inl ⟨vs, SqL.of h, emp_eq rs⟩
    · rename_i p rest hf
      obtain ⟨a, rfl, hn, hd⟩ := S.dic r hf
      split at e
      · rename_i hk
        cases e
        rcases hd with ⟨ks, h1, h2⟩ | ⟨ks, h1, h2⟩
        · refine .inr (.inr ⟨ks, h1, ?_⟩)
          cases h2
          rfl
        · exfalso
          cases h2 with
          | cons z _ =>
            have hp := z.1
            unfold keyT at hp
            split at hp
            · rename_i ws he
              rw [he] at hk
              cases hk
            · cases hp
      · cases e
    · cases e
  | glb i => simp [truW] at e
  | ty n => simp [truW] at e
  | fl n => simp [truW] at e
end Q
/-! A7: what is walked; targets; loops; comprehensions. -/
namespace Q
open PySem PySem.Spec PyProof.Rows L2
variable {G : Gm} {Wx : WX}

/-! ### what is walked -/
inductive ItV where
  | lst (n : Nat)
  | tup (xs : List W)
  | rng (lo c : Int) (n : Nat)
  | str (x : Str)
  | enL (n : Nat)
  | enT (xs : List W)
  | zLL (n m : Nat)
  | zTT (xs ys : List W)
/-- at turn i: none: no answer; some none: it stops -/
def itAt : ItV → Nat → Store → Option (Option W)
  | .lst n, i, s => match s.f n with
    | some (.lst ys) => some ys[i]?
    | _ => none
  | .tup ys, i, _ => some ys[i]?
  | .rng lo c n, i, _ => if i < n then some (some (.int (lo + (i : Nat) * c))) else some none
  | .str x, i, _ => some (x.cps[i]?.map fun c => .str ⟨#[c]⟩)
  | .enL n, i, s => match s.f n with
    | some (.lst ys) => some (ys[i]?.map fun w => .tup [.int (i : Nat), w])
    | _ => none
  | .enT ys, i, _ => some (ys[i]?.map fun w => .tup [.int (i : Nat), w])
  | .zLL n m, i, s => match s.f n, s.f m with
    | some (.lst xs), some (.lst ys) => some (match xs[i]?, ys[i]? with
      | some x, some y => some (.tup [x, y])
      | _, _ => none)
    | _, _ => none
  | .zTT xs ys, i, _ => some (match xs[i]?, ys[i]? with
      | some x, some y => some (.tup [x, y])
      | _, _ => none)
/-- more turns than there are -/
def itFuel : ItV → Store → Nat
  | .lst n, s => match s.f n with
    | some (.lst ys) => ys.length + 1
    | _ => 0
  | .tup ys, _ => ys.length + 1
  | .rng _ _ n, _ => n + 1
  | .str x, _ => x.cps.size + 1
  | .enL n, s => match s.f n with
    | some (.lst ys) => ys.length + 1
    | _ => 0
  | .enT ys, _ => ys.length + 1
  | .zLL n _, s => match s.f n with
    | some (.lst ys) => ys.length + 1
    | _ => 0
  | .zTT xs _, _ => xs.length + 1
/-- J walks what iv says, from (ρ, H) on -/
def ItOk (G : Gm) (ρ0 : List Addr) (H0 : Hp) (iv : ItV) (J : It) : Prop := ∀ ρ st H i, Lat G ρ0 H0 ρ H → Sim G ρ st H →
  (itAt iv i st = some none → J.stop i H) ∧ ∀ w, itAt iv i st = some (some w) → J.go i H ∧ ∀ x H', J.yld i H x H' → Lat G ρ H ρ H' ∧ Sim G ρ st H' ∧ RV G ρ H' w x
def tII (G : Gm) (Wx : WX) (m : Ev ItV) : TI := fun σ H R => ∃ ρ e st, Rel G ρ e st σ H ∧ Post G ρ H (fun ρ' H' iv J => ItOk G ρ' H' iv J) (m e st) R fun c d H' => Wx c d σ H'

theorem sqL_get {K : PySem.W.Frag} {H : Hp} {a : Addr} {vs : List V} (h : H a = some (.lst vs)) : SqL K H a vs := SqL.of h
theorem itok_lst {ρ0 : List Addr} {H0 : Hp} {n : Nat} {a : Addr} (e : ρ0[n]? = some a) : ItOk G ρ0 H0 (.lst n) (Itl G.K a) := by
  intro ρ st H i l S
  have e' := pre_get l.pre e
  simp only [itAt]
  cases q : st.f n with
  | none => simp
  | some o =>
    cases o with
    | lst ys =>
      obtain ⟨vs, h1, h2⟩ := S.place e' q
      refine ⟨fun h => ?_, fun w h => ?_⟩
      · simp at h
        exact ⟨vs, SqL.of h1, by rw [← h2.length]; exact h⟩
      · have h : ys[i]? = some w := by simpa using h
        obtain ⟨v, hv, r⟩ := h2.get h
        refine ⟨⟨vs, v, SqL.of h1, hv⟩, fun x H' y => ?_⟩
        obtain ⟨rfl, y⟩ := y
        have := y vs (SqL.of h1)
        rw [hv] at this
        cases this
        exact ⟨.refl, S, r⟩
    | _ => simp
theorem itok_tup {ρ0 : List Addr} {H0 : Hp} {ys : List W} {a : Addr} {vs : List V} (h : SqT G.K H0 a vs) (r : RVs G ρ0 H0 ys vs) : ItOk G ρ0 H0 (.tup ys) (Itt G.K a) := by
  intro ρ st H i l S
  have h1 := l.kt.s _ _ h
  have h2 := l.rvs r
  simp only [itAt]
  refine ⟨fun h => ?_, fun w h => ?_⟩
  · simp at h
    exact ⟨vs, h1, by rw [← h2.length]; exact h⟩
  · have h : ys[i]? = some w := by simpa using h
    obtain ⟨v, hv, r⟩ := h2.get h
    refine ⟨⟨vs, v, h1, hv⟩, fun x H' y => ?_⟩
    obtain ⟨rfl, y⟩ := y
    have := y vs h1
    rw [hv] at this
    cases this
    exact ⟨.refl, S, r⟩
theorem itok_rng {ρ0 : List Addr} {H0 : Hp} {lo : Int} {n : Nat} : ItOk G ρ0 H0 (.rng lo 1 n) (Itr lo n) := by
  intro ρ st H i l S
  simp only [itAt]
  by_cases hi : i < n
  · rw [if_pos hi]
    refine ⟨fun h => by simp at h, fun w h => ⟨hi, fun x H' y => ?_⟩⟩
    obtain ⟨rfl, rfl⟩ := y
    have h : W.int (lo + (i : Nat) * 1) = w := by simpa using h
    subst h
    rw [Int.mul_one]
    exact ⟨.refl, S, .int _⟩
  · rw [if_neg hi]
    exact ⟨fun _ => Nat.le_of_not_lt hi, fun w h => by simp at h⟩
theorem itok_rngC {ρ0 : List Addr} {H0 : Hp} {lo c : Int} {n : Nat} : ItOk G ρ0 H0 (.rng lo c n) (Itc lo c n) := by
  intro ρ st H i l S
  simp only [itAt]
  by_cases hi : i < n
  · rw [if_pos hi]
    refine ⟨fun h => by simp at h, fun w h => ⟨hi, fun x H' y => ?_⟩⟩
    obtain ⟨rfl, rfl⟩ := y
    have h : W.int (lo + (i : Nat) * c) = w := by simpa using h
    subst h
    exact ⟨.refl, S, .int _⟩
  · rw [if_neg hi]
    exact ⟨fun _ => Nat.le_of_not_lt hi, fun w h => by simp at h⟩
theorem itok_str {ρ0 : List Addr} {H0 : Hp} {x : Str} : ItOk G ρ0 H0 (.str x) (Its x) := by
  intro ρ st H i l S
  simp only [itAt]
  refine ⟨fun h => ?_, fun w h => ?_⟩
  · simp at h
    exact h
  · have h : x.cps[i]?.map (fun c => W.str ⟨#[c]⟩) = some w := by simpa using h
    obtain ⟨c, hc, rfl⟩ := Option.map_eq_some_iff.mp h
    have hi : i < x.cps.size := by
      by_cases q : i < x.cps.size
      · exact q
      · rw [Array.getElem?_eq_none (Nat.le_of_not_lt q)] at hc; cases hc
    refine ⟨hi, fun y H' z => ?_⟩
    obtain ⟨rfl, c', h1, rfl⟩ := z
    rw [hc] at h1
    cases h1
    exact ⟨.refl, S, .str _⟩
theorem pair_new {ρ : List Addr} {st : Store} {H : Hp} {T : Addr} {w u : W} {x y : V} (S : Sim G ρ st H) (hT : H T = none) (r : RV G ρ H w x) (q : RV G ρ H u y) :
    Lat G ρ H ρ (upd H T (.tup [x, y])) ∧ Sim G ρ st (upd H T (.tup [x, y])) ∧ RV G ρ (upd H T (.tup [x, y])) (.tup [w, u]) (.ref T) := tup_new S hT (.cons r (.cons q .nil))
theorem itok_enL {ρ0 : List Addr} {H0 : Hp} {n : Nat} {a : Addr} (e : ρ0[n]? = some a) : ItOk G ρ0 H0 (.enL n) (Ite G.K a) := by
  intro ρ st H i l S
  have e' := pre_get l.pre e
  simp only [itAt]
  cases q : st.f n with
  | none => simp
  | some o =>
    cases o with
    | lst ys =>
      obtain ⟨vs, h1, h2⟩ := S.place e' q
      refine ⟨fun h => ?_, fun w h => ?_⟩
      · simp at h
        exact ⟨vs, SqL.of h1, by rw [← h2.length]; exact h⟩
      · have h : ys[i]?.map (fun w => W.tup [.int (i : Nat), w]) = some w := by simpa using h
        obtain ⟨w, hw, rfl⟩ := Option.map_eq_some_iff.mp h
        obtain ⟨v, hv, r⟩ := h2.get hw
        refine ⟨⟨vs, v, SqL.of h1, hv⟩, fun x H' y => ?_⟩
        obtain ⟨T, x', rfl, hT, rfl, y⟩ := y
        have := y vs (SqL.of h1)
        rw [hv] at this
        cases this
        exact pair_new S hT (.int _) r
    | _ => simp
theorem itok_zLL {ρ0 : List Addr} {H0 : Hp} {n m : Nat} {a b : Addr} (e : ρ0[n]? = some a) (f : ρ0[m]? = some b) : ItOk G ρ0 H0 (.zLL n m) (Itz G.K a b) := by
  intro ρ st H i l S
  have e' := pre_get l.pre e
  have f' := pre_get l.pre f
  simp only [itAt]
  split
  · rename_i xs ys q1 q2
    obtain ⟨vs, h1, h2⟩ := S.place e' q1
    obtain ⟨us, k1, k2⟩ := S.place f' q2
    refine ⟨fun h => ?_, fun w h => ?_⟩
    · refine ⟨vs, us, SqL.of h1, SqL.of k1, ?_⟩
      cases hx : xs[i]? with
      | none => exact .inl (by rw [← h2.length]; simpa using hx)
      | some x =>
        cases hy : ys[i]? with
        | none => exact .inr (by rw [← k2.length]; simpa using hy)
        | some y => simp [hx, hy] at h
    · cases hx : xs[i]? with
      | none => simp [hx] at h
      | some x =>
        cases hy : ys[i]? with
        | none => simp [hx, hy] at h
        | some y =>
          have h : W.tup [x, y] = w := by simpa [hx, hy] using h
          subst h
          obtain ⟨v, hv, r⟩ := h2.get hx
          obtain ⟨u, hu, t⟩ := k2.get hy
          refine ⟨⟨vs, us, v, u, SqL.of h1, SqL.of k1, hv, hu⟩, fun x H' z => ?_⟩
          obtain ⟨T, x', y', rfl, hT, rfl, z1, z2⟩ := z
          have z1 := z1 vs (SqL.of h1)
          have z2 := z2 us (SqL.of k1)
          rw [hv] at z1
          rw [hu] at z2
          cases z1
          cases z2
          exact pair_new S hT r t
  · exact ⟨fun h => by simp at h, fun w h => by simp at h⟩
theorem itok_zTT {ρ0 : List Addr} {H0 : Hp} {xs ys : List W} {a b : Addr} {vs us : List V} (h1 : SqT G.K H0 a vs) (h2 : RVs G ρ0 H0 xs vs) (k1 : SqT G.K H0 b us) (k2 : RVs G ρ0 H0 ys us) : ItOk G ρ0 H0 (.zTT xs ys) (RZ.ItzT G.K a b) := by
  intro ρ st H i l S
  have h1 := l.kt.s _ _ h1
  have k1 := l.kt.s _ _ k1
  have h2 := l.rvs h2
  have k2 := l.rvs k2
  simp only [itAt]
  refine ⟨fun h => ?_, fun w h => ?_⟩
  · refine ⟨vs, us, h1, k1, ?_⟩
    cases hx : xs[i]? with
    | none => exact .inl (by rw [← h2.length]; simpa using hx)
    | some x =>
      cases hy : ys[i]? with
      | none => exact .inr (by rw [← k2.length]; simpa using hy)
      | some y => simp [hx, hy] at h
  · cases hx : xs[i]? with
    | none => simp [hx] at h
    | some x =>
      cases hy : ys[i]? with
      | none => simp [hx, hy] at h
      | some y =>
        have h : W.tup [x, y] = w := by simpa [hx, hy] using h
        subst h
        obtain ⟨v, hv, r⟩ := h2.get hx
        obtain ⟨u, hu, t⟩ := k2.get hy
        refine ⟨⟨vs, us, v, u, h1, k1, hv, hu⟩, fun x H' z => ?_⟩
        obtain ⟨T, x', y', rfl, hT, rfl, z1, z2⟩ := z
        have z1 := z1 vs h1
        have z2 := z2 us k1
        rw [hv] at z1
        rw [hu] at z2
        cases z1
        cases z2
        exact pair_new S hT r t
end Q
/-! A8: enumerate of a tuple; what is walked, as expressions. -/
namespace PySem
open Sem (wp)
open AutoSeq1 (wpAny_loadPart')
theorem meets_enumerate_newTup (t : Addr) (items : Array Value) (n : Nat) (dct : Option Addr) (sl : Array (Option Value)) :
    Meets (Builtin.«enumerate.__new__» ⟨[.type "enumerate", .ref t], []⟩) (fun _ R s =>
      s.heap.get? t = some { cls := .type "tuple", dict := dct, data := .seq items n, slots := sl } ∧
      R (.ok (.ret (.ref (s.heap.push { cls := .type "tuple_iterator", data := .fields #[.ref t, .int 0 0] }).objs.size)))
        { s with heap := Heap.push (s.heap.push { cls := .type "tuple_iterator", data := .fields #[.ref t, .int 0 0] }) { cls := .type "enumerate", data := .fields #[.none, .bool false, .ref s.heap.objs.size, rawInt 0, .none, .none] } }) :=
  .of_wp fun prog w A R s h => by
    obtain ⟨hp, g, d, tk, os⟩ := s
    obtain ⟨ht, h⟩ := h
    have hT : Heap.IsTuple (Shared.heap ⟨hp, g, d, tk, os⟩) t items := ⟨_, ht, rfl, n, rfl⟩
    have hs := sub_enumerate
    wp_walk using wpAny_loadPart' ht
    refine wpAny_stack_any fun st => wpAny_pure ?_
    split
    · rename_i c _ _ _ _ _
      cases (c == Value.type "enumerate") <;>
        (wp_walk using wpAny_loadPart' ht, wpAny_pyIter_tuple hT
         exact ⟨_, rfl, h⟩)
    · wp_walk using wpAny_loadPart' ht, wpAny_pyIter_tuple hT
      exact ⟨_, rfl, h⟩
theorem call_enumerate_tup {prog : Program} {w : World} {A : Around} {E : Value → Shared → Prop} {s : Shared} {t : Addr} {items : Array Value} {Q : Value → Shared → Prop} (hT : s.heap.IsTuple t items)
    (h : ∀ h', IsEnum h' (s.heap.objs.size + 1) s.heap.objs.size 0 .none → h'.IsTupleIter s.heap.objs.size t 0 →
      (∀ b o, s.heap.get? b = some o → h'.get? b = some o) → Q (.ref (s.heap.objs.size + 1)) { s with heap := h' }) :
    wpAny (model prog w) A (call (.type "enumerate") [.ref t]) Q E s := by
  obtain ⟨⟨c, dct, dt, sl⟩, ht, hc, n, hd⟩ := hT
  cases (show c = .type "tuple" from hc)
  cases (show dt = .seq items n from hd)
  refine callType_new F.called_enumerate (by decide) (F.typeCall_enumerate_1 _) (F.newCall_enumerate_1 _) (fun obj => F.args_object_init_2 obj _)
    F.entry_enumerate_new (meets_enumerate_newTup t items n dct sl) ⟨ht, ?_⟩
  generalize hit : ({ cls := .type "tuple_iterator", data := .fields #[.ref t, .int 0 0] } : Obj) = oi
  have z : (s.heap.push oi).objs.size = s.heap.objs.size + 1 := Heap.size_push ..
  show _ ∧ _
  rw [z]
  have en := Heap.get?_push_size (s.heap.push oi) (o := { cls := .type "enumerate", data := .fields #[.none, .bool false, .ref s.heap.objs.size, rawInt 0, .none, .none] }) rfl
  rw [z] at en
  have free : oi.isFreed = false := by rw [← hit]; rfl
  exact ⟨⟨_, en, rfl⟩, h _ en ⟨oi, Heap.get?_push_of_some _ (Heap.get?_push_size _ free), by rw [← hit], by rw [← hit]; rfl⟩
    fun b o x => Heap.get?_push_of_some _ (Heap.get?_push_of_some _ x)⟩
end PySem
namespace Q
open PySem PySem.Spec PyProof.Rows L2
variable {G : Gm} {Wx : WX}
/-- enumerate of the tuple at a -/
def IteT (K : PySem.W.Frag) (a : Addr) : It where
  go i H := ∃ (xs : List V) (x : V), SqT K H a xs ∧ xs[i]? = some x
  yld i H v H' := ∃ T x, v = .ref T ∧ H T = none ∧ H' = upd H T (.tup [.int (i : Nat), x]) ∧ ∀ xs, SqT K H a xs → xs[i]? = some x
  stop i H := ∃ xs : List V, SqT K H a xs ∧ xs.length ≤ i
theorem turn_enT {P : Program} {w : World} {K : PySem.W.Frag} {elts : List Expr} {kk : Nat} {tp : Pos} (a e it : Addr) :
    Turn P w K (.Tuple elts kk tp) (IteT K a) [e, it] e fun i h => (∃ old, IsEnum h e it ((i : Nat) : Int) old) ∧ h.IsTupleIter it a i ∧ e ≠ it where
  mem := by simp
  obj := fun i h ⟨⟨old, he⟩, ⟨o, ho, _, hd⟩, _⟩ b hb => by
    have hb : b = e ∨ b = it := by simpa using hb
    rcases hb with rfl | rfl
    · exact ⟨_, he, fun v q => nomatch q⟩
    · exact ⟨o, ho, fun v q => by rw [hd] at q; cases q⟩
  keep := fun i h h' ⟨⟨old, he⟩, hi, hne⟩ k => ⟨⟨old, k e (by simp) _ he⟩, hi.at fun o q => k it (by simp) o q, hne⟩
  item := by
    intro X hP hw hK hc i pins s σ H E I hf ⟨⟨old, he⟩, hit, hne⟩ ⟨xs, x, hq, hx⟩
    subst hP hw hK
    obtain ⟨its, rv, p, hz⟩ := I.tuple hq
    obtain ⟨u, hu, ru⟩ := rv.get hx
    have hT : s.heap.IsTuple a its.toArray := p
    have hel : e < s.heap.objs.size := Heap.lt_size he
    have hil : it < s.heap.objs.size := by obtain ⟨_, q, _⟩ := hit; exact Heap.lt_size q
    have hae : e ≠ a := by
      rintro rfl
      obtain ⟨o, ho, hc', _⟩ := hT
      rw [he] at ho
      cases ho
      exact absurd (Value.type.inj hc') (by decide)
    have hai : a ≠ it := by
      rintro rfl
      obtain ⟨o, ho, hc', _⟩ := hT
      obtain ⟨o', ho', hc2, _⟩ := hit
      rw [ho] at ho'
      cases ho'
      rw [hc'] at hc2
      exact absurd (Value.type.inj hc2) (by decide)
    have D := Draws.tuple (prog := X.prog) (w := X.w) (A := X.A.in1) (I.ok.hd hc) it a hai its.toArray
    have hlt : i < its.toArray.size := by
      have := (List.getElem?_eq_some_iff.mp hu).1
      simpa using this
    refine wpAny_pyNext_enum_itemD D he ⟨hit, hT⟩ hlt hne (by simp [hne, hae]) fun y h' tk hy ho st' hN hsz hk => ?_
    obtain ⟨hit', _⟩ := st'
    have hy : y = u := by
      have h1 : its.toArray[i]? = some u := by simpa using hu
      rw [h1] at hy
      exact (Option.some.inj hy).symm
    subst hy
    refine ⟨_, rfl, wpAny_letOwnedTupleGo_enum (s := { s with heap := h', toks := tk + 1 }) ho fun h'' he' sb => ?_⟩
    have ne1 : s.heap.objs.size ≠ e := Nat.ne_of_gt hel
    have new : ObjOk X.prog X.w (upd H s.heap.objs.size (.tup [.int (i : Nat), x])) h'' s.heap.objs.size (.tup [.int (i : Nat), x]) :=
      ⟨by show 2 ≤ sizeLine; decide, [.int i tk, y], .cons ⟨_, rfl⟩ (.cons ru .nil), ⟨_, (sb.2 _ ne1).trans hN, rfl, _, rfl⟩⟩
    have I1 : Inv X pins σ (upd H s.heap.objs.size (.tup [.int (i : Nat), x])) { s with heap := h'', toks := tk + 1 } :=
      I.turnedNew (ch := [e, it]) (fun b ob hb q => by
        have hb1 : b ≠ e := fun z => hb (by simp [z])
        have hb2 : b ≠ it := fun z => hb (by simp [z])
        exact (sb.2 b hb1).trans (hk b ob hb1 hb2 q)) hf (Nat.le_refl _) new
    refine ⟨.ref s.heap.objs.size, _, I1, rfl, ⟨_, x, rfl, I.hok.fresh (Nat.le_refl _), rfl, fun ys hy => by rw [I.tuple_inj hy hq]; exact hx⟩, ⟨⟨y, ?_⟩, hit'.at fun o q => (sb.2 it (Ne.symm hne)).trans q, hne⟩, fun b hb => ?_⟩
    · have e1 : ((i + 1 : Nat) : Int) = (i : Int) + 1 := by omega
      rw [e1]
      exact he'
    · have hb' : b = e ∨ b = it := by simpa using hb
      have hlt' : b < s.heap.objs.size := by rcases hb' with rfl | rfl <;> assumption
      rw [upd_ne (Nat.ne_of_lt hlt')]
      exact (hf b hb).1
  done := by
    intro X hP hw hK hc i pins s σ H E I hf ⟨⟨old, he⟩, hit, hne⟩ ⟨xs, hq, hx⟩
    subst hP hw hK
    obtain ⟨its, rv, p, hz⟩ := I.tuple hq
    have hT : s.heap.IsTuple a its.toArray := p
    obtain ⟨f0, f1, f2, f3, f4, f5⟩ := hf it (by simp)
    have hai : a ≠ it := by
      rintro rfl
      obtain ⟨o, ho, hc', _⟩ := hT
      obtain ⟨o', ho', hc2, _⟩ := hit
      rw [ho] at ho'
      cases ho'
      rw [hc'] at hc2
      exact absurd (Value.type.inj hc2) (by decide)
    have hl := rv.length
    -- at or behind the end
    have hT2 : s.TypeIs (.ref e) "enumerate" := ⟨_, he, rfl⟩
    unfold pyNext
    refine wpAny_bind (wpAny_attempt (wpAny_callSpecial?_slot (name := Str.ofString "__next__") hT2 F.slot_enumerate_next
      (wpAny_call_entry F.slot_enumerate_next hT2 F.entry_enumerate_next ?_ (F.args_enumerate_next_1 _))))
    show wpAny _ _ (field (.ref e) 2 >>= _) _ _ _
    refine wpAny_bind (wpAny_field he rfl (x := .ref it) rfl ?_)
    refine wpAny_bind (wpAny_nextOf_tuple_end (I.ok.hd hc) hit hT (by simp; omega) fun h' x he' hx' => ?_)
    obtain ⟨o, ho, hc⟩ := hx'
    refine wpAny_bind (wpAny_isInstance (T := "StopIteration") (b := true) ⟨o, ho, hc⟩ isSubtype_stop ?_)
    exact wpAny_pure ⟨rfl, I.turned (t' := s.toks) (fun b o hb q => he' b o hb q) f0 f1 f3 f4 f5⟩
  self := fun _ _ _ _ _ ⟨⟨_, he⟩, _⟩ h => wpAny_pyIter_enum he h
theorem itok_enT {ρ0 : List Addr} {H0 : Hp} {ys : List W} {a : Addr} {vs : List V} (h : SqT G.K H0 a vs) (r : RVs G ρ0 H0 ys vs) : ItOk G ρ0 H0 (.enT ys) (IteT G.K a) := by
  intro ρ st H i l S
  have h1 := l.kt.s _ _ h
  have h2 := l.rvs r
  simp only [itAt]
  refine ⟨fun h => ?_, fun w h => ?_⟩
  · simp at h
    exact ⟨vs, h1, by rw [← h2.length]; exact h⟩
  · have h : ys[i]?.map (fun w => W.tup [.int (i : Nat), w]) = some w := by simpa using h
    obtain ⟨w, hw, rfl⟩ := Option.map_eq_some_iff.mp h
    obtain ⟨v, hv, r⟩ := h2.get hw
    refine ⟨⟨vs, v, h1, hv⟩, fun x H' y => ?_⟩
    obtain ⟨T, x', rfl, hT, rfl, y⟩ := y
    have := y vs h1
    rw [hv] at this
    cases this
    exact pair_new S hT (.int _) r

/-! ### as expressions -/
theorem _root_.L2.PI.or {X : Cx} {tg iter : Expr} {wi wj : TI} (h : PI X tg iter wi) (h' : PI X tg iter wj) : PI X tg iter (fun σ H R => wi σ H R ∨ wj σ H R) := ⟨fun pins s σ H R I q => by
  rcases q with q | q
  · exact h.run pins s σ H R I q
  · exact h'.run pins s σ H R I q⟩
theorem piM {X : Cx} {tg iter : Expr} {t t' : TI} (h : PI X tg iter t) (f : ∀ σ H Q, t' σ H Q → t σ H Q) : PI X tg iter t' := ⟨fun pins s σ H Q I q => h.run pins s σ H Q I (f σ H Q q)⟩
def eIter (m : Ev W) : Ev ItV := fun e s => (m e s).bind fun w s1 => match w with
  | .tup ys => .ok (.tup ys) s1
  | .str x => .ok (.str x) s1
  | .ref n => match s1.f n with
    | some (.lst _) => .ok (.lst n) s1
    | _ => .err
  | _ => .err
theorem si_iter {X : Cx} (hK : X.K = G.K) {tg e : Expr} {m : Ev W} (h : PE X e (tI G Wx m)) : PI X tg e (tII G Wx (eIter m)) := by
  refine piM ((pi_list h).or ((pi_tup h).or (pi_str h))) ?_
  rintro σ H R ⟨ρ, e, st, Rl, p⟩
  rw [hK]
  -- which of them
  cases q : m e st with
  | err => simp only [eIter, q] at p; exact p.elim
  | exc c w s1 =>
    refine .inl ⟨ρ, e, st, Rl, ?_⟩
    simp only [eIter, q] at p
    rw [q]
    exact p
  | ok w s1 =>
    simp only [eIter, q, Res.bind] at p
    cases w with
    | tup ys =>
      refine .inr (.inl ⟨ρ, e, st, Rl, ?_⟩)
      rw [q]
      intro ρ' H' v l S r
      obtain ⟨a, vs, rfl, hv, rs⟩ := r.tup_inv
      exact ⟨a, rfl, ⟨vs, hv⟩, p ρ' H' _ l S (itok_tup hv rs)⟩
    | str x =>
      refine .inr (.inr ⟨ρ, e, st, Rl, ?_⟩)
      rw [q]
      intro ρ' H' v l S r
      cases r
      exact ⟨x, rfl, p ρ' H' _ l S itok_str⟩
    | ref n =>
      refine .inl ⟨ρ, e, st, Rl, ?_⟩
      rw [q]
      intro ρ' H' v l S r
      cases q2 : s1.f n with
      | none => simp only [q2] at p; exact p.elim
      | some o =>
        cases o with
        | lst ys =>
          simp only [q2] at p
          obtain ⟨a, vs, rfl, ha, h1, rs⟩ := S.lst r q2
          exact ⟨a, rfl, ⟨vs, SqL.of h1⟩, p ρ' H' _ l S (itok_lst ha)⟩
        | _ => simp only [q2] at p; exact p.elim
    | _ => exact p.elim
def rgOk (i : Int) : Bool := Nat.ble i.natAbs 4611686018427387903
theorem rgOk_iff {i : Int} (h : rgOk i = true) : -(2 ^ 62) ≤ i ∧ i < 2 ^ 62 := by
  have := Nat.le_of_ble_eq_true h
  omega
def mkRange : List W → Store → Res ItV
  | [.int j], s => if rgOk j then .ok (.rng 0 1 j.toNat) s else .err
  | [.int i, .int j], s => if rgOk i && rgOk j then .ok (.rng i 1 (j - i).toNat) s else .err
  | [.int i, .int j, .int (-1)], s => if rgOk i && rgOk j then .ok (.rng i (-1) (i - j).toNat) s else .err
  | _, _ => .err
def eRange (m : Ev (List W)) : Ev ItV := fun e s => (m e s).bind fun ws s1 => mkRange ws s1
theorem si_range1 {X : Cx} {tg a : Expr} {p pos : Pos} {m : Ev (List W)} (hg : Gl X "range") (hm : X.mg "range" = none) (ha : PA X [a] (tIA G Wx m)) (na : isSt a = false) : PI X tg (.Call (.Name "range" p) [a] [] pos) (tII G Wx fun e s => (m e s).bind fun ws s1 => match ws with
    | [_] => mkRange ws s1
    | _ => .err) := by
  refine piM (pi_range1 hg hm ha (by rw [star_plain na]; rfl)) ?_
  rintro σ H R ⟨ρ, e, st, Rl, p⟩
  refine ⟨ρ, e, st, Rl, Post.bind p fun ws s1 ρ1 H1 vs l1 S1 r1 p1 => ?_⟩
  cases r1 with
  | nil => exact p1.elim
  | cons r t =>
    cases t with
    | cons r2 t2 => exact p1.elim
    | nil =>
      cases r with
      | int j =>
        simp only [mkRange] at p1
        split at p1
        · rename_i h
          obtain ⟨h1, h2⟩ := rgOk_iff h
          exact ⟨j, rfl, h1, h2, p1 ρ1 H1 _ .refl S1 itok_rng⟩
        · exact p1.elim
      | _ => exact p1.elim
theorem si_range2 {X : Cx} {tg a b : Expr} {p pos : Pos} {m : Ev (List W)} (hg : Gl X "range") (hm : X.mg "range" = none) (ha : PA X [a, b] (tIA G Wx m)) (na : isSt a = false) (nb : isSt b = false) : PI X tg (.Call (.Name "range" p) [a, b] [] pos) (tII G Wx fun e s => (m e s).bind fun ws s1 => match ws with
    | [_, _] => mkRange ws s1
    | _ => .err) := by
  refine piM (pi_range2 hg hm ha (by rw [star_plain na, star_plain nb]; rfl) (by rw [star_plain nb]; rfl)) ?_
  rintro σ H R ⟨ρ, e, st, Rl, p⟩
  refine ⟨ρ, e, st, Rl, Post.bind p fun ws s1 ρ1 H1 vs l1 S1 r1 p1 => ?_⟩
  cases r1 with
  | nil => exact p1.elim
  | cons r t =>
    cases t with
    | nil => exact p1.elim
    | cons r2 t2 =>
      cases t2 with
      | cons r3 t3 => exact p1.elim
      | nil =>
        cases r with
        | int i =>
          cases r2 with
          | int j =>
            simp only [mkRange] at p1
            split at p1
            · rename_i h
              rw [Bool.and_eq_true] at h
              obtain ⟨h1, h2⟩ := rgOk_iff h.1
              obtain ⟨h3, h4⟩ := rgOk_iff h.2
              exact ⟨i, j, rfl, ⟨h1, h2, h3, h4⟩, p1 ρ1 H1 _ .refl S1 itok_rng⟩
            · exact p1.elim
          | _ => exact p1.elim
        | _ => exact p1.elim
end Q
/-! A9: enumerate, zip; targets; loops; comprehensions. -/
namespace Q
open PySem PySem.Spec PyProof.Rows L2
variable {G : Gm} {Wx : WX}

/-! ### enumerate, zip -/
def mkEnum : List W → Store → Res ItV
  | [.tup ys], s => .ok (.enT ys) s
  | [.ref n], s => match s.f n with
    | some (.lst _) => .ok (.enL n) s
    | _ => .err
  | _, _ => .err
def eEnum (m : Ev (List W)) : Ev ItV := fun e s => (m e s).bind fun ws s1 => mkEnum ws s1
/-- of a list, of a tuple -/
def iEnumA (K : PySem.W.Frag) (ta : TA) : TI := fun σ H R => ta σ H fun vs H1 => ∃ a, vs = [.ref a] ∧ ((∃ xs, SqL K H1 a xs ∧ R (Ite K a) H1) ∨ ∃ xs, SqT K H1 a xs ∧ R (IteT K a) H1)
theorem pi_enumA {X : Cx} {e : Expr} {ta : TA} {p pos tp : Pos} {elts : List Expr} {kk : Nat} (hg : Gl X "enumerate") (hm : X.mg "enumerate" = none) (ha : PA X [e] ta) (hs : starEach [e] X.env = [(false, eval e X.env)]) :
    PI X (.Tuple elts kk tp) (.Call (.Name "enumerate" p) [e] [] pos) (iEnumA X.K ta) := by
  refine ⟨fun pins s σ H R I h => ?_⟩
  refine Call_ (ld_blt I hg hm boot_enumerate (PyProof.Rows.callWith_type1 (thn (ha.run pos pins s σ H _ I h) fun us s1 ⟨vs, H1, I1, r1, a, ex, q1⟩ => ?_) hs rfl))
  subst ex
  obtain ⟨u, rfl, r⟩ := vals1 r1
  cases r
  have two : ∀ b, b ∈ [s1.heap.objs.size + 1, s1.heap.objs.size] → s1.heap.objs.size ≤ b := fun b hb => by
    have hb : b = s1.heap.objs.size + 1 ∨ b = s1.heap.objs.size := by simpa using hb
    rcases hb with rfl | rfl
    · exact Nat.le_succ _
    · exact Nat.le_refl _
  rcases q1 with ⟨xs, hq, q⟩ | ⟨xs, hq, q⟩
  · obtain ⟨its, rv, pl, hz⟩ := I1.list hq
    refine call_enumerate_list pl.isList fun h' he hit hsz hk => wpAny_pyIter_enum he ?_
    exact ⟨s1.heap.objs.size + 1, [s1.heap.objs.size + 1, s1.heap.objs.size], _, _, H1, rfl, I1.kept (t' := s1.toks) hk, turn_enum a (s1.heap.objs.size + 1) s1.heap.objs.size, ⟨⟨.none, he⟩, hit, Nat.succ_ne_self _⟩,
      fun b hb => I1.fpOk (two b hb) (I1.hok.fresh (two b hb)), q⟩
  · obtain ⟨its, rv, pl, hz⟩ := I1.tuple hq
    refine call_enumerate_tup (items := its.toArray) pl fun h' he hit hk => wpAny_pyIter_enum he ?_
    exact ⟨s1.heap.objs.size + 1, [s1.heap.objs.size + 1, s1.heap.objs.size], _, _, H1, rfl, I1.kept (t' := s1.toks) hk, turn_enT a (s1.heap.objs.size + 1) s1.heap.objs.size, ⟨⟨.none, he⟩, hit, Nat.succ_ne_self _⟩,
      fun b hb => I1.fpOk (two b hb) (I1.hok.fresh (two b hb)), q⟩
theorem si_enum {X : Cx} (hK : X.K = G.K) {a : Expr} {p pos tp : Pos} {elts : List Expr} {kk : Nat} {m : Ev (List W)} (hg : Gl X "enumerate") (hm : X.mg "enumerate" = none) (ha : PA X [a] (tIA G Wx m)) (na : isSt a = false) :
    PI X (.Tuple elts kk tp) (.Call (.Name "enumerate" p) [a] [] pos) (tII G Wx (eEnum m)) := by
  refine piM (pi_enumA hg hm ha (by rw [star_plain na]; rfl)) ?_
  rintro σ H R ⟨ρ, e, st, Rl, p⟩
  refine ⟨ρ, e, st, Rl, Post.bind p fun ws s1 ρ1 H1 vs l1 S1 r1 p1 => ?_⟩
  rw [hK]
  unfold mkEnum at p1
  split at p1
  · cases r1 with
    | cons r t =>
      cases t
      obtain ⟨a, vs, rfl, hv, rs⟩ := r.tup_inv
      exact ⟨a, rfl, .inr ⟨vs, hv, p1 ρ1 H1 _ .refl S1 (itok_enT hv rs)⟩⟩
  · cases r1 with
    | cons r t =>
      cases t
      split at p1
      · rename_i h0
        obtain ⟨a, vs, rfl, ea, h1, rs⟩ := S1.lst r h0
        exact ⟨a, rfl, .inl ⟨vs, SqL.of h1, p1 ρ1 H1 _ .refl S1 (itok_enL ea)⟩⟩
      · exact p1.elim
  · exact p1.elim
def mkZip : List W → Store → Res ItV
  | [.tup xs, .tup ys], s => .ok (.zTT xs ys) s
  | [.ref n, .ref m], s => match s.f n, s.f m with
    | some (.lst _), some (.lst _) => .ok (.zLL n m) s
    | _, _ => .err
  | _, _ => .err
def eZip (m : Ev (List W)) : Ev ItV := fun e s => (m e s).bind fun ws s1 => mkZip ws s1
theorem si_zip {X : Cx} (hK : X.K = G.K) {a b : Expr} {p pos tp : Pos} {elts : List Expr} {kk : Nat} {m : Ev (List W)} (hg : Gl X "zip") (hm : X.mg "zip" = none) (ha : PA X [a, b] (tIA G Wx m)) (na : isSt a = false) (nb : isSt b = false) :
    PI X (.Tuple elts kk tp) (.Call (.Name "zip" p) [a, b] [] pos) (tII G Wx (eZip m)) := by
  refine piM (RZ.pi_zipA hg hm ha (star_plain na) (star_all (by simp [nb]))) ?_
  rintro σ H R ⟨ρ, e, st, Rl, p⟩
  refine ⟨ρ, e, st, Rl, Post.bind p fun ws s1 ρ1 H1 vs l1 S1 r1 p1 => ?_⟩
  rw [hK]
  unfold mkZip at p1
  split at p1
  · cases r1 with
    | cons r t =>
      cases t with
      | cons r2 t2 =>
        cases t2
        obtain ⟨a, vs, rfl, hv, rs⟩ := r.tup_inv
        obtain ⟨b, us, rfl, hu, ts⟩ := r2.tup_inv
        exact ⟨a, b, vs, us, rfl, .inr ⟨hv, hu, p1 ρ1 H1 _ .refl S1 (itok_zTT hv rs hu ts)⟩⟩
  · cases r1 with
    | cons r t =>
      cases t with
      | cons r2 t2 =>
        cases t2
        split at p1
        · rename_i h0 h00
          obtain ⟨a, vs, rfl, ea, h1, rs⟩ := S1.lst r h0
          obtain ⟨b, us, rfl, eb, h2, ts⟩ := S1.lst r2 h00
          exact ⟨a, b, vs, us, rfl, .inl ⟨SqL.of h1, SqL.of h2, p1 ρ1 H1 _ .refl S1 (itok_zLL ea eb)⟩⟩
        · exact p1.elim
  · exact p1.elim

/-! ### targets -/
inductive Tg where
  | nm (i : Nat)
  | tup (ts : List Tg)
mutual
def tgE : Tg → W → Env' → Option Env'
  | .nm i, w, e => if i < e.length then some (e.set i (some w)) else none
  | .tup ts, w, e => match w with
    | .tup ws => tgsE ts ws e
    | _ => none
def tgsE : List Tg → List W → Env' → Option Env'
  | [], [], e => some e
  | t :: ts, w :: ws, e => match tgE t w e with
    | some e1 => tgsE ts ws e1
    | none => none
  | _, _, _ => none
end
mutual
/-- its reading -/
def tgR (K : PySem.W.Frag) : Tg → TG
  | .nm i => gName i
  | .tup ts => gTup K ts.length (tgsR K ts)
def tgsR (K : PySem.W.Frag) : List Tg → TGs
  | [] => gNil
  | t :: ts => gCons (tgR K t) (tgsR K ts)
end
mutual
/-- the slots it writes -/
def tgI : Tg → List Nat
  | .nm i => [i]
  | .tup ts => tgsI ts
def tgsI : List Tg → List Nat
  | [] => []
  | t :: ts => tgI t ++ tgsI ts
end
theorem REnv.set {ρ : List Addr} {H : Hp} {e : Env'} {σ : St} {w : W} {v : V} (h : REnv G ρ H e σ) (r : RV G ρ H w v) (i : Nat) : REnv G ρ H (e.set i (some w)) (σ.set i (some v)) := by
  refine ⟨by simp [h.1], fun j u q => ?_⟩
  by_cases hj : j = i
  · subst hj
    have hl : j < e.length := by
      have := (List.getElem?_eq_some_iff.mp q).1
      simpa using this
    rw [List.getElem?_set_self hl] at q
    cases q
    exact ⟨v, by rw [List.getElem?_set_self (by rw [← h.1]; exact hl)], r⟩
  · rw [List.getElem?_set_ne (Ne.symm hj)] at q
    obtain ⟨x, h1, h2⟩ := h.2 j u q
    exact ⟨x, by rw [List.getElem?_set_ne (Ne.symm hj)]; exact h1, h2⟩
/-- only the slots of vs differ -/
def OnlyAt (vs : List Nat) (σ σ' : St) : Prop := σ'.length = σ.length ∧ ∀ i, i ∉ vs → σ'[i]? = σ[i]?
theorem wipe_get {σ : St} : ∀ {vs : List Nat} {i : Nat}, (wipe σ vs)[i]? = if i ∈ vs ∧ i < σ.length then some none else σ[i]?
  | [], i => by simp [wipe]
  | v :: vs, i => by
    unfold wipe
    by_cases h : v = i
    · subst h
      by_cases hl : v < σ.length
      · rw [List.getElem?_set_self (by rw [wipe_length]; exact hl)]
        simp [hl]
      · rw [List.getElem?_eq_none (by rw [List.length_set, wipe_length]; omega)]
        simp [hl]
    · rw [List.getElem?_set_ne h, wipe_get]
      have : (i = v) = False := eq_false (fun z => h z.symm)
      simp [this]
theorem OnlyAt.wipe {vs : List Nat} {σ σ' : St} (h : OnlyAt vs σ σ') : L2.wipe σ' vs = L2.wipe σ vs := by
  refine List.ext_getElem? fun i => ?_
  rw [wipe_get, wipe_get, h.1]
  by_cases hi : i ∈ vs
  · by_cases hl : i < σ.length
    · simp [hi, hl]
    · simp only [hi, hl, and_false, if_false]
      rw [List.getElem?_eq_none (by rw [h.1]; omega), List.getElem?_eq_none (by omega)]
  · simp only [hi, false_and, if_false]
    exact h.2 i hi
theorem OnlyAt.trans {vs : List Nat} {σ σ1 σ2 : St} (a : OnlyAt vs σ σ1) (b : OnlyAt vs σ1 σ2) : OnlyAt vs σ σ2 := ⟨b.1.trans a.1, fun i hi => (b.2 i hi).trans (a.2 i hi)⟩
theorem OnlyAt.refl {vs : List Nat} {σ : St} : OnlyAt vs σ σ := ⟨rfl, fun _ _ => rfl⟩
theorem OnlyAt.mono {vs ws : List Nat} {σ σ1 : St} (a : OnlyAt vs σ σ1) (h : ∀ i ∈ vs, i ∈ ws) : OnlyAt ws σ σ1 := ⟨a.1, fun i hi => a.2 i fun z => hi (h i z)⟩
mutual
theorem tgE_ok {ρ : List Addr} {H : Hp} : ∀ (t : Tg) {w : W} {e e' : Env'} {σ : St} {v : V} {Q : St → Hp → Prop}, tgE t w e = some e' → REnv G ρ H e σ → RV G ρ H w v →
    (∀ σ', REnv G ρ H e' σ' → OnlyAt (tgI t) σ σ' → Q σ' H) → tgR G.K t v σ H Q
  | .nm i, w, e, e', σ, v, Q, q, re, r, h => by
    simp only [tgE] at q
    split at q
    · cases q
      refine h _ (re.set r i) ⟨by simp, fun j hj => ?_⟩
      have : i ≠ j := fun z => hj (by simp [tgI, z])
      rw [List.getElem?_set_ne this]
    · cases q
  | .tup ts, w, e, e', σ, v, Q, q, re, r, h => by
    cases w with
    | tup ws =>
      simp only [tgE] at q
      obtain ⟨a, vs, rfl, hv, rs⟩ := r.tup_inv
      refine ⟨a, vs, rfl, hv, ?_, tgsE_ok ts q re rs h⟩
      rw [← rs.length]
      exact (tgsE_len ts q).symm
    | _ => simp [tgE] at q
theorem tgsE_ok {ρ : List Addr} {H : Hp} : ∀ (ts : List Tg) {ws : List W} {e e' : Env'} {σ : St} {vs : List V} {Q : St → Hp → Prop}, tgsE ts ws e = some e' → REnv G ρ H e σ → RVs G ρ H ws vs →
    (∀ σ', REnv G ρ H e' σ' → OnlyAt (tgsI ts) σ σ' → Q σ' H) → tgsR G.K ts vs σ H Q
  | [], ws, e, e', σ, vs, Q, q, re, r, h => by
    cases r with
    | nil =>
      simp only [tgsE] at q
      cases q
      exact ⟨rfl, h σ re .refl⟩
    | cons _ _ => simp [tgsE] at q
  | t :: ts, ws, e, e', σ, vs, Q, q, re, r, h => by
    cases r with
    | nil => simp [tgsE] at q
    | @cons w v ws' vs' r1 r2 =>
      simp only [tgsE] at q
      cases q1 : tgE t w e with
      | none => simp [q1] at q
      | some e1 =>
        simp only [q1] at q
        refine ⟨v, vs', rfl, tgE_ok t q1 re r1 fun σ1 re1 o1 => tgsE_ok ts q re1 r2 fun σ2 re2 o2 => h σ2 re2 ?_⟩
        exact (o1.mono fun i hi => by simp [tgsI, hi]).trans (o2.mono fun i hi => by simp [tgsI, hi])
theorem tgsE_len : ∀ (ts : List Tg) {ws : List W} {e e' : Env'}, tgsE ts ws e = some e' → ts.length = ws.length
  | [], [], _, _, _ => rfl
  | [], _ :: _, _, _, q => by simp [tgsE] at q
  | _ :: _, [], _, _, q => by simp [tgsE] at q
  | t :: ts, w :: ws, e, e', q => by
    simp only [tgsE] at q
    split at q
    · simp [tgsE_len ts q]
    · cases q
end

/-! ### for -/
def forLoop : Nat → ItV → Nat → Tg → Sv → Sv
  | 0, _, _, _, _, _, _ => .err
  | k + 1, iv, i, t, body, e, s => match itAt iv i s with
    | none => .err
    | some none => .nx e s
    | some (some w) => match tgE t w e with
      | none => .err
      | some e1 => match body e1 s with
        | .nx e2 s2 => forLoop k iv (i + 1) t body e2 s2
        | .ct e2 s2 => forLoop k iv (i + 1) t body e2 s2
        | .bk e2 s2 => .nx e2 s2
        | .ret w s2 => .ret w s2
        | .exc c w e2 s2 => .exc c w e2 s2
        | .err => .err
def sFor (it : Ev ItV) (t : Tg) (body : Sv) : Sv := fun e s => (it e s).bindS e fun iv s1 => forLoop (itFuel iv s1) iv 0 t body e s1
theorem si_for {X : Cx} {tg iter : Expr} {body : List Stmt} {pos : Pos} {mi : Ev ItV} {t : Tg} {mb : Sv} (hp : PassesOwn (model X.prog X.w) X.A X.env X.xe) (hc : X.calm = true) (hi : PI X tg iter (tII G Wx mi)) (hg : PG X tg (tgR G.K t)) (hb : PSs X body (tIS G Wx mb))
    (hs : ∀ x, foldedSetIterable iter X.env x = pure x) : PS X (.For tg iter body [] pos) (tIS G Wx (sFor mi t mb)) := by
  refine psM (ps_for hp hc hi hg hb hs) ?_
  rintro D σ H ⟨ρ, e, st, R, p⟩
  refine ⟨ρ, e, st, R, PostS.bind R.env p fun iv s1 ρ1 H1 J l1 R1 ok p1 => ?_⟩
  refine ⟨fun i m σ' H' => ∃ ρ' e' s', Lat G ρ1 H1 ρ' H' ∧ Rel G ρ' e' s' σ' H' ∧ PostS G Wx ρ' H' (forLoop m iv i t mb e' s') D, ⟨_, ρ1, e, s1, .refl, R1, p1⟩, ?_⟩
  rintro i m σ' H' ⟨ρ', e', s', l, R', p'⟩
  cases m with
  | zero => exact p'.elim
  | succ k =>
    unfold forLoop at p'
    obtain ⟨okS, okG⟩ := ok ρ' s' H' i l R'.sim
    split at p'
    · exact p'.elim
    · rename_i q
      exact .inl ⟨okS q, p' ρ' H' σ' .refl R'⟩
    · rename_i w q
      obtain ⟨go, okY⟩ := okG w q
      refine .inr ⟨go, fun σ2 H2 => ∃ ρ2 e2 s2, Lat G ρ1 H1 ρ2 H2 ∧ Rel G ρ2 e2 s2 σ2 H2 ∧ PostS G Wx ρ2 H2 (forLoop k iv (i + 1) t mb e2 s2) D, fun σ2 H2 z => ⟨k, Nat.lt_succ_self k, z⟩, fun x H2 y => ?_⟩
      obtain ⟨l2, S2, r2⟩ := okY x H2 y
      split at p'
      · exact p'.elim
      · rename_i e1 q1
        have p2 := PostS.mono l2 p'
        refine tgE_ok t q1 (l2.env R'.env) r2 fun σ3 re3 _ => ⟨ρ', e1, s', ⟨re3, S2⟩, ?_⟩
        have lat2 := l.trans l2
        cases q3 : mb e1 s' with
        | nx e2 s2 =>
          simp only [q3] at p2
          exact fun ρ3 H3 σ4 l3 R3 => ⟨ρ3, e2, s2, lat2.trans l3, R3, PostS.mono l3 p2⟩
        | ct e2 s2 =>
          simp only [q3] at p2
          exact fun ρ3 H3 σ4 l3 R3 => ⟨ρ3, e2, s2, lat2.trans l3, R3, PostS.mono l3 p2⟩
        | bk e2 s2 =>
          simp only [q3] at p2
          exact p2
        | ret w s2 =>
          simp only [q3] at p2
          exact p2
        | exc c w e2 s2 =>
          simp only [q3] at p2
          exact p2
        | err =>
          simp only [q3] at p2
          exact p2

/-! ### while -/
def whLoop : Nat → Ev Bool → Sv → Sv
  | 0, _, _, _, _ => .err
  | k + 1, c, body, e, s => (c e s).bindS e fun b s1 => if b then (match body e s1 with
      | .nx e2 s2 => whLoop k c body e2 s2
      | .ct e2 s2 => whLoop k c body e2 s2
      | .bk e2 s2 => .nx e2 s2
      | .ret w s2 => .ret w s2
      | .exc c w e2 s2 => .exc c w e2 s2
      | .err => .err) else .nx e s1
theorem si_while {X : Cx} {c : Expr} {body : List Stmt} {pos : Pos} {mc : Ev Bool} {mb : Sv} (fuel : Nat) (hp : PassesOwn (model X.prog X.w) X.A X.env X.xe) (hc : PT X c (tIT G Wx mc)) (hb : PSs X body (tIS G Wx mb)) : PS X (.While c body [] pos) (tIS G Wx (whLoop fuel mc mb)) := by
  refine psM (ps_while hp hc hb) ?_
  rintro D σ H ⟨ρ, e, st, R, p⟩
  refine ⟨fun m σ' H' => ∃ ρ' e' s', Rel G ρ' e' s' σ' H' ∧ PostS G Wx ρ' H' (whLoop m mc mb e' s') D, ⟨_, ρ, e, st, R, p⟩, ?_⟩
  rintro m σ' H' ⟨ρ', e', s', R', p'⟩
  cases m with
  | zero => exact p'.elim
  | succ k =>
    unfold whLoop at p'
    refine ⟨ρ', e', s', R', PostS.bind R'.env p' fun b s1 ρ1 H1 b' l1 R1 rb p1 => ?_⟩
    cases rb
    cases b with
    | false => exact p1 ρ1 H1 σ' .refl R1
    | true =>
      refine ⟨fun σ2 H2 => ∃ ρ2 e2 s2, Rel G ρ2 e2 s2 σ2 H2 ∧ PostS G Wx ρ2 H2 (whLoop k mc mb e2 s2) D, fun σ2 H2 z => ⟨k, Nat.lt_succ_self k, z⟩, ρ1, e', s1, R1, ?_⟩
      simp only [if_true] at p1
      cases q3 : mb e' s1 with
      | nx e2 s2 =>
        simp only [q3] at p1
        exact fun ρ3 H3 σ4 l3 R3 => ⟨ρ3, e2, s2, R3, PostS.mono l3 p1⟩
      | ct e2 s2 =>
        simp only [q3] at p1
        exact fun ρ3 H3 σ4 l3 R3 => ⟨ρ3, e2, s2, R3, PostS.mono l3 p1⟩
      | bk e2 s2 =>
        simp only [q3] at p1
        exact p1
      | ret w s2 =>
        simp only [q3] at p1
        exact p1
      | exc c w e2 s2 =>
        simp only [q3] at p1
        exact p1
      | err =>
        simp only [q3] at p1
        exact p1

/-! ### comprehensions -/
def wipeE (e : Env') : List Nat → Env'
  | [] => e
  | v :: vs => (wipeE e vs).set v none
theorem wipeE_get {e : Env'} : ∀ {vs : List Nat} {i : Nat} {w : W}, (wipeE e vs)[i]? = some (some w) → e[i]? = some (some w) ∧ i ∉ vs
  | [], _, _, h => ⟨h, by simp⟩
  | v :: vs, i, w, h => by
    unfold wipeE at h
    by_cases hv : v = i
    · subst hv
      by_cases hl : v < (wipeE e vs).length
      · rw [List.getElem?_set_self hl] at h; cases h
      · rw [List.getElem?_eq_none (by simpa using hl)] at h; cases h
    · rw [List.getElem?_set_ne hv] at h
      obtain ⟨h1, h2⟩ := wipeE_get h
      exact ⟨h1, by simp only [List.mem_cons, not_or]; exact ⟨fun z => hv z.symm, h2⟩⟩
theorem wipeE_len {e : Env'} : ∀ vs : List Nat, (wipeE e vs).length = e.length
  | [] => rfl
  | v :: vs => by unfold wipeE; rw [List.length_set, wipeE_len vs]
theorem REnv.wipe {ρ : List Addr} {H : Hp} {e : Env'} {σ : St} (h : REnv G ρ H e σ) (vs : List Nat) : REnv G ρ H (wipeE e vs) (L2.wipe σ vs) := by
  refine ⟨by rw [wipeE_len, wipe_length]; exact h.1, fun i w q => ?_⟩
  obtain ⟨q1, q2⟩ := wipeE_get q
  obtain ⟨v, h1, h2⟩ := h.2 i w q1
  exact ⟨v, by rw [wipe_get, if_neg (fun z => q2 z.1)]; exact h1, h2⟩
/-- the loop of a comprehension: D the list that grows; nothing may be raised -/
def lcLoop : Nat → ItV → Nat → Tg → Ev Bool → Ev W → Nat → Env' → Store → Res W
  | 0, _, _, _, _, _, _, _, _ => .err
  | k + 1, iv, i, t, c, x, D, e, s => match itAt iv i s with
    | none => .err
    | some none => .ok (.ref D) s
    | some (some w) => match tgE t w e with
      | none => .err
      | some e1 => match c e1 s with
        | .ok true s2 => (match x e1 s2 with
          | .ok y s3 => (match s3.f D with
            | some (.lst acc) => if acc.length < LIM then lcLoop k iv (i + 1) t c x D e (s3.put D (.lst (acc ++ [y]))) else .err
            | _ => .err)
          | _ => .err)
        | .ok false s2 => lcLoop k iv (i + 1) t c x D e s2
        | _ => .err
def eLc (it : Ev ItV) (vs : List Nat) (t : Tg) (c : Ev Bool) (x : Ev W) : Ev W := fun e s => (it e s).bind fun iv s1 => lcLoop (itFuel iv s1) iv 0 t c x s1.n (wipeE e vs) (s1.add (.lst []))
def Wx0 : WX := fun _ _ _ _ => False
theorem lc_read (hsub : ∀ i ∈ tgI t, i ∈ vs) {mi : Ev ItV} {mc : Ev Bool} {mx : Ev W} : ∀ σ H Q, tI G Wx (eLc mi vs t mc mx) σ H Q → tLc (tII G Wx mi) (tgR G.K t) (tIT G Wx0 mc) (tI G Wx0 mx) vs σ H Q := by
  rintro σ H Q ⟨ρ, e, st, R, p⟩
  refine ⟨ρ, e, st, R, Post.bind p fun iv s1 ρ1 H1 J l1 S1 ok p1 D hD => ?_⟩
  have re := (l1.env R.env).wipe vs
  obtain ⟨l2, S2, r2⟩ := lst_new S1 hD (RVs.nil (G := G) (ρ := ρ1) (H := H1))
  have hDn : ∀ {ρ' : List Addr}, (ρ1 ++ [D]) <+: ρ' → ρ'[s1.n]? = some D := fun h => pre_get h S1.at_new
  refine ⟨fun i m H' => ∃ ρ' s', Lat G (ρ1 ++ [D]) (upd H1 D (.lst [])) ρ' H' ∧ Sim G ρ' s' H' ∧ REnv G ρ' H' (wipeE e vs) (wipe σ vs) ∧ Post G ρ' H' (RV G) (lcLoop m iv i t mc mx s1.n (wipeE e vs) s') Q fun c d H' => Wx c d σ H',
    ⟨_, _, s1.add (.lst []), .refl, S2, l2.env re, Post.mono l2 p1⟩, ?_⟩
  rintro i m H' ⟨ρ', s', l, S', re', p'⟩
  cases m with
  | zero => exact p'.elim
  | succ k =>
    unfold lcLoop at p'
    obtain ⟨okS, okG⟩ := ok ρ' s' H' i (l2.trans l) S'
    split at p'
    · exact p'.elim
    · rename_i q
      exact .inl ⟨okS q, p'.ret S' (.ref (hDn l.pre))⟩
    · rename_i w q
      obtain ⟨go, okY⟩ := okG w q
      refine .inr ⟨go, fun H2 => ∃ ρ2 s2, Lat G (ρ1 ++ [D]) (upd H1 D (.lst [])) ρ2 H2 ∧ Sim G ρ2 s2 H2 ∧ REnv G ρ2 H2 (wipeE e vs) (wipe σ vs) ∧ Post G ρ2 H2 (RV G) (lcLoop k iv (i + 1) t mc mx s1.n (wipeE e vs) s2) Q fun c d H' => Wx c d σ H', fun H2 z => ⟨k, Nat.lt_succ_self k, z⟩, fun x H2 y => ?_⟩
      obtain ⟨l3, S3, r3⟩ := okY x H2 y
      split at p'
      · exact p'.elim
      · rename_i e1 q1
        have p2 := Post.mono l3 p'
        refine tgE_ok t q1 (l3.env re') r3 fun σ3 re3 oa => ⟨?_, ρ', e1, s', ⟨re3, S3⟩, ?_⟩
        · rw [(oa.mono hsub).wipe]
          refine List.ext_getElem? fun j => ?_
          rw [wipe_get, wipe_get, wipe_length]
          by_cases hj : j ∈ vs ∧ j < σ.length
          · rw [if_pos hj, if_pos hj]
          · rw [if_neg hj, if_neg hj]
        · split at p2
          · rename_i s2 qc
            rw [qc]
            intro ρ4 H4 b l4 S4 rb
            cases rb
            simp only [if_true]
            refine ⟨ρ4, e1, s2, ⟨l4.env re3, S4⟩, ?_⟩
            split at p2
            · rename_i y s3 qx
              rw [qx]
              intro ρ5 H5 v l5 S5 r5
              split at p2
              · rename_i acc qa
                have hn := hDn ((l.pre.trans l3.pre).trans (l4.pre.trans l5.pre))
                obtain ⟨vs5, h5, ra⟩ := S5.place hn qa
                split at p2
                · rename_i hz
                  refine ⟨vs5, h5, by rw [lim_eq, ← ra.length]; exact hz, ?_⟩
                  obtain ⟨l6, S6⟩ := lst_put S5 hn h5 (ra.app (.cons r5 .nil))
                  have lall := (l4.trans l5).trans l6
                  exact ⟨ρ5, _, (l.trans l3).trans lall, S6, (l3.trans lall).env re', Post.mono lall p2⟩
                · exact p2.elim
              · exact p2.elim
            · exact p2.elim
          · rename_i s2 qc
            rw [qc]
            intro ρ4 H4 b l4 S4 rb
            cases rb
            simp only [Bool.false_eq_true, if_false]
            exact ⟨ρ4, s2, (l.trans l3).trans l4, S4, (l3.trans l4).env re', Post.mono l4 p2⟩
          · exact p2.elim
end Q
/-! A10: names, tests, calls, methods: one by one. -/
namespace Q
open PySem PySem.Spec PyProof.Rows L2
variable {G : Gm} {Wx : WX}

/-! ### the rest of the combinators -/
def eTest (m : Ev W) : Ev Bool := fun e s => (m e s).bind fun w s1 => match w with
  | .bl b => .ok b s1
  | _ => .err
def eTru (m : Ev W) : Ev Bool := fun e s => (m e s).bind fun w s1 => match truW w s1 with
  | some b => .ok b s1
  | none => .err
def eAndT (a b : Ev Bool) : Ev Bool := fun e s => (a e s).bind fun x s1 => if x then b e s1 else .ok false s1
def eOrT (a b : Ev Bool) : Ev Bool := fun e s => (a e s).bind fun x s1 => if x then .ok true s1 else b e s1
def eNotT (a : Ev Bool) : Ev Bool := fun e s => (a e s).bind fun x s1 => .ok (!x) s1
def eAndV (a b : Ev W) : Ev W := fun e s => (a e s).bind fun x s1 => match truW x s1 with
  | some true => b e s1
  | some false => .ok x s1
  | none => .err
def eOrV (a b : Ev W) : Ev W := fun e s => (a e s).bind fun x s1 => match truW x s1 with
  | some true => .ok x s1
  | some false => b e s1
  | none => .err
def eNotV (a : Ev W) : Ev W := fun e s => (a e s).bind fun x s1 => match truW x s1 with
  | some b => .ok (.bl (!b)) s1
  | none => .err
def eIf (c : Ev Bool) (a b : Ev W) : Ev W := fun e s => (c e s).bind fun x s1 => if x then a e s1 else b e s1
def eChain (f g : W → W → Store → Res W) (a b c : Ev W) : Ev W := fun e s => (a e s).bind fun x s1 => (b e s1).bind fun y s2 => (f x y s2).bind fun z s3 => match z with
  | .bl true => (c e s3).bind fun w s4 => g y w s4
  | .bl false => .ok (.bl false) s3
  | _ => .err

section
variable {X : Cx}
theorem test_read {m : Ev W} : ∀ σ H Q, tIT G Wx (eTest m) σ H Q → tTest (tI G Wx m) σ H Q := by
  rintro σ H Q ⟨ρ, e, st, R, p⟩
  refine ⟨ρ, e, st, R, Post.bind p fun w s1 ρ1 H1 v l1 S1 r1 p1 => ?_⟩
  cases w with
  | bl b => cases r1; exact ⟨b, rfl, p1.ret (b := b) S1 rfl⟩
  | _ => exact p1.elim
theorem si_tru (hK : X.K = G.K) {a : Expr} {m : Ev W} (ha : PE X a (tI G Wx m)) (he : ∀ whole, isTrue a X.env whole = (do let v ← whole; standAt a.pos; holding [v] (truthy v))) : PT X a (tIT G Wx (eTru m)) := by
  refine ptM (pt_truth ha he) ?_
  rintro σ H Q ⟨ρ, e, st, R, p⟩
  refine ⟨ρ, e, st, R, Post.bind p fun w s1 ρ1 H1 v l1 S1 r1 p1 => ?_⟩
  rw [hK]
  split at p1
  · rename_i b q
    exact ⟨b, truW_ok S1 r1 q, p1.ret (b := b) S1 rfl⟩
  · exact p1.elim
theorem si_and1 {a : Expr} {pos : Pos} {m : Ev Bool} (ha : PT X a (tIT G Wx m)) : PW X (.BoolOp .And [a] pos) (tIT G Wx m) := pw_and1 ha
theorem si_or1 {a : Expr} {pos : Pos} {m : Ev Bool} (ha : PT X a (tIT G Wx m)) : PW X (.BoolOp .Or [a] pos) (tIT G Wx m) := pw_or1 ha
theorem si_and {a b : Expr} {rest : List Expr} {pos : Pos} {ma mb : Ev Bool} (ha : PT X a (tIT G Wx ma)) (hb : PW X (.BoolOp .And (b :: rest) pos) (tIT G Wx mb)) : PW X (.BoolOp .And (a :: b :: rest) pos) (tIT G Wx (eAndT ma mb)) := by
  refine pwM (pw_and ha hb) ?_
  rintro σ H Q ⟨ρ, e, st, R, p⟩
  refine ⟨ρ, e, st, R, Post.bind p fun w s1 ρ1 H1 v l1 S1 r1 p1 => ?_⟩
  cases r1
  cases w with
  | true => exact ⟨ρ1, e, s1, ⟨l1.env R.env, S1⟩, p1⟩
  | false => exact p1.ret (b := false) S1 rfl
theorem si_or {a b : Expr} {rest : List Expr} {pos : Pos} {ma mb : Ev Bool} (ha : PT X a (tIT G Wx ma)) (hb : PW X (.BoolOp .Or (b :: rest) pos) (tIT G Wx mb)) : PW X (.BoolOp .Or (a :: b :: rest) pos) (tIT G Wx (eOrT ma mb)) := by
  refine pwM (pw_or ha hb) ?_
  rintro σ H Q ⟨ρ, e, st, R, p⟩
  refine ⟨ρ, e, st, R, Post.bind p fun w s1 ρ1 H1 v l1 S1 r1 p1 => ?_⟩
  cases r1
  cases w with
  | false => exact ⟨ρ1, e, s1, ⟨l1.env R.env, S1⟩, p1⟩
  | true => exact p1.ret (b := true) S1 rfl
theorem si_notT {a : Expr} {pos : Pos} {ma : Ev Bool} (ha : PT X a (tIT G Wx ma)) : PT X (.UnaryOp .Not a pos) (tIT G Wx (eNotT ma)) := by
  refine ptM (pt_not ha) ?_
  rintro σ H Q ⟨ρ, e, st, R, p⟩
  refine ⟨ρ, e, st, R, Post.bind p fun w s1 ρ1 H1 v l1 S1 r1 p1 => ?_⟩
  cases r1
  exact p1.ret (b := !w) S1 rfl
theorem si_andV (hK : X.K = G.K) {a b : Expr} {rest : List Expr} {pos : Pos} {ma mb : Ev W} (ha : PE X a (tI G Wx ma)) (hb : PE X (.BoolOp .And (b :: rest) pos) (tI G Wx mb)) : PE X (.BoolOp .And (a :: b :: rest) pos) (tI G Wx (eAndV ma mb)) := by
  refine peM (pe_andT ha hb) ?_
  rintro σ H Q ⟨ρ, e, st, R, p⟩
  refine ⟨ρ, e, st, R, Post.bind p fun w s1 ρ1 H1 v l1 S1 r1 p1 => ?_⟩
  rw [hK]
  split at p1
  · rename_i q
    exact ⟨true, truW_ok S1 r1 q, ⟨ρ1, e, s1, ⟨l1.env R.env, S1⟩, p1⟩⟩
  · rename_i q
    exact ⟨false, truW_ok S1 r1 q, p1.ret S1 r1⟩
  · exact p1.elim
theorem si_orV (hK : X.K = G.K) {a b : Expr} {rest : List Expr} {pos : Pos} {ma mb : Ev W} (ha : PE X a (tI G Wx ma)) (hb : PE X (.BoolOp .Or (b :: rest) pos) (tI G Wx mb)) : PE X (.BoolOp .Or (a :: b :: rest) pos) (tI G Wx (eOrV ma mb)) := by
  refine peM (pe_orT ha hb) ?_
  rintro σ H Q ⟨ρ, e, st, R, p⟩
  refine ⟨ρ, e, st, R, Post.bind p fun w s1 ρ1 H1 v l1 S1 r1 p1 => ?_⟩
  rw [hK]
  split at p1
  · rename_i q
    exact ⟨true, truW_ok S1 r1 q, p1.ret S1 r1⟩
  · rename_i q
    exact ⟨false, truW_ok S1 r1 q, ⟨ρ1, e, s1, ⟨l1.env R.env, S1⟩, p1⟩⟩
  · exact p1.elim
theorem si_notV (hK : X.K = G.K) {a : Expr} {pos : Pos} {ma : Ev W} (ha : PE X a (tI G Wx ma)) : PE X (.UnaryOp .Not a pos) (tI G Wx (eNotV ma)) := by
  refine peM (pe_notT ha) ?_
  rintro σ H Q ⟨ρ, e, st, R, p⟩
  refine ⟨ρ, e, st, R, Post.bind p fun w s1 ρ1 H1 v l1 S1 r1 p1 => ?_⟩
  rw [hK]
  split at p1
  · rename_i b q
    exact ⟨b, truW_ok S1 r1 q, p1.ret S1 (.bl _)⟩
  · exact p1.elim
theorem si_ifE {c a b : Expr} {pos : Pos} {mc : Ev Bool} {ma mb : Ev W} (hc : PT X c (tIT G Wx mc)) (ha : PE X a (tI G Wx ma)) (hb : PE X b (tI G Wx mb)) : PE X (.IfExp c a b pos) (tI G Wx (eIf mc ma mb)) := by
  refine peM (pe_ifExp hc ha hb) ?_
  rintro σ H Q ⟨ρ, e, st, R, p⟩
  refine ⟨ρ, e, st, R, Post.bind p fun w s1 ρ1 H1 v l1 S1 r1 p1 => ?_⟩
  cases r1
  cases w with
  | true => exact ⟨ρ1, e, s1, ⟨l1.env R.env, S1⟩, p1⟩
  | false => exact ⟨ρ1, e, s1, ⟨l1.env R.env, S1⟩, p1⟩
theorem chain_read {f g : W → W → Store → Res W} {r r' : R2} {ma mb mc : Ev W} (ok : Op2Ok G f r) (ok' : Op2Ok G g r') : ∀ σ H Q, tI G Wx (eChain f g ma mb mc) σ H Q → tChain r r' (tI G Wx ma) (tI G Wx mb) (tI G Wx mc) σ H Q := by
  rintro σ H Q ⟨ρ, e, st, R, p⟩
  refine ⟨ρ, e, st, R, Post.bind p fun x s1 ρ1 H1 v l1 S1 r1 p1 => ?_⟩
  refine ⟨ρ1, e, s1, ⟨l1.env R.env, S1⟩, Post.bind p1 fun y s2 ρ2 H2 u l2 S2 r2 p2 => ?_⟩
  refine ok ρ2 H2 s2 x y v u _ (fun c d H' => Wx c d σ H') S2 (l2.rv r1) r2 (Post.bind p2 fun z s3 ρ3 H3 zv l3 S3 r3 p3 => ?_)
  cases z with
  | bl b =>
    cases r3
    refine ⟨b, rfl, ?_⟩
    cases b with
    | true =>
      refine ⟨ρ3, e, s3, ⟨((l1.trans l2).trans l3).env R.env, S3⟩, Post.bind p3 fun w s4 ρ4 H4 wv l4 S4 r4 p4 => ?_⟩
      exact ok' ρ4 H4 s4 y w u wv Q _ S4 (l4.rv (l3.rv r2)) r4 p4
    | false => exact p3.ret S3 (.bl false)
  | _ => exact p3.elim
end

/-! ### comparisons by operator -/
def vCmp : CmpOp → W → W → Store → Res W
  | .Eq => vEq false
  | .NotEq => vEq true
  | .Lt => vCmpI fun i j => decide (i < j)
  | .LtE => vCmpI fun i j => decide (i ≤ j)
  | .Gt => vCmpI fun i j => decide (j < i)
  | .GtE => vCmpI fun i j => decide (j ≤ i)
  | .Is => vIsN false
  | .IsNot => vIsN true
  | .In => vIn' false
  | .NotIn => vIn' true
theorem cmp_ok {X : Cx} (hK : X.K = G.K) (hu : X.A.units + 64 < cLine) (op : CmpOp) : ∃ r, OpR X (compareOp op) r ∧ Op2Ok G (vCmp op) r := by
  have hu1 : X.A.units + 1 < cLine := by omega
  cases op with
  | Eq => exact ⟨_, op_eq.or (op_eqD hu), by rw [hK]; exact ok_eq⟩
  | NotEq => exact ⟨_, op_ne.or (op_neD hu), by rw [hK]; exact ok_ne⟩
  | Lt => exact ⟨_, op_lt, ok_cmpI⟩
  | LtE => exact ⟨_, op_le, ok_cmpI⟩
  | Gt => exact ⟨_, op_gt, ok_cmpI⟩
  | GtE => exact ⟨_, op_ge, ok_cmpI⟩
  | Is => exact ⟨_, op_isN, ok_isN⟩
  | IsNot => exact ⟨_, op_notN, ok_notN⟩
  | In => exact ⟨_, op_inV.or (op_inD hu1), by rw [hK]; exact ok_in'⟩
  | NotIn => exact ⟨_, op_notInV.or (op_notInD hu1), by rw [hK]; exact ok_notIn'⟩
def vBin : Operator → Option (W → W → Store → Res W)
  | .Add => some vAdd
  | .Sub => some vSub
  | .Mult => some vMul
  | .FloorDiv => some vDiv
  | .Mod => some vMod
  | .Pow => some vPow
  | _ => none
theorem bin_ok {X : Cx} (hK : X.K = G.K) {op : Operator} {f : W → W → Store → Res W} (h : vBin op = some f) : ∃ r, OpR X (binaryOp op) r ∧ Op2Ok G f r := by
  cases op <;> simp [vBin] at h <;> subst h
  · exact ⟨_, op_addV, by rw [hK]; exact ok_add⟩
  · exact ⟨_, op_sub, ok_sub⟩
  · exact ⟨_, op_mulV, by rw [hK]; exact ok_mul⟩
  · exact ⟨_, op_mod, ok_mod⟩
  · exact ⟨_, op_powW, ok_pow⟩
  · exact ⟨_, op_fdivW, ok_div⟩
def isSetE : Expr → Bool
  | .Set .. => true
  | _ => false
theorem no_mark {op : CmpOp} {b : Expr} (h : isSetE b = false) : behindInMarks op b = false := by cases b <;> first | rfl | cases h

/-! ### built-ins by name -/
def bMax : List W → Store → Res W
  | [.int i, .int j], s => bMM true [.int i, .int j] s
  | ws, s => bMaxL ws s
def bMin : List W → Store → Res W
  | [.int i, .int j], s => bMM false [.int i, .int j] s
  | ws, s => bMinL ws s
theorem ok_max : CallOk G bMax (fun xs H Q => (∃ i j, xs = [.int i, .int j] ∧ Q (.int (if j > i then j else i)) H) ∨ rMax G.K xs H Q) := by
  intro ρ H st ws vs Q Ex S rv p
  unfold bMax at p
  split at p
  · exact .inl (ok_max2 ρ H st _ vs Q Ex S rv p)
  · exact .inr (ok_maxL ρ H st _ vs Q Ex S rv p)
theorem ok_min : CallOk G bMin (fun xs H Q => (∃ i j, xs = [.int i, .int j] ∧ Q (.int (if j < i then j else i)) H) ∨ rMin G.K xs H Q) := by
  intro ρ H st ws vs Q Ex S rv p
  unfold bMin at p
  split at p
  · exact .inl (ok_min2 ρ H st _ vs Q Ex S rv p)
  · exact .inr (ok_minL ρ H st _ vs Q Ex S rv p)
def bRepr : List W → Store → Res W
  | [.bl b], s => .ok (.str (if b then "True" else "False")) s
  | [.non], s => .ok (.str "None") s
  | [.int i], s => if i.natAbs.log2 < 1920 then .ok (.str (toString i)) s else .err
  | _, _ => .err
def rRepr : List V → Hp → VK → Prop := fun xs H Q => (∃ b, xs = [.bl b] ∧ Q (.str (if b then "True" else "False")) H) ∨ (xs = [.non] ∧ Q (.str "None") H) ∨ ∃ i, xs = [.int i] ∧ i.natAbs.log2 < 1920 ∧ Q (.str (toString i)) H
theorem call_repr {X : Cx} : CallR X (.builtin "repr") rRepr := by
  intro pins s σ H xs us Q I r h
  rcases h with ⟨b, rfl, q⟩ | ⟨rfl, q⟩ | ⟨i, rfl, hz, q⟩
  · obtain ⟨u, rfl, r1⟩ := vals1 r
    cases r1
    exact PySem.P.repr_of_bool ⟨.str _, H, I.tok _, ⟨_, rfl⟩, q⟩
  · obtain ⟨u, rfl, r1⟩ := vals1 r
    cases r1
    exact PySem.P.repr_of_none ⟨.str _, H, I.tok _, ⟨_, rfl⟩, q⟩
  · obtain ⟨u, rfl, t, rfl⟩ := vals1 r
    exact PySem.P.repr_of_int hz ⟨.str _, H, I.tok _, ⟨_, rfl⟩, q⟩
theorem ok_repr : CallOk G bRepr rRepr := by
  intro ρ H st ws vs Q Ex S rv p
  unfold bRepr at p
  split at p
  · cases rv with
    | cons r t => cases t; cases r; exact .inl ⟨_, rfl, p.ret S (.str _)⟩
  · cases rv with
    | cons r t => cases t; cases r; exact .inr (.inl ⟨rfl, p.ret S (.str _)⟩)
  · cases rv with
    | cons r t =>
      cases t; cases r
      split at p
      · rename_i h
        exact .inr (.inr ⟨_, rfl, h, p.ret S (.str _)⟩)
      · exact p.elim
  · exact p.elim
/-- a value's type, of the built-in ones -/
def tyN : W → Store → Option Nat
  | .non, _ => some 0
  | .bl _, _ => some 1
  | .int _, _ => some 2
  | .str _, _ => some 3
  | .tup _, _ => some 4
  | .ref n, s => match s.f n with
    | some (.lst _) => some 5
    | some (.dic _) => some 6
    | _ => none
  | _, _ => none
def tyS : Nat → String
  | 0 => "NoneType"
  | 1 => "bool"
  | 2 => "int"
  | 3 => "str"
  | 4 => "tuple"
  | 5 => "list"
  | _ => "dict"
def tyIx (x : String) : Option Nat := if x = "bool" then some 1 else if x = "int" then some 2 else if x = "str" then some 3 else if x = "tuple" then some 4 else if x = "list" then some 5 else if x = "dict" then some 6 else none
def isA (a b : Nat) : Bool := a == b || (a == 1 && b == 2)
theorem tyIx_eq {x : String} {b : Nat} (h : tyIx x = some b) : x = tyS b ∧ 1 ≤ b ∧ b ≤ 6 := by
  unfold tyIx at h
  repeat' split at h
  all_goals first | (cases h; rename_i e; exact ⟨e, by decide, by decide⟩) | cases h
theorem kit_all : ∀ a b : Fin 7, 1 ≤ b.val → kitB (tyS a.val) (tyS b.val) = some (isA a.val b.val) := by decide +kernel
theorem tyN_ok {ρ : List Addr} {H : Hp} {st : Store} {w : W} {v : V} {a : Nat} (S : Sim G ρ st H) (r : RV G ρ H w v) (h : tyN w st = some a) : a < 7 ∧ TyX G.K H v (.type (tyS a)) := by
  cases w with
  | non => cases r; simp [tyN] at h; subst h; exact ⟨by decide, .base .non⟩
  | bl b => cases r; simp [tyN] at h; subst h; exact ⟨by decide, .base (.bl _)⟩
  | int b => cases r; simp [tyN] at h; subst h; exact ⟨by decide, .base (.int _)⟩
  | str b => cases r; simp [tyN] at h; subst h; exact ⟨by decide, .base (.str _)⟩
  | tup ys =>
    simp [tyN] at h
    subst h
    refine ⟨by decide, ?_⟩
    obtain ⟨b, vs, rfl, hv, _⟩ := r.tup_inv
    rcases hv with (hv | ⟨o, hv⟩) | ⟨o, its, n, hk, hc, _⟩
    · exact .base (.tup hv)
    · exact .fTuple hv
    · exact .kTuple hk hc
  | ref n =>
    simp only [tyN] at h
    split at h
    · rename_i ys q
      cases h
      obtain ⟨b, vs, rfl, _, hv, _⟩ := S.lst r q
      exact ⟨by decide, .base (.lst hv)⟩
    · rename_i ys q
      cases h
      obtain ⟨b, rfl, _, hv⟩ := S.dic r q
      rcases hv with ⟨ks, hv, _⟩ | ⟨ks, hv, _⟩
      · exact ⟨by decide, .base (.dK hv)⟩
      · exact ⟨by decide, .base (.dT hv)⟩
    · cases h
  | glb i => simp [tyN] at h
  | ty n => simp [tyN] at h
  | fl n => simp [tyN] at h
def bIsi : List W → Store → Res W
  | [w, .ty x], s => match tyN w s, tyIx x with
    | some a, some b => .ok (.bl (isA a b)) s
    | _, _ => .err
  | _, _ => .err
theorem ok_isi : CallOk G bIsi (rIsi G.K) := by
  intro ρ H st ws vs Q Ex S rv p
  unfold bIsi at p
  split at p
  · cases rv with
    | cons r t =>
      cases t with
      | cons r2 t2 =>
        cases t2; cases r2
        split at p
        · rename_i a b q1 q2
          obtain ⟨h1, h2⟩ := tyN_ok S r q1
          obtain ⟨rfl, h3, h4⟩ := tyIx_eq q2
          exact ⟨_, _, _, _, _, rfl, .ty _, h2, kit_ty (kit_all ⟨a, h1⟩ ⟨b, by omega⟩ h3), p.ret S (.bl _)⟩
        · exact p.elim
  · exact p.elim

/-- a built-in of one or more arguments: its function, whether a type -/
def bltF (x : Str) : Option (List W → Store → Res W) :=
  if x = "len" then some bLen'
  else if x = "int" then some bInt
  else if x = "isinstance" then some bIsi
  else if x = "tuple" then some bTuple
  else if x = "list" then some bList
  else if x = "all" then some (bAA fun bs => bs.all id)
  else if x = "any" then some (bAA fun bs => bs.any id)
  else if x = "sum" then some (bFold fun ns => some ns.sum)
  else if x = "max" then some bMax
  else if x = "min" then some bMin
  else if x = "repr" then some bRepr
  else if x = "abs" then some bAbs
  else if x = "bool" then some bBool
  else none
section
variable {X : Cx} {x : Str} {p pos : Pos} {e : Expr} {es : List Expr} {m : Ev (List W)}
theorem si_blt1 {id : String} {r : List V → Hp → VK → Prop} {f : List W → Store → Res W} (hc : CallR X (.builtin id) r) (ok : CallOk G f r) (hg : Gl X x) (hm : X.mg x = none) (hv : bootBuiltins x = some (.builtin id)) (ha : PA X (e :: es) (tIA G Wx m)) (hn : x ≠ "__name__")
    (hdb : (x == ("__debug__" : Str)) = false) (ns : (e :: es).any isSt = false) : PE X (.Call (.Name x p) (e :: es) [] pos) (tI G Wx (eCallB f m)) := by
  rw [List.any_cons, Bool.or_eq_false_iff] at ns
  exact peM (pe_callB hc hg hm hv ha hn hdb (star_plain ns.1) (star_all ns.2)) (tI_callB ok)
theorem si_blt2 {T : String} {r : List V → Hp → VK → Prop} {f : List W → Store → Res W} (hc : CallR X (.type T) r) (ok : CallOk G f r) (hg : Gl X x) (hm : X.mg x = none) (hv : bootBuiltins x = some (.type T)) (ha : PA X (e :: es) (tIA G Wx m)) (hn : x ≠ "__name__")
    (hdb : (x == ("__debug__" : Str)) = false) (ns : (e :: es).any isSt = false) : PE X (.Call (.Name x p) (e :: es) [] pos) (tI G Wx (eCallB f m)) := by
  rw [List.any_cons, Bool.or_eq_false_iff] at ns
  exact peM (pe_callTy hc hg hm hv ha hn hdb (star_plain ns.1) (star_all ns.2)) (tI_callB ok)
theorem si_blt (hK : X.K = G.K) (hc : X.calm = true) {f : List W → Store → Res W} (hf : bltF x = some f) (hg : Gl X x) (hm : X.mg x = none) (ha : PA X (e :: es) (tIA G Wx m)) (ns : (e :: es).any isSt = false) : PE X (.Call (.Name x p) (e :: es) [] pos) (tI G Wx (eCallB f m)) := by
  unfold bltF at hf
  by_cases hlen : x = "len"
  · rw [if_pos hlen] at hf
    subst hlen; cases hf
    exact si_blt1 call_lenV (by rw [hK]; exact ok_len') hg hm PySem.boot_len ha (by decide) (by decide) ns
  rw [if_neg hlen] at hf
  by_cases hint : x = "int"
  · rw [if_pos hint] at hf
    subst hint; cases hf
    exact si_blt2 call_int1 ok_int hg hm (by decide +kernel) ha (by decide) (by decide) ns
  rw [if_neg hint] at hf
  by_cases hisinstance : x = "isinstance"
  · rw [if_pos hisinstance] at hf
    subst hisinstance; cases hf
    exact si_blt1 call_isi (by rw [hK]; exact ok_isi) hg hm (by decide +kernel) ha (by decide) (by decide) ns
  rw [if_neg hisinstance] at hf
  by_cases htuple : x = "tuple"
  · rw [if_pos htuple] at hf
    subst htuple; cases hf
    exact si_blt2 call_tuple_of (by rw [hK]; exact ok_tuple) hg hm (by decide +kernel) ha (by decide) (by decide) ns
  rw [if_neg htuple] at hf
  by_cases hlist : x = "list"
  · rw [if_pos hlist] at hf
    subst hlist; cases hf
    exact si_blt2 call_list_of (by rw [hK]; exact ok_list) hg hm (by decide +kernel) ha (by decide) (by decide) ns
  rw [if_neg hlist] at hf
  by_cases hall : x = "all"
  · rw [if_pos hall] at hf
    subst hall; cases hf
    exact si_blt1 (cr_all hc) (by rw [hK]; exact ok_all) hg hm (by decide +kernel) ha (by decide) (by decide) ns
  rw [if_neg hall] at hf
  by_cases hany : x = "any"
  · rw [if_pos hany] at hf
    subst hany; cases hf
    exact si_blt1 (cr_any hc) (by rw [hK]; exact ok_any) hg hm (by decide +kernel) ha (by decide) (by decide) ns
  rw [if_neg hany] at hf
  by_cases hsum : x = "sum"
  · rw [if_pos hsum] at hf
    subst hsum; cases hf
    exact si_blt1 (cr_sum hc) (by rw [hK]; exact ok_sum) hg hm (by decide +kernel) ha (by decide) (by decide) ns
  rw [if_neg hsum] at hf
  by_cases hmax : x = "max"
  · rw [if_pos hmax] at hf
    subst hmax; cases hf
    exact si_blt1 ((call_max2 hc).or (cr_max hc)) (by rw [hK]; exact ok_max) hg hm (by decide +kernel) ha (by decide) (by decide) ns
  rw [if_neg hmax] at hf
  by_cases hmin : x = "min"
  · rw [if_pos hmin] at hf
    subst hmin; cases hf
    exact si_blt1 ((call_min2 hc).or (cr_min hc)) (by rw [hK]; exact ok_min) hg hm (by decide +kernel) ha (by decide) (by decide) ns
  rw [if_neg hmin] at hf
  by_cases hrepr : x = "repr"
  · rw [if_pos hrepr] at hf
    subst hrepr; cases hf
    exact si_blt1 call_repr ok_repr hg hm (by decide +kernel) ha (by decide) (by decide) ns
  rw [if_neg hrepr] at hf
  by_cases habs : x = "abs"
  · rw [if_pos habs] at hf
    subst habs; cases hf
    exact si_blt1 call_abs ok_abs hg hm (by decide +kernel) ha (by decide) (by decide) ns
  rw [if_neg habs] at hf
  by_cases hbool : x = "bool"
  · rw [if_pos hbool] at hf
    subst hbool; cases hf
    exact si_blt2 call_bool1 ok_bool hg hm (by decide +kernel) ha (by decide) (by decide) ns
  rw [if_neg hbool] at hf
  cases hf
end
end Q
/-! A11: calls of defs, methods, conversions of ranges, sets. -/
namespace Q
open PySem PySem.Spec PyProof.Rows L2
variable {G : Gm} {Wx : WX}

/-! ### defs -/
abbrev Phi := Nat → List W → Store → Res W
/-- what a def promises: what the evaluator says of it -/
def SpI (G : Gm) (φ : List W → Store → Res W) (n : Nat) : Sp := fun vs H Q E => vs.length = n ∧ ∃ ρ ws st, RVs G ρ H ws vs ∧ Sim G ρ st H ∧ Post G ρ H (RV G) (φ ws st) Q E
def eCallF (φ : List W → Store → Res W) (n : Nat) (m : Ev (List W)) : Ev W := fun e s => (m e s).bind fun ws s1 => if ws.length = n then φ ws s1 else .err
section
variable {X : Cx} {k n : Nat} {f : Addr} {fd : FuncData} {ps : List Str} {φ : List W → Store → Res W} {x : Str} {p pos : Pos} {e : Expr} {es : List Expr} {m : Ev (List W)}
theorem callF_read (hn : ps.length = n) : ∀ σ H Q, tI G Wx (eCallF φ n m) σ H Q → tCallS (SpI G φ ps.length) (WE Wx) (tIA G Wx m) σ H Q := by
  rintro σ H Q ⟨ρ, e, st, R, p⟩
  refine ⟨ρ, e, st, R, Post.bind p fun ws s1 ρ1 H1 vs l1 S1 r1 p1 => ?_⟩
  split at p1
  · rename_i hz
    exact ⟨by rw [← r1.length, hz, hn], ρ1, ws, s1, r1, S1, p1⟩
  · exact p1.elim
theorem si_call (F : FnOk X.prog X.w X.K X.mg X.base (L2.CX X.prog X.w) k f fd ps (SpI G φ ps.length)) (hn : ps.length = n) (hr : Room k X.A) (hg : Gl X x) (hm : X.mg x = some (.ref f)) (hk : PySem.W.keepIn X.K (.ref f) = true) (hb : Binds X.K fd ps []) (tk : Takes X Wx)
    (ha : PA X (e :: es) (tIA G Wx m)) (hdb : (x == ("__debug__" : Str)) = false) (ns : (e :: es).any isSt = false) : PE X (.Call (.Name x p) (e :: es) [] pos) (tI G Wx (eCallF φ n m)) := by
  rw [List.any_cons, Bool.or_eq_false_iff] at ns
  exact peM (pe_callS F hr hg hm hk hb (fun σ => passAt tk σ) ha hdb (star_plain ns.1) (star_all ns.2)) (callF_read hn)
end

/-! ### with keywords -/
def pick {α : Type} (g : List Nat) (xs : List α) : List α := g.filterMap fun i => xs[i]?
/-- a call of n positional values and the keywords ks; g: where each parameter's value stands -/
def KwB (K : PySem.W.Frag) (fd : FuncData) (ps : List Str) (n : Nat) (ks : List Str) (g : List Nat) : Prop := ∀ (s : Shared) (us ws : List Value), K.In s.heap → us.length = n → ws.length = ks.length → BindsTo s fd ⟨us, ks.zip ws⟩ (ps.zip (pick g (us ++ ws)))
theorem RVs.pick {ρ : List Addr} {H : Hp} {ws : List W} {vs : List V} (r : RVs G ρ H ws vs) : ∀ g : List Nat, RVs G ρ H (Q.pick g ws) (Q.pick g vs)
  | [] => .nil
  | i :: g => by
    have ih := RVs.pick r g
    unfold Q.pick at ih ⊢
    rw [List.filterMap_cons, List.filterMap_cons]
    cases h : ws[i]? with
    | none =>
      have : vs[i]? = none := by rw [List.getElem?_eq_none_iff] at h ⊢; rw [← r.length]; exact h
      rw [this]
      exact ih
    | some w =>
      obtain ⟨v, hv, rv⟩ := r.get h
      rw [hv]
      exact .cons rv ih
theorem vals_pick {vs : List V} {us : List Value} (r : Vals vs us) : ∀ g : List Nat, Vals (Q.pick g vs) (Q.pick g us)
  | [] => .nil
  | i :: g => by
    have ih := vals_pick r g
    unfold Q.pick at ih ⊢
    rw [List.filterMap_cons, List.filterMap_cons]
    cases h : vs[i]? with
    | none =>
      have : us[i]? = none := r.none_of h
      rw [this]
      exact ih
    | some w =>
      obtain ⟨v, hv, rv⟩ := r.get h
      rw [hv]
      exact .cons rv ih
def eKws : List (Ev W) → Ev (List W)
  | [] => eNil
  | m :: r => eCons m (eKws r)
def eCallK (φ : List W → Store → Res W) (np n nk : Nat) (g : List Nat) (m mk : Ev (List W)) : Ev W := fun e s => (m e s).bind fun ws s1 => (mk e s1).bind fun zs s2 =>
  if ws.length = n ∧ zs.length = nk ∧ (pick g (ws ++ zs)).length = np then φ (pick g (ws ++ zs)) s2 else .err
section
variable {X : Cx} {k : Nat} {f : Addr} {fd : FuncData} {ps ks : List Str} {φ : List W → Store → Res W} {x : Str} {p pos : Pos} {e : Expr} {es : List Expr} {kws : List Keyword} {m mk : Ev (List W)}
theorem si_kws {ms : List (Ev W)} (h : All2 (fun (kw : Keyword) m => PE X kw.value (tI G Wx m)) kws ms) : PK X kws (tIA G Wx (eKws ms)) := by
  induction h with
  | nil => exact ⟨fun pos pins s σ H Q I ⟨ρ, e, st, R, p⟩ => pk_nil.run pos pins s σ H Q I (p ρ H [] .refl R.sim .nil)⟩
  | @cons kw m kws' ms' h1 h2 ih =>
    obtain ⟨nm, v, kp⟩ := kw
    have q := pk_cons (nm := nm) (kpos := kp) h1 ih
    refine ⟨fun pos pins s σ H Q I ⟨ρ, e, st, R, p⟩ => q.run pos pins s σ H Q I ⟨ρ, e, st, R, Post.bind p fun x s1 ρ1 H1 v l1 S1 r1 p1 => ?_⟩⟩
    refine ⟨ρ1, e, s1, ⟨l1.env R.env, S1⟩, Post.bind p1 fun y s2 ρ2 H2 u l2 S2 r2 p2 => ?_⟩
    exact p2 ρ2 H2 _ .refl S2 (.cons (l2.rv r1) r2)
theorem kw_names {env : Env} {pos : Pos} : ∀ {kws : List Keyword} {ks : List Str}, kws.map (·.arg) = ks.map some → (backToKw pos (keywordEach kws env)).all (·.1.isSome) = true ∧ (backToKw pos (keywordEach kws env)).filterMap (·.1) = ks ∧ (backToKw pos (keywordEach kws env)).any (·.1.isNone) = false
  | [], [], _ => ⟨rfl, rfl, rfl⟩
  | [], _ :: _, h => by simp at h
  | _ :: _, [], h => by simp at h
  | ⟨nm, v, kp⟩ :: kws, k :: ks, h => by
    simp only [List.map_cons, List.cons.injEq] at h
    obtain ⟨h1, h2⟩ := h
    subst h1
    obtain ⟨a, b, c⟩ := kw_names (env := env) (pos := pos) h2
    refine ⟨?_, ?_, ?_⟩
    · show (true && (backToKw pos (keywordEach kws env)).all (·.1.isSome)) = true
      rw [a]; rfl
    · show k :: (backToKw pos (keywordEach kws env)).filterMap (·.1) = k :: ks
      rw [b]
    · show (false || (backToKw pos (keywordEach kws env)).any (·.1.isNone)) = false
      rw [c]; rfl
theorem si_callK {n np nk : Nat} {g : List Nat} (F : FnOk X.prog X.w X.K X.mg X.base (L2.CX X.prog X.w) k f fd ps (SpI G φ ps.length)) (hr : Room k X.A) (hg : Gl X x) (hm : X.mg x = some (.ref f)) (hk : PySem.W.keepIn X.K (.ref f) = true) (hnp : np = ps.length) (hnk : nk = ks.length) (hb : KwB X.K fd ps n ks g) (tk : Takes X Wx)
    (ha : (es = [] ∧ m = eNil) ∨ (es ≠ [] ∧ PA X es (tIA G Wx m))) (hkw : PK X kws (tIA G Wx mk)) (hks : kws.map (·.arg) = ks.map some) (hdb : (x == ("__debug__" : Str)) = false) (ns : es.any isSt = false) : PE X (.Call (.Name x p) es kws pos) (tI G Wx (eCallK φ np n nk g m mk)) := by
  subst hnp hnk
  refine ⟨fun pins s σ H Q I ⟨ρ, e, st, R, pp⟩ => ?_⟩
  obtain ⟨n1, n2, n3⟩ := kw_names (env := X.env) (pos := pos) hks
  have fin : ∀ (us : List Value) (ws : List W) (s1 : Shared) (st1 : Store) (ρ1 : List Addr) (H1 : Hp) (vs : List V), Inv X pins σ H1 s1 → Vals vs us → RVs G ρ1 H1 ws vs → Sim G ρ1 st1 H1 → Lat G ρ H ρ1 H1 →
      Post G ρ1 H1 (RV G) ((mk e st1).bind fun zs s2 => if ws.length = n ∧ zs.length = ks.length ∧ (pick g (ws ++ zs)).length = ps.length then φ (pick g (ws ++ zs)) s2 else .err) Q (fun c d H' => Wx c d σ H') →
      wpAny (model X.prog X.w) X.A (evalAll ((backToKw pos (keywordEach kws X.env)).map (·.2))) (fun zs s₂ => X.K.In s₂.heap ∧ wpAny (model X.prog X.w) X.A (call (.ref f) us (((backToKw pos (keywordEach kws X.env)).filterMap (·.1)).zip zs)) (EP X pins σ Q) X.xe s₂) X.xe s1 := by
    intro us ws s1 st1 ρ1 H1 vs I1 rv r1 S1 l1 p1
    refine thn (hkw.run pos pins s1 σ H1 _ I1 ⟨ρ1, e, st1, ⟨l1.env R.env, S1⟩, Post.bind (S := RVs G) (T := fun zs H2 => ∃ ρ2 zw st2, Lat G ρ1 H1 ρ2 H2 ∧ Sim G ρ2 st2 H2 ∧ RVs G ρ2 H2 zw zs ∧ Post G ρ2 H2 (RV G) (if ws.length = n ∧ zw.length = ks.length ∧ (pick g (ws ++ zw)).length = ps.length then φ (pick g (ws ++ zw)) st2 else .err) Q (fun c d H' => Wx c d σ H')) p1 fun zw st2 ρ2 H2 zs l2 S2 r2 p2 => ⟨ρ2, zw, st2, l2, S2, r2, p2⟩⟩) fun zu s2 ⟨zs, H2, I2, rz, ρ2, zw, st2, l2, S2, r2, p2⟩ => ⟨I2.kIn, ?_⟩
    rw [n2]
    split at p2
    · rename_i hz
      have hl1 : us.length = n := by rw [← rv.length, ← r1.length, hz.1]
      have hl2 : zu.length = ks.length := by rw [← rz.length, ← r2.length, hz.2.1]
      have b := hb s2 us zu I2.kIn hl1 hl2
      have rr := vals_pick (rv.append rz) g
      have rw' := ((l2.rvs r1).app r2).pick g
      have hsp : SpI G φ ps.length (pick g (vs ++ zs)) H2 Q (WE Wx σ) := ⟨by rw [← rw'.length, hz.2.2], ρ2, _, st2, rw', S2, p2⟩
      refine wpAny_call (codeAny_mono (F.run X.A X.stack s2 H2 ⟨us, ks.zip zu⟩ _ _ Q (WE Wx σ) hr I2.env0 b rr hsp) fun r s' hq => ?_)
      cases r with
      | error ex => exact passAt tk σ pins H2 s2 ex s' I2 hq
      | ok fl =>
        cases fl with
        | ret u => exact I2.after hq
        | next => exact False.elim hq
        | brk => exact False.elim hq
        | cont => exact False.elim hq
    · exact p2.elim
  refine wpAny_Call_Name_kw (ld_glob I hg hm ?_ hdb)
  rcases ha with ⟨rfl, rfl⟩ | ⟨hne, ha⟩
  · exact PySem.W.callWith_KW0 (h₀ := X.base) I.ok.mod.kin hk n1 (fin [] [] s st ρ H [] I .nil .nil R.sim .refl pp) (by rw [n3]; rfl)
  cases es with
  | nil => exact absurd rfl hne
  | cons a rest =>
    rw [List.any_cons, Bool.or_eq_false_iff] at ns
    refine PySem.W.callWith_KW (h₀ := X.base) I.ok.mod.kin hk n1 (thn (ha.run pos pins s σ H _ I ⟨ρ, e, st, R, Post.bind (S := RVs G) (T := fun vs H1 => ∃ ρ1 ws st1, RVs G ρ1 H1 ws vs ∧ Sim G ρ1 st1 H1 ∧ Lat G ρ H ρ1 H1 ∧ Post G ρ1 H1 (RV G) ((mk e st1).bind fun zs s2 => if ws.length = n ∧ zs.length = ks.length ∧ (pick g (ws ++ zs)).length = ps.length then φ (pick g (ws ++ zs)) s2 else .err) Q (fun c d H' => Wx c d σ H')) pp fun ws st1 ρ1 H1 vs l1 S1 r1 p1 => ⟨ρ1, ws, st1, r1, S1, l1, p1⟩⟩) fun us s1 ⟨vs, H1, I1, rv, ρ1, ws, st1, r1, S1, l1, p1⟩ => fin us ws s1 st1 ρ1 H1 vs I1 rv r1 S1 l1 p1) ?_ (star_plain ns.1)
    rw [n3, Bool.or_false]
    exact star_all (by rw [List.any_cons, ns.1, ns.2]; rfl)
end
end Q
/-! A12: methods of lists, dicts, texts. -/
namespace Q
open PySem PySem.Spec PyProof.Rows L2
variable {G : Gm} {Wx : WX}

def tyM : W → Store → Option Nat
  | .str _, _ => some 2
  | .ref n, s => match s.f n with
    | some (.lst _) => some 0
    | some (.dic _) => some 1
    | _ => none
  | _, _ => none
def tyMS : Nat → String
  | 0 => "list"
  | 1 => "dict"
  | _ => "str"
theorem tyM_ok {ρ : List Addr} {H : Hp} {st : Store} {w : W} {v : V} {t : Nat} (S : Sim G ρ st H) (r : RV G ρ H w v) (h : tyM w st = some t) : tyV G.K (tyMS t) v H := by
  unfold tyM at h
  split at h
  · cases h; cases r; exact rfl
  · split at h
    · rename_i ys q
      cases h
      obtain ⟨b, vs, rfl, _, hv, _⟩ := S.lst r q
      exact .inl ⟨rfl, vs, SqL.of hv⟩
    · rename_i ys q
      cases h
      obtain ⟨b, rfl, _, hv⟩ := S.dic r q
      refine .inr (.inr (.inl ⟨rfl, ?_⟩))
      rcases hv with ⟨ks, hv, _⟩ | ⟨ks, hv, _⟩
      · exact .inl ⟨_, hv⟩
      · exact .inr ⟨_, hv⟩
    · cases h
  · cases h
def MtOk (G : Gm) (f : W → List W → Store → Res W) (r : V → List V → Hp → VK → Prop) : Prop := ∀ ρ H st x v ws vs Q Ex, Sim G ρ st H → RV G ρ H x v → RVs G ρ H ws vs → Post G ρ H (RV G) (f x ws st) Q Ex → r v vs H Q
structure MtE (G : Gm) (X : Cx) (t : Nat) (name : Str) (f : W → List W → Store → Res W) : Prop where
  ex : ∃ id r, PlainAttrs (tyMS t) ∧ Slot (tyMS t) name id ∧ typeOf (.builtin id) = pure (.type "method_descriptor") ∧ MtR X id r ∧ MtOk G f r

/-! ### lists -/
def mAppend : W → List W → Store → Res W
  | .ref n, [y], s => match s.f n with
    | some (.lst xs) => if xs.length < LIM then .ok .non (s.put n (.lst (xs ++ [y]))) else .err
    | _ => .err
  | _, _, _ => .err
theorem ok_append : MtOk G mAppend rAppend := by
  intro ρ H st x v ws vs Q Ex S rx rv p
  unfold mAppend at p
  split at p
  · rename_i n y
    cases rv with
    | cons r t =>
      cases t
      split at p
      · rename_i xs q
        split at p
        · rename_i hz
          obtain ⟨a, us, rfl, ea, h1, rs⟩ := S.lst rx q
          obtain ⟨l, S2⟩ := lst_put S ea h1 (rs.app (.cons r .nil))
          exact ⟨a, us, _, rfl, rfl, h1, by rw [lim_eq, ← rs.length]; exact hz, p ρ _ _ l S2 .non⟩
        · exact p.elim
      · exact p.elim
  · exact p.elim
def mExtend : W → List W → Store → Res W
  | .ref n, [.ref m], s => match s.f n, s.f m with
    | some (.lst xs), some (.lst ys) => if xs.length + ys.length ≤ LIM then .ok .non (s.put n (.lst (xs ++ ys))) else .err
    | _, _ => .err
  | _, _, _ => .err
theorem ok_extend : MtOk G mExtend rExtend := by
  intro ρ H st x v ws vs Q Ex S rx rv p
  unfold mExtend at p
  split at p
  · rename_i n m
    cases rv with
    | cons r t =>
      cases t
      split at p
      · rename_i xs ys q q2
        split at p
        · rename_i hz
          obtain ⟨a, us, rfl, ea, h1, rs⟩ := S.lst rx q
          obtain ⟨b, us2, rfl, eb, h2, rs2⟩ := S.lst r q2
          obtain ⟨l, S2⟩ := lst_put S ea h1 (rs.app rs2)
          exact ⟨a, b, us, us2, rfl, rfl, h1, h2, by rw [lim_eq, ← rs.length, ← rs2.length]; exact hz, p ρ _ _ l S2 .non⟩
        · exact p.elim
      · exact p.elim
  · exact p.elim
def mPop : W → List W → Store → Res W
  | .ref n, [], s => match s.f n with
    | some (.lst xs) => match xs[xs.length - 1]? with
      | some y => .ok y (s.put n (.lst xs.dropLast))
      | none => .err
    | _ => .err
  | .ref n, [.int i], s => match s.f n with
    | some (.lst xs) => if ix63 i = true then (match seqIndex? i xs.length with
      | some k => match xs[k]? with
        | some y => .ok y (s.put n (.lst (xs.eraseIdx k)))
        | none => .err
      | none => .err) else .err
    | _ => .err
  | _, _, _ => .err
theorem RVs.dropLast {ρ : List Addr} {H : Hp} {ws : List W} {vs : List V} (h : RVs G ρ H ws vs) : RVs G ρ H ws.dropLast vs.dropLast := by
  rw [List.dropLast_eq_take, List.dropLast_eq_take, h.length]
  exact h.take _
theorem MtR.or {X : Cx} {id : String} {r r' : V → List V → Hp → VK → Prop} (h : MtR X id r) (h' : MtR X id r') : MtR X id (fun x vs H Q => r x vs H Q ∨ r' x vs H Q) := by
  intro pins s σ H x xs v us Q I rx rv q
  rcases q with q | q
  · exact h pins s σ H x xs v us Q I rx rv q
  · exact h' pins s σ H x xs v us Q I rx rv q
theorem ok_pop : MtOk G mPop (fun x vs H Q => rPop x vs H Q ∨ rPopAt x vs H Q) := by
  intro ρ H st x v ws vs Q Ex S rx rv p
  unfold mPop at p
  split at p
  · rename_i n
    cases rv
    split at p
    · rename_i xs q
      split at p
      · rename_i y hy
        obtain ⟨a, us, rfl, ea, h1, rs⟩ := S.lst rx q
        obtain ⟨u, hu, ru⟩ := rs.get hy
        obtain ⟨l, S2⟩ := lst_put S ea h1 rs.dropLast
        exact .inl ⟨a, us, u, rfl, rfl, h1, by rw [← rs.length]; exact hu, p ρ _ _ l S2 (l.rv ru)⟩
      · exact p.elim
    · exact p.elim
  · rename_i n i
    cases rv with
    | cons r t =>
      cases t
      cases r
      split at p
      · rename_i xs q
        split at p
        · rename_i hi
          split at p
          · rename_i k hk
            split at p
            · rename_i y hy
              obtain ⟨a, us, rfl, ea, h1, rs⟩ := S.lst rx q
              obtain ⟨u, hu, ru⟩ := rs.get hy
              obtain ⟨l, S2⟩ := lst_put S ea h1 (rs.eraseIdx k)
              exact .inr ⟨a, us, i, k, u, rfl, rfl, h1, (ix63_ok hi).1, (ix63_ok hi).2, by rw [← rs.length]; exact hk, hu, p ρ _ _ l S2 (l.rv ru)⟩
            · exact p.elim
          · exact p.elim
        · exact p.elim
      · exact p.elim
  · exact p.elim

/-! ### dict.update, keys tuples -/
def isT : List (W × W) → Bool
  | [] => true
  | p :: _ => kd p.1 == some false
def upW (kvs more : List (W × W)) : List (W × W) := more.foldl (fun acc p => putW acc p.1 p.2) kvs
def upK {κ : Type} [DecidableEq κ] (kvs more : List (κ × V)) : List (κ × V) := more.foldl (fun acc p => putK acc p.1 p.2) kvs
section
variable {ρ : List Addr} {st : Store} {H : Hp}
theorem Sim.dT (S : Sim G ρ st H) {n : Nat} {u : V} {kvs : List (W × W)} (r : RV G ρ H (.ref n) u) (h : st.f n = some (.dic kvs)) (ok : isT kvs = true) :
    ∃ a H1 ks, u = .ref a ∧ ρ[n]? = some a ∧ Sw H a H1 ∧ H1 a = some (.dT ks) ∧ All2 (RE krT G ρ H1) kvs ks := by
  obtain ⟨a, rfl, hn, hd⟩ := S.dic r h
  cases kvs with
  | nil =>
    rcases hd with ⟨ks, h1, h2⟩ | ⟨ks, h1, h2⟩
    · cases h2
      exact ⟨a, _, [], rfl, hn, .inr (.inl ⟨h1, rfl⟩), upd_same, .nil⟩
    · exact ⟨a, H, ks, rfl, hn, .inl rfl, h1, h2⟩
  | cons p r' =>
    rcases hd with ⟨ks, h1, h2⟩ | ⟨ks, h1, h2⟩
    · exfalso
      cases h2 with
      | cons z _ =>
        have hp := z.1
        have e := eq_of_beq ok
        unfold kd at e
        rw [hp] at e
        simp at e
    · exact ⟨a, H, ks, rfl, hn, .inl rfl, h1, h2⟩
theorem All2.up {κ : Type} [DecidableEq κ] {R : KeyRel κ} {more : List (W × W)} {ms : List (κ × V)} (h2 : All2 (RE R G ρ H) more ms) : ∀ {kvs : List (W × W)} {ks : List (κ × V)}, All2 (RE R G ρ H) kvs ks → All2 (RE R G ρ H) (upW kvs more) (upK ks ms) := by
  induction h2 with
  | nil => exact fun h => h
  | cons r t ih => exact fun h => ih (h.put r.1 r.2)
end
theorem kt_up {H : Hp} {more : List (List Key × V)} {ys : List (List Key × Addr × Value)} (r2 : L2.KT H more ys) : ∀ {kvs : List (List Key × V)} {xs : List (List Key × Addr × Value)}, L2.KT H kvs xs → L2.KT H (upK kvs more) (storedAllH xs ys) := by
  induction r2 with
  | nil => exact fun h => h
  | @cons p q ps qs z t ih =>
    intro kvs xs h
    obtain ⟨k, y⟩ := p
    obtain ⟨k', b, u⟩ := q
    obtain ⟨e, h1, h2⟩ := z
    simp only at e h1 h2
    subst e
    exact ih (h.put k h1 h2)
theorem upK_len {κ : Type} [DecidableEq κ] : ∀ (more kvs : List (κ × V)), (upK kvs more).length ≤ kvs.length + more.length
  | [], kvs => Nat.le_refl _
  | p :: r, kvs => by
    have h := upK_len r (putK kvs p.1 p.2)
    have h2 := length_putK kvs p.1 p.2
    show (upK (putK kvs p.1 p.2) r).length ≤ _
    rw [List.length_cons]
    omega
def rUpdT : V → List V → Hp → VK → Prop := fun x vs H Q => ∃ a b H1 H2 ks ms, x = .ref a ∧ vs = [.ref b] ∧ a ≠ b ∧ Sw H a H1 ∧ Sw H1 b H2 ∧ H2 a = some (.dT ks) ∧ H2 b = some (.dT ms) ∧ (ks ≠ [] ∨ ms.length ≤ 1) ∧ ks.length + ms.length ≤ sizeLine ∧ Q .non (upd H2 a (.dT (upK ks ms)))
theorem nodup_le1 {α : Type} : ∀ {l : List α}, l.length ≤ 1 → l.Nodup
  | [], _ => List.nodup_nil
  | [y], _ => List.nodup_cons.mpr ⟨by simp, List.nodup_nil⟩
theorem mt_updT {X : Cx} (hu : X.A.units + 1 < cLine) : MtR X "dict.update" rUpdT := by
  intro pins s σ H x vs v us Q I rx rv h
  obtain ⟨a, b, H1, H2, ks, ms, rfl, rfl, hab, s1, s2, ha, hb, hap, hz, q⟩ := h
  cases rx
  obtain ⟨u, rfl, ru⟩ := rv.one
  cases ru
  have I2 := (I.sw s1).sw s2
  obtain ⟨z, hd, xs, rel, dd⟩ := dt_of I2.hok ha
  obtain ⟨z2, hd2, ys, rel2, dd2⟩ := dt_of I2.hok hb
  refine call_update_dictH (tupleKind_room_in1 hu) hab hd2 dd dd2 ?_ (by rw [← Paired.length rel, ← Paired.length rel2]; exact hz) fun h' dd' _ hs => ?_
  · rcases hap with hap | hap
    · refine .inl fun e => hap ?_
      subst e
      cases rel
      rfl
    · refine .inr ⟨fun x hx => ?_, ?_⟩
      · obtain ⟨_, _, _, _, _, _, _, his, _⟩ := dd2
        obtain ⟨o, its, n, h1, h2, _⟩ := his x hx
        exact ⟨o, h1, h2⟩
      · rw [Paired.length rel2] at hap
        exact nodup_le1 (by rw [List.length_map]; exact hap)
  · obtain ⟨o, es, ep, hq, h2, h3, h4, _, h5⟩ := dd'
    have hl : (upK ks ms).length ≤ sizeLine := by
      have := upK_len ms ks
      omega
    have kk : L2.KT (upd H2 a (.dT (upK ks ms))) (upK ks ms) (storedAllH xs ys) := (kt_up rel2 rel).keeps fun c zs ec => by
      rw [upd_ne (ne_of ec ha (fun z => nomatch z))]
      exact ec
    have ob : ObjOk X.prog X.w (upd H2 a (.dT (upK ks ms))) h' a (.dT (upK ks ms)) := ⟨hl, hd, _, kk, o, es, ep, hq, h2, h3, h4, h5⟩
    have I3 := d_write (t' := s.toks) I2 (by rw [ha]; exact True.intro) hs ⟨o, hq⟩ ob
    exact ⟨.non, _, I3, rfl, q⟩
def mUpdate : W → List W → Store → Res W
  | .ref n, [.ref m], s => match s.f n, s.f m with
    | some (.dic kvs), some (.dic more) => if n ≠ m ∧ isT kvs = true ∧ isT more = true ∧ (kvs ≠ [] ∨ more.length ≤ 1) ∧ kvs.length + more.length ≤ LIM then .ok .non (s.put n (.dic (upW kvs more))) else .err
    | _, _ => .err
  | _, _, _ => .err
theorem ok_update : MtOk G mUpdate rUpdT := by
  intro ρ H st x v ws vs Q Ex S rx rv p
  unfold mUpdate at p
  split at p
  · rename_i n m
    cases rv with
    | cons r t =>
      cases t
      split at p
      · rename_i kvs more q q2
        split at p
        · rename_i hz
          obtain ⟨hnm, t1, t2, hap, hl⟩ := hz
          obtain ⟨a, H1, ks, rfl, ea, sw1, ha, k1⟩ := S.dT rx q t1
          obtain ⟨l1, S1⟩ := sw_lat S ea q sw1
          obtain ⟨b, H2, ms, rfl, eb, sw2, hb, k2⟩ := S1.dT (l1.rv r) q2 t2
          obtain ⟨l2, S2⟩ := sw_lat S1 eb q2 sw2
          have hab : a ≠ b := fun e => hnm (S.inj (e ▸ ea) eb)
          have ha2 : H2 a = some (.dT ks) := by
            rcases sw2 with rfl | ⟨_, rfl⟩ | ⟨_, rfl⟩
            · exact ha
            · rw [upd_ne hab]; exact ha
            · rw [upd_ne hab]; exact ha
          have k12 : All2 (RE krT G ρ H2) kvs ks := k1.imp fun p q z => ⟨z.1, l2.rv z.2⟩
          have kt : KT G H2 (upd H2 a (.dT (upK ks ms))) := KT.mut ⟨_, ha2, trivial⟩
          have S3 := S2.put (n := n) (u := .dT (upK ks ms)) (o := .dic (upW kvs more)) ea (.inr ⟨_, upd_same, (k2.up k12).imp fun p q z => ⟨z.1, z.2.mono (List.prefix_refl _) kt⟩⟩)
          refine ⟨a, b, H1, H2, ks, ms, rfl, rfl, hab, sw1, sw2, ha2, hb, ?_, ?_, p ρ _ _ ((l1.trans l2).trans ⟨List.prefix_refl _, kt⟩) S3 .non⟩
          · rcases hap with h | h
            · exact .inl fun e => h (k12.nil_iff.mpr e)
            · exact .inr (by rw [← k2.len]; exact h)
          · rw [lim_eq, ← k12.len, ← k2.len]
            exact hl
        · exact p.elim
      · exact p.elim
  · exact p.elim

/-! ### the table -/
def mtF (t : Nat) (x : Str) : Option (W → List W → Store → Res W) :=
  if t = 0 then (if x = "append" then some mAppend else if x = "extend" then some mExtend else if x = "pop" then some mPop else none)
  else if t = 1 then (if x = "update" then some mUpdate else none)
  else none
theorem mtF_ok {X : Cx} (hu : X.A.units + 1 < cLine) {t : Nat} {x : Str} {f : W → List W → Store → Res W} (h : mtF t x = some f) : MtE G X t x f := by
  unfold mtF at h
  split at h
  · rename_i ht
    subst ht
    split at h
    · rename_i e; subst e; cases h
      exact ⟨_, _, PySem.F.plainAttrs_list, PySem.F.slot_list_append, PySem.F.type_list_append, mt_append, ok_append⟩
    split at h
    · rename_i e; subst e; cases h
      exact ⟨_, _, PySem.F.plainAttrs_list, PySem.F.slot_list_extend, PySem.F.type_list_extend, mt_extend, ok_extend⟩
    split at h
    · rename_i e; subst e; cases h
      exact ⟨_, _, PySem.F.plainAttrs_list, PySem.F.slot_list_pop, PySem.F.type_list_pop, MtR.or mt_pop mt_popAt, ok_pop⟩
    cases h
  split at h
  · rename_i ht
    subst ht
    split at h
    · rename_i e; subst e; cases h
      exact ⟨_, _, PySem.F.plainAttrs_dict, PySem.F.slot_dict_update, PySem.F.type_dict_update, mt_updT hu, ok_update⟩
    cases h
  cases h
def eMeth (name : Str) (mo : Ev W) (m : Ev (List W)) : Ev W := fun e s => (mo e s).bind fun x s1 => match tyM x s1 with
  | some t => match mtF t name with
    | some f => (m e s1).bind fun ws s2 => f x ws s2
    | none => .err
  | none => .err
def notSuper : Expr → Bool
  | .Call .. => false
  | _ => true
theorem base_ok {o : Expr} {name : Str} {env : Env} {t : Sem Value} (h : notSuper o = true) : attributeBase o name env t = t := by
  cases o <;> first | rfl | cases h
theorem si_meth0 {X : Cx} (hK : X.K = G.K) (hu : X.A.units + 1 < cLine) {o : Expr} {name : Str} {apos cpos : Pos} {mo : Ev W} (ho : PE X o (tI G Wx mo)) (hb : notSuper o = true) (hl : (apos.endLine == cpos.line) = true) : PE X (.Call (.Attribute o name apos) [] [] cpos) (tI G Wx (eMeth name mo eNil)) := by
  refine ⟨fun pins s σ H Q I ⟨ρ, e, st, R, p⟩ => ?_⟩
  refine wpAny_Call_method0_late (base_ok hb) hl (thn (ho.run pins s σ H _ I ⟨ρ, e, st, R, Post.bind (S := RV G) (T := fun v H1 => ∃ ρ1 x st1 t f, Lat G ρ H ρ1 H1 ∧ Sim G ρ1 st1 H1 ∧ RV G ρ1 H1 x v ∧ tyM x st1 = some t ∧ mtF t name = some f ∧ Post G ρ1 H1 (RV G) (f x [] st1) Q fun c d H' => Wx c d σ H') p fun x st1 ρ1 H1 v l1 S1 r1 p1 => ?_⟩) fun v s1 ⟨x, H1, I1, rx, ρ1, w, st1, t, f, l1, S1, r1, ht, hf, p1⟩ => ?_)
  · split at p1
    · rename_i t ht
      split at p1
      · rename_i f hf
        exact ⟨ρ1, x, st1, t, f, l1, S1, r1, ht, hf, p1⟩
      · exact p1.elim
    · exact p1.elim
  · obtain ⟨id, r, pa, slot, hty, hm, hok⟩ := (mtF_ok (G := G) hu hf).ex
    have ty := tyM_ok S1 r1 ht
    rw [← hK] at ty
    obtain ⟨h1, h2⟩ := tyV_is I1 rx ty
    exact ⟨_, id, pa, slot, hty, h1, h2, Calls.callWith_builtin rfl (PySem.evalArgs_none (hm pins s1 σ H1 x [] v [] Q I1 rx .nil (hok ρ1 H1 st1 w x [] [] Q _ S1 r1 .nil p1)))⟩
theorem few_ok {env : Env} {cpos : Pos} {es : List Expr} (ns : es.any isSt = false) (hn : es.length < 30) : ((backTo cpos (starEach es env)).all (fun x => !x.1) && (backToKw cpos (keywordEach [] env)).all (fun x => x.1.isSome)
      && decide (es.length + ([] : List Keyword).length + (if ([] : List Keyword).isEmpty then 0 else 1) < 30)) = true := by
  have h : (backTo cpos (starEach es env)).all (fun x => !x.1) = true := by
    have := star_all (env := env) (pos := cpos) ns
    rw [List.all_eq_not_any_not]
    simpa using this
  rw [h]
  have : decide (es.length + ([] : List Keyword).length + (if ([] : List Keyword).isEmpty then 0 else 1) < 30) = true := decide_eq_true hn
  rw [this]
  rfl
theorem si_meth {X : Cx} (hK : X.K = G.K) (hu : X.A.units + 1 < cLine) {o a : Expr} {es : List Expr} {name : Str} {apos cpos : Pos} {mo : Ev W} {m : Ev (List W)} (ho : PE X o (tI G Wx mo)) (ha : PA X (a :: es) (tIA G Wx m)) (hb : notSuper o = true) (hl : (apos.endLine == cpos.line) = true)
    (ns : (a :: es).any isSt = false) (hn : (a :: es).length < 30) : PE X (.Call (.Attribute o name apos) (a :: es) [] cpos) (tI G Wx (eMeth name mo m)) := by
  refine ⟨fun pins s σ H Q I ⟨ρ, e, st, R, p⟩ => ?_⟩
  refine wpAny_Call_method_late (base_ok hb) (few_ok ns hn) hl rfl (thn (ho.run pins s σ H _ I ⟨ρ, e, st, R, Post.bind (S := RV G) (T := fun v H1 => ∃ ρ1 x st1 t f, Lat G ρ H ρ1 H1 ∧ Sim G ρ1 st1 H1 ∧ RV G ρ1 H1 x v ∧ tyM x st1 = some t ∧ mtF t name = some f ∧ Post G ρ1 H1 (RV G) ((m e st1).bind fun ws s2 => f x ws s2) Q fun c d H' => Wx c d σ H') p fun x st1 ρ1 H1 v l1 S1 r1 p1 => ?_⟩) fun v s1 ⟨x, H1, I1, rx, ρ1, w, st1, t, f, l1, S1, r1, ht, hf, p1⟩ => ?_)
  · split at p1
    · rename_i t ht
      split at p1
      · rename_i f hf
        exact ⟨ρ1, x, st1, t, f, l1, S1, r1, ht, hf, p1⟩
      · exact p1.elim
    · exact p1.elim
  · obtain ⟨id, r, pa, slot, hty, hm, hok⟩ := (mtF_ok (G := G) hu hf).ex
    have ty := tyM_ok S1 r1 ht
    rw [← hK] at ty
    obtain ⟨h1, h2⟩ := tyV_is I1 rx ty
    refine ⟨_, id, pa, slot, hty, h1, h2, ?_⟩
    have hA := ha.run cpos pins s1 σ H1 _ I1 ⟨ρ1, e, st1, ⟨l1.env R.env, S1⟩, Post.bind (S := RVs G) (T := fun vs H2 => r x vs H2 Q) p1 fun ws st2 ρ2 H2 vs l2 S2 r2 p2 => hok ρ2 H2 st2 w x ws vs Q _ S2 (l2.rv r1) r2 p2⟩
    rw [List.any_cons, Bool.or_eq_false_iff] at ns
    rw [star_plain ns.1] at hA ⊢
    refine Calls.callWith_builtin (by show (false || (backTo cpos (starEach es X.env)).any (·.1)) = false; rw [star_all ns.2] <;> rfl) (Calls.evalArgs_plain ?_)
    exact thn hA fun us s2 ⟨vs, H2, I2, r2, q2⟩ => hm pins s2 σ H2 x vs v us Q I2 rx r2 q2
end Q
/-! A13: statements; a new dict; list(range(..)); len(set(..)). -/
namespace Q
open PySem PySem.Spec PyProof.Rows L2
variable {G : Gm} {Wx : WX}

/-! ### {} -/
def eNewD : Ev W := fun _ s => .ok (.ref s.n) (s.add (.dic []))
theorem si_newD {X : Cx} {pos : Pos} : PE X (.Dict [] [] pos) (tI G Wx eNewD) := by
  refine peM pe_dnewK ?_
  rintro σ H Q ⟨ρ, e, st, R, p⟩ a ha
  have kt : KT G H (upd H a (.dK [])) := KT.new ha
  have S2 := R.sim.add (u := .dK []) (o := .dic []) ha kt (fun b w hb => by
    have : b ≠ a := fun z => by rw [z, ha] at hb; cases hb
    rw [upd_ne this]; exact hb) (.inl ⟨[], upd_same, .nil⟩)
  exact p (ρ ++ [a]) _ _ ⟨List.prefix_append _ _, kt⟩ S2 (.ref R.sim.at_new)

/-! ### list(range(..)) -/
def rgW (a b : Int) : List W := (List.range (b - a).toNat).map fun i => W.int (a + (i : Nat))
theorem rgW_ok {ρ : List Addr} {H : Hp} (a b : Int) : RVs G ρ H (rgW a b) (rgV a b) := by
  unfold rgW rgV
  generalize List.range (b - a).toNat = l
  induction l with
  | nil => exact .nil
  | cons x r ih => exact .cons (.int _) ih
def mkRgL (a b : Int) (s : Store) : Res W := if (rgOk a && rgOk b && decide ((b - a).toNat ≤ LIM)) = true then .ok (.ref s.n) (s.add (.lst (rgW a b))) else .err
theorem mkRgL_ok {ρ : List Addr} {H : Hp} {st : Store} {a b : Int} {Q : VK} {Ex : XK} (S : Sim G ρ st H) (p : Post G ρ H (RV G) (mkRgL a b st) Q Ex) : RgOk a b ∧ ∀ q, H q = none → Q (.ref q) (upd H q (.lst (rgV a b))) := by
  unfold mkRgL at p
  split at p
  · rename_i h
    rw [Bool.and_eq_true, Bool.and_eq_true] at h
    obtain ⟨⟨h1, h2⟩, h3⟩ := h
    obtain ⟨a1, a2⟩ := rgOk_iff h1
    obtain ⟨b1, b2⟩ := rgOk_iff h2
    refine ⟨⟨a1, a2, b1, b2, of_decide_eq_true h3⟩, fun q hq => ?_⟩
    obtain ⟨l, S2, r⟩ := lst_new S hq (rgW_ok a b)
    exact p _ _ _ l S2 r
  · exact p.elim
def eLstRg1 (ma : Ev W) : Ev W := fun e s => (ma e s).bind fun x s1 => match x with
  | .int n => mkRgL 0 n s1
  | _ => .err
def eLstRg2 (ma mb : Ev W) : Ev W := fun e s => (ma e s).bind fun x s1 => (mb e s1).bind fun y s2 => match x, y with
  | .int i, .int j => mkRgL i j s2
  | _, _ => .err
section
variable {X : Cx} {a b : Expr} {p p2 q pos : Pos} {ma mb : Ev W}
theorem si_listRg1 (hc : X.calm = true) (hg : Gl X "list") (hm : X.mg "list" = none) (hg2 : Gl X "range") (hm2 : X.mg "range" = none) (ha : PE X a (tI G Wx ma)) (na : isSt a = false) : PE X (.Call (.Name "list" p) [.Call (.Name "range" p2) [a] [] q] [] pos) (tI G Wx (eLstRg1 ma)) := by
  refine peM (pe_listRg hc hg hm (prg_1 hg2 hm2 ha (by rw [star_plain na])) rfl) ?_
  rintro σ H Q ⟨ρ, e, st, R, p⟩
  refine ⟨ρ, e, st, R, Post.bind p fun x s1 ρ1 H1 v l1 S1 r1 p1 => ?_⟩
  cases r1 with
  | int n => exact ⟨n, rfl, mkRgL_ok S1 p1⟩
  | _ => exact p1.elim
theorem si_listRg2 (hc : X.calm = true) (hg : Gl X "list") (hm : X.mg "list" = none) (hg2 : Gl X "range") (hm2 : X.mg "range" = none) (ha : PE X a (tI G Wx ma)) (hb : PE X b (tI G Wx mb)) (na : isSt a = false) (nb : isSt b = false) : PE X (.Call (.Name "list" p) [.Call (.Name "range" p2) [a, b] [] q] [] pos) (tI G Wx (eLstRg2 ma mb)) := by
  refine peM (pe_listRg hc hg hm (prg_2 hg2 hm2 ha hb (by rw [star_plain na]) (by rw [star_plain nb]) (by rw [star_plain nb]; rfl)) rfl) ?_
  rintro σ H Q ⟨ρ, e, st, R, p⟩
  refine ⟨ρ, e, st, R, Post.bind p fun x s1 ρ1 H1 v l1 S1 r1 p1 => ?_⟩
  refine ⟨ρ1, e, s1, ⟨l1.env R.env, S1⟩, Post.bind p1 fun y s2 ρ2 H2 u l2 S2 r2 p2 => ?_⟩
  cases r1 with
  | int i =>
    cases r2 with
    | int j => exact ⟨i, j, rfl, rfl, mkRgL_ok S2 p2⟩
    | _ => exact p2.elim
  | _ => exact p2.elim

/-! ### len(set(..)) of a list of ints -/
def mkLenSet (x : W) (s : Store) : Res W := match x with
  | .ref n => match s.f n with
    | some (.lst xs) => match intsW xs with
      | some ns => if ns.length ≤ 4000 then .ok (.int ((PyProof.Rows.firstMet (fun i => ns.getD i 0) ns.length).length : Nat)) s else .err
      | none => .err
    | _ => .err
  | _ => .err
def eLenSet (ma : Ev W) : Ev W := fun e s => (ma e s).bind fun x s1 => mkLenSet x s1
theorem si_lenSet (hK : X.K = G.K) (hc : X.calm = true) (hg : Gl X "len") (hm : X.mg "len" = none) (hg2 : Gl X "set") (hm2 : X.mg "set" = none) (ha : PE X a (tI G Wx ma)) (na : isSt a = false) : PE X (.Call (.Name "len" p) [.Call (.Name "set" p2) [a] [] q] [] pos) (tI G Wx (eLenSet ma)) := by
  have na' : starEach [a] X.env = (false, eval a X.env) :: starEach [] X.env := by rw [star_plain na]
  refine ⟨fun pins s σ H Q I ⟨ρ, e, st, R, p⟩ => ?_⟩
  refine Call_ (ld_blt I hg hm PySem.boot_len ?_)
  refine PyProof.Rows.callWith_builtin1 (PyProof.Rows.args_cons ?_ rfl) rfl rfl
  refine Call_ (ld_blt I hg2 hm2 PyProof.Rows.boot_set ?_)
  refine PyProof.Rows.callWith_type1 (PyProof.Rows.args_cons (thn (ha.run pins s σ H (fun v H1 => ∃ ρ1 x st1, Lat G ρ H ρ1 H1 ∧ Sim G ρ1 st1 H1 ∧ RV G ρ1 H1 x v ∧ Post G ρ1 H1 (RV G) (mkLenSet x st1) Q fun c d H' => Wx c d σ H') I ⟨ρ, e, st, R, Post.bind p fun x s1 ρ1 H1 v l1 S1 r1 p1 => ⟨ρ1, x, s1, l1, S1, r1, p1⟩⟩) fun v s1 ⟨x, H1, I1, r1, ρ1, w, st1, l1, S1, rw', p1⟩ => PyProof.Rows.args_nil ?_) na') na' rfl
  unfold mkLenSet at p1
  split at p1
  · split at p1
    · rename_i n xs hf
      split at p1
      · rename_i ns hi
        split at p1
        · rename_i hl
          obtain ⟨l, vs, rfl, hn, hv, rs⟩ := S1.lst rw' hf
          have ev := RVs.int_inv (intsW_eq hi ▸ rs)
          cases r1
          obtain ⟨its, r, pl, hz⟩ := I1.list (SqL.of hv)
          rw [ev] at r
          have hlen : its.toArray.size = ns.length := by rw [List.size_toArray, ← r.length, List.length_map]
          refine call_set_list (I1.ok.hd hc) pl.isList (by simpa using RZ.intsAre_vals r) (by rw [hlen]; unfold scanBound; omega) fun h' tk hS hk => ?_
          refine PyProof.Rows.args_nil ?_
          rw [hlen] at hS
          obtain ⟨o, es, ep, t, ho, hex, hd, _, _, _, hff, hnn⟩ := hS
          have hle := PyProof.Rows.firstMet_length_le (fun i => ns.getD i 0) ns.length
          have I2 : Inv X pins σ H1 { s1 with heap := h', toks := tk } := I1.kept fun b o e => hk b o (Heap.lt_size e) e
          exact call_len_set ho hex hd hff (by rw [hnn]; omega) ⟨.int _, H1, I2.tok _, ⟨_, by rw [hnn]⟩, p1.ret S1 (.int _)⟩
        · exact p1.elim
      · exact p1.elim
    · exact p1.elim
  · exact p1.elim
end

/-! ### statements -/
def sErr : Sv := fun _ _ => .err
def sNx : Sv := fun e s => .nx e s
def sBk : Sv := fun e s => .bk e s
def sCt : Sv := fun e s => .ct e s
def sSeq (a b : Sv) : Sv := fun e s => match a e s with
  | .nx e1 s1 => b e1 s1
  | r => r
def sRet (m : Ev W) : Sv := fun e s => (m e s).bindS e fun w s1 => .ret w s1
def sRetN : Sv := fun _ s => .ret .non s
def sIf (c : Ev Bool) (a b : Sv) : Sv := fun e s => (c e s).bindS e fun x s1 => if x then a e s1 else b e s1
def sDrop (m : Ev W) : Sv := fun e s => (m e s).bindS e fun _ s1 => .nx e s1
def sAsg (m : Ev W) (t : Tg) : Sv := fun e s => (m e s).bindS e fun w s1 => match tgE t w e with
  | some e1 => .nx e1 s1
  | none => .err
def sPar (i j : Nat) (m : Ev (List W)) : Sv := fun e s => (m e s).bindS e fun ws s1 => match ws with
  | [v, w] => .nx ((e.set i (some v)).set j (some w)) s1
  | _ => .err
def sPar3 (i j l : Nat) (m : Ev (List W)) : Sv := fun e s => (m e s).bindS e fun ws s1 => match ws with
  | [u, v, w] => .nx (((e.set i (some u)).set j (some v)).set l (some w)) s1
  | _ => .err
def sSub (m mo mi : Ev W) : Sv := fun e s => (m e s).bindS e fun v s1 => (mo e s1).bindS e fun o s2 => (mi e s2).bindS e fun i s3 => (vSet o i v s3).bindS e fun _ s4 => .nx e s4
def sAug (i : Nat) (f : W → W → Store → Res W) (m : Ev W) : Sv := fun e s => match e[i]? with
  | some (some x) => (m e s).bindS e fun y s1 => (f x y s1).bindS e fun z s2 => .nx (e.set i (some z)) s2
  | _ => .err
section
variable {X : Cx} {e : Expr} {pos : Pos} {m : Ev W}
theorem ss_err {st : Stmt} : PS X st (tIS G Wx sErr) := ⟨fun pins s σ H D I ⟨_, _, _, _, p⟩ => p.elim⟩
theorem ss_pass : PS X (.Pass pos) (tIS G Wx sNx) := psM ps_pass fun D σ H ⟨ρ, e, st, R, p⟩ => p ρ H σ .refl R
theorem ss_break : PS X (.Break pos) (tIS G Wx sBk) := psM ps_break fun D σ H ⟨ρ, e, st, R, p⟩ => p ρ H σ .refl R
theorem ss_continue : PS X (.Continue pos) (tIS G Wx sCt) := psM ps_continue fun D σ H ⟨ρ, e, st, R, p⟩ => p ρ H σ .refl R
theorem ss_doc {x : Str} {j : Nat} {pos' : Pos} : PS X (.Expr (.Constant (.str x) j pos) pos') (tIS G Wx sNx) := psM ps_doc fun D σ H ⟨ρ, e, st, R, p⟩ => p ρ H σ .refl R
theorem ss_nil : PSs X [] (tIS G Wx sNx) := pssM pss_nil fun D σ H ⟨ρ, e, st, R, p⟩ => p ρ H σ .refl R
theorem ss_cons {st : Stmt} {sts : List Stmt} {a b : Sv} (ha : PS X st (tIS G Wx a)) (hb : PSs X sts (tIS G Wx b)) : PSs X (st :: sts) (tIS G Wx (sSeq a b)) := by
  refine pssM (pss_cons ha hb) ?_
  rintro D σ H ⟨ρ, e, st, R, p⟩
  refine ⟨ρ, e, st, R, ?_⟩
  unfold sSeq at p
  cases h : a e st with
  | nx e1 s1 =>
    rw [h] at p
    exact fun ρ' H' σ' l R' => ⟨ρ', e1, s1, R', PostS.mono l p⟩
  | ret w s1 => rw [h] at p; exact p
  | bk e1 s1 => rw [h] at p; exact p
  | ct e1 s1 => rw [h] at p; exact p
  | exc c w e1 s1 => rw [h] at p; exact p
  | err => rw [h] at p; exact p.elim
theorem ss_ret (h : PE X e (tI G Wx m)) : PS X (.Return (some e) pos) (tIS G Wx (sRet m)) := psM (ps_ret h) fun D σ H ⟨ρ, e, st, R, p⟩ =>
  ⟨ρ, e, st, R, PostS.bind R.env p fun w s1 ρ1 H1 v l1 R1 r1 p1 => p1 ρ1 H1 v .refl R1.sim r1⟩
theorem ss_retN : PS X (.Return none pos) (tIS G Wx sRetN) := psM ps_retN fun D σ H ⟨ρ, e, st, R, p⟩ => p ρ H .non .refl R.sim .non
theorem ss_if {c : Expr} {a b : List Stmt} {mc : Ev Bool} {ma mb : Sv} (hc : PT X c (tIT G Wx mc)) (ha : PSs X a (tIS G Wx ma)) (hb : PSs X b (tIS G Wx mb)) : PS X (.If c a b pos) (tIS G Wx (sIf mc ma mb)) := psM (ps_if hc ha hb) fun D σ H ⟨ρ, e, st, R, p⟩ =>
  ⟨ρ, e, st, R, PostS.bind R.env p fun x s1 ρ1 H1 x' l1 R1 r1 p1 => by
    cases r1
    cases x with
    | true => exact ⟨ρ1, e, s1, R1, p1⟩
    | false => exact ⟨ρ1, e, s1, R1, p1⟩⟩
theorem ss_drop (h : PE X e (tI G Wx m)) (hs : swapsWith e none pos.line X.env = pure false) : PS X (.Expr e pos) (tIS G Wx (sDrop m)) := psM (ps_expr h hs) fun D σ H ⟨ρ, e, st, R, p⟩ =>
  ⟨ρ, e, st, R, PostS.bind R.env p fun w s1 ρ1 H1 v l1 R1 r1 p1 => p1 ρ1 H1 σ .refl R1⟩
theorem asg_read {te : TE} {t : Tg} (ht : ∀ σ H Q, tI G Wx m σ H Q → te σ H Q) : ∀ D σ H, tIS G Wx (sAsg m t) D σ H → tAsg te (tgR G.K t) D σ H := by
  rintro D σ H ⟨ρ, e, st, R, p⟩
  refine ht σ H _ ⟨ρ, e, st, R, PostS.bind R.env p fun w s1 ρ1 H1 v l1 R1 r1 p1 => ?_⟩
  split at p1
  · rename_i e1 q
    exact tgE_ok t q R1.env r1 fun σ' re _ => p1 ρ1 H1 σ' .refl ⟨re, R1.sim⟩
  · exact p1.elim
theorem par_read {i j : Nat} {ta : TA} {ma : Ev (List W)} (ht : ∀ σ H Q, tIA G Wx ma σ H Q → ta σ H Q) : ∀ D σ H, tIS G Wx (sPar i j ma) D σ H → tPar i j ta D σ H := by
  rintro D σ H ⟨ρ, e, st, R, p⟩
  refine ht σ H _ ⟨ρ, e, st, R, PostS.bind R.env p fun ws s1 ρ1 H1 vs l1 R1 r1 p1 => ?_⟩
  split at p1
  · rename_i v w
    match vs, r1 with
    | [v', w'], .cons ra (.cons rb .nil) => exact ⟨v', w', rfl, p1 ρ1 H1 _ .refl ⟨(R1.env.set ra i).set rb j, R1.sim⟩⟩
  · exact p1.elim
theorem par3_read {i j l : Nat} {ta : TA} {ma : Ev (List W)} (ht : ∀ σ H Q, tIA G Wx ma σ H Q → ta σ H Q) : ∀ D σ H, tIS G Wx (sPar3 i j l ma) D σ H → tPar3 i j l ta D σ H := by
  rintro D σ H ⟨ρ, e, st, R, p⟩
  refine ht σ H _ ⟨ρ, e, st, R, PostS.bind R.env p fun ws s1 ρ1 H1 vs l1 R1 r1 p1 => ?_⟩
  split at p1
  · rename_i u v w
    match vs, r1 with
    | [u', v', w'], .cons ra (.cons rb (.cons rc .nil)) => exact ⟨u', v', w', rfl, p1 ρ1 H1 _ .refl ⟨((R1.env.set ra i).set rb j).set rc l, R1.sim⟩⟩
  · exact p1.elim
theorem sub_read {mo mi : Ev W} : ∀ D σ H, tIS G Wx (sSub m mo mi) D σ H → tAsg (tI G Wx m) (gSub (tI G Wx mo) (tI G Wx mi) rSetV) D σ H := by
  rintro D σ H ⟨ρ, e, st, R, p⟩
  refine ⟨ρ, e, st, R, PostS.bind R.env p fun v s1 ρ1 H1 vv l1 R1 r1 p1 => ?_⟩
  refine ⟨ρ1, e, s1, R1, PostS.bind R1.env p1 fun o s2 ρ2 H2 ov l2 R2 r2 p2 => ?_⟩
  refine ⟨ρ2, e, s2, R2, PostS.bind R2.env p2 fun i s3 ρ3 H3 iv l3 R3 r3 p3 => ?_⟩
  refine ok_set (Ex := fun c d H' => Wx c d σ H') R3.sim (l3.rv r2) r3 ((l2.trans l3).rv r1) ?_
  exact PostS.bind (S := RU) (T := fun _ H' => D.nx σ H') R3.env p3 fun _ s4 ρ4 H4 _ l4 R4 _ p4 => p4 ρ4 H4 σ .refl R4
theorem aug_read {i : Nat} {f : W → W → Store → Res W} {r : R2} (ok : Op2Ok G f r) : ∀ D σ H, tIS G Wx (sAug i f m) D σ H → tAug i (tI G Wx m) r D σ H := by
  rintro D σ H ⟨ρ, e, st, R, p⟩
  unfold sAug at p
  split at p
  · rename_i x hx
    obtain ⟨v, h1, rx⟩ := R.env.2 i x hx
    refine ⟨v, h1, ρ, e, st, R, PostS.bind R.env p fun y s1 ρ1 H1 u l1 R1 r1 p1 => ?_⟩
    exact ok ρ1 H1 s1 x y v u _ (fun c d H' => Wx c d σ H') R1.sim (l1.rv rx) r1 (PostS.bind R1.env p1 fun z s2 ρ2 H2 zv l2 R2 r2 p2 => p2 ρ2 H2 _ .refl ⟨R2.env.set r2 i, R2.sim⟩)
  · exact p.elim
end
def vInt (f : Int → Int → Int) : W → W → Store → Res W
  | .int i, .int j, s => .ok (.int (f i j)) s
  | _, _, _ => .err
theorem ok_ip {f : Int → Int → Int} : Op2Ok G (vInt f) (ipI f) := by
  intro ρ H st x y v u Q Ex S rx ry p
  unfold vInt at p
  split at p
  · cases rx; cases ry
    exact ⟨_, _, rfl, rfl, p.ret S (.int _)⟩
  · exact p.elim
def vAug : Operator → Option (W → W → Store → Res W)
  | .Add => some (vInt fun i j => i + j)
  | .Sub => some (vInt fun i j => i - j)
  | _ => none
theorem aug_ok {X : Cx} {op : Operator} {f : W → W → Store → Res W} (h : vAug op = some f) : ∃ r, PIp X op r ∧ Op2Ok G f r := by
  cases op <;> simp [vAug] at h <;> subst h
  · exact ⟨_, ip_add, ok_ip⟩
  · exact ⟨_, ip_sub, ok_ip⟩
end Q
/-! A14: the compiler from texts to the evaluator; it is sound. -/
namespace Q
open PySem PySem.Spec PyProof.Rows L2
variable {G : Gm} {Wx : WX}

/-- what a global name is: a constant; a def (how many parameters, what it does, its calls by keywords); a built-in -/
def bltT (x : Str) : Option String := if x = "bool" then some "bool" else if x = "int" then some "int" else if x = "str" then some "str" else if x = "tuple" then some "tuple" else if x = "list" then some "list" else if x = "dict" then some "dict" else none
inductive GV where
  | con (w : W)
  | fn (np : Nat) (φ : List W → Store → Res W) (kws : List (Nat × List Str × List Nat))
  | blt
structure Cfg where
  N : List Str
  sc : Scope
  fn : Str → Bool
  gl : Str → Option GV
  lap : Nat
def GlOk (G : Gm) (X : Cx) (x : Str) : GV → Prop
  | .con w => ∃ u v, X.mg x = some u ∧ RelV v u ∧ ∀ ρ H, RV G ρ H w v
  | .fn np φ kws => ∃ k f fd ps, X.mg x = some (.ref f) ∧ FnOk X.prog X.w X.K X.mg X.base (L2.CX X.prog X.w) k f fd ps (SpI G φ ps.length) ∧ ps.length = np ∧ Room k X.A ∧ PySem.W.keepIn X.K (.ref f) = true ∧ Binds X.K fd ps [] ∧ ∀ q ∈ kws, KwB X.K fd ps q.1 q.2.1 q.2.2
  | .blt => X.mg x = none
structure CtxI (c : Cfg) (G : Gm) (X : Cx) (Wx : WX) : Prop where
  N : X.N = c.N
  nd : X.N.Nodup
  sc : X.env.scope = c.sc
  kind : c.sc.kind = .function
  fnn : ∀ x, c.fn x = true → X.fn x = true
  calm : X.calm = true
  K : X.K = G.K
  hu : X.A.units + 64 < cLine
  tk : Takes X Wx
  po : PassesOwn (model X.prog X.w) X.A X.env X.xe
  gl : ∀ x g, c.gl x = some g → GlOk G X x g

/-! ### the texts' forms -/
def ixOf (x : Str) : List Str → Option Nat
  | [] => none
  | y :: r => if y = x then some 0 else (ixOf x r).map (· + 1)
theorem ixOf_get {x : Str} : ∀ {N : List Str} {i : Nat}, ixOf x N = some i → N[i]? = some x
  | [], _, h => by cases h
  | y :: r, i, h => by
    unfold ixOf at h
    split at h
    · rename_i e; cases h; simp [e]
    · cases q : ixOf x r with
      | none => rw [q] at h; cases h
      | some j => rw [q] at h; cases h; simpa using ixOf_get q
def okNm (x : Str) : Bool := !(x == ("__debug__" : Str)) && !(x == ("__classdict__" : Str))
def isLoc (sc : Scope) (x : Str) : Bool := match sc.names.lookup x with
  | some .local => true
  | _ => false
def isVis (sc : Scope) (x : Str) : Bool := match sc.names.lookup x with
  | some .local => true
  | some .cell => true
  | some .free => true
  | _ => false
def isGlo (sc : Scope) (x : Str) : Bool := match sc.names.lookup x with
  | some .globalImplicit => true
  | _ => false
def isTgt (c : Cfg) (x : Str) : Bool := match c.sc.names.lookup x with
  | some .local => true
  | some .cell => c.fn x
  | _ => false
def isBlt (c : Cfg) (x : Str) : Bool := isGlo c.sc x && match c.gl x with
  | some .blt => true
  | _ => false
def isSl : Expr → Bool
  | .Slice .. => true
  | _ => false
def isTupE : Expr → Bool
  | .Tuple .. => true
  | _ => false
def isCompE : Expr → Bool
  | .ListComp .. => true
  | .SetComp .. => true
  | .DictComp .. => true
  | _ => false
/-- tests of a form of their own -/
def ownTest : Expr → Bool
  | .UnaryOp .. => true
  | .BoolOp .. => true
  | .IfExp .. => true
  | .Compare .. => true
  | _ => false
def ownOf (N : List Str) (sc : Scope) : List (Str × Nat) := sc.names.filterMap fun y => match y.2 with
  | .local => (ixOf y.1 N).map fun i => (y.1, i)
  | .cell => (ixOf y.1 N).map fun i => (y.1, i)
  | _ => none
def Cfg.inner (c : Cfg) (scope : Scope) : Cfg := { c with sc := relS scope c.sc, fn := fun x => scope.names.lookup x == some .cell }
def dTg : Nat → Cfg → Expr → Option Tg
  | 0, _, _ => none
  | n + 1, c, e => match e with
    | .Name x _ => if isTgt c x then (ixOf x c.N).map .nm else none
    | .Tuple es _ _ => if es.any isSt then none else (es.mapM (dTg n c)).map .tup
    | _ => none
def mkRange1 (m : Ev (List W)) : Ev ItV := fun e s => (m e s).bind fun ws s1 => match ws with
  | [_] => mkRange ws s1
  | _ => .err
def mkRange2 (m : Ev (List W)) : Ev ItV := fun e s => (m e s).bind fun ws s1 => match ws with
  | [_, _] => mkRange ws s1
  | _ => .err
def eTrue : Ev Bool := fun _ s => .ok true s
/-- a pair of names that are stored from the right -/
def par2 (sc : Scope) (x y : Str) (px py : Pos) (vs : List Expr) : Bool := isLoc sc x && isLoc sc y && py.line == px.line && x != y && vs.length == 2 && !vs.any isSt && !vs.all (foldedForSure 8) && !vs.all (constantsAlone 8)
def par3 (sc : Scope) (x y z : Str) (px py pz : Pos) (vs : List Expr) : Bool := isLoc sc x && isLoc sc y && isLoc sc z && py.line == px.line && pz.line == px.line && x != y && x != z && y != z && vs.length == 3 && !vs.any isSt && !vs.all (foldedForSure 8) && !vs.all (constantsAlone 8)
def nmsOf (sc : Scope) (line : Nat) (ts : List Expr) : List Str := ts.filterMap fun t => match t with
  | .Name x q => if isLoc sc x && q.line == line then some x else none
  | _ => none
/-- the stores are in sequence -/
def plainT (sc : Scope) (ts vs : List Expr) : Bool := (ts.length != 2 && ts.length != 3) || vs.length != ts.length || vs.any isSt || (nmsOf sc ((ts.head?.map (·.pos.line)).getD 0) ts).length != ts.length || (nmsOf sc ((ts.head?.map (·.pos.line)).getD 0) ts).eraseDups.length != (nmsOf sc ((ts.head?.map (·.pos.line)).getD 0) ts).length || vs.all (foldedForSure 8)
def swaps (sc : Scope) (x : Str) (px ep : Pos) (scope : Scope) : Bool := isLoc sc x && px.line == ep.line && !(scope.names.any fun q => q.1 == x && (q.2 == .local || q.2 == .cell))

/-! ### one layer -/
structure D where
  E : Cfg → Expr → Ev W
  T : Cfg → Expr → Ev Bool
  A : Cfg → List Expr → Ev (List W)
  I : Cfg → Expr → Expr → Ev ItV
  S : Cfg → Stmt → Sv
  B : Cfg → List Stmt → Sv
def lcE (d : D) (c : Cfg) (elt tg iter : Expr) (ifs : List Expr) (asy : Int) (scope : Scope) : Ev W :=
  match dTg 4 (c.inner scope) tg with
  | some t => if (blkC c.N c.sc scope (ownOf c.N scope) && (tgI t).all (fun i => decide (i ∈ (ownOf c.N scope).map (·.2))) && decide (asy = 0) && !isSetE iter) = true then
      (match ifs with
      | [] => eLc (d.I c tg iter) ((ownOf c.N scope).map (·.2)) t eTrue (d.E (c.inner scope) elt)
      | [x] => eLc (d.I c tg iter) ((ownOf c.N scope).map (·.2)) t (d.T (c.inner scope) x) (d.E (c.inner scope) elt)
      | _ => eErr) else eErr
  | none => eErr
def callE (d : D) (c : Cfg) (x : Str) (es : List Expr) (kws : List Keyword) : Ev W :=
  if (okNm x && isGlo c.sc x && !es.any isSt) = true then
    (match c.gl x with
    | some (.fn np φ kl) => (match kws with
      | [] => (match es with
        | [] => eErr
        | _ :: _ => eCallF φ np (d.A c es))
      | _ :: _ => (match kl.find? fun q => decide (q.1 = es.length) && decide (kws.map (·.arg) = q.2.1.map some) with
        | some q => eCallK φ np q.1 q.2.1.length q.2.2 (match es with
          | [] => eNil
          | _ :: _ => d.A c es) (eKws (kws.map fun k => d.E c k.value))
        | none => eErr))
    | some .blt => (match kws, es with
      | [], _ :: _ => (match bltF x with
        | some f => eCallB f (d.A c es)
        | none => eErr)
      | _, _ => eErr)
    | _ => eErr) else eErr
def methE (d : D) (c : Cfg) (o : Expr) (nm : Str) (apos : Pos) (es : List Expr) (cpos : Pos) : Ev W :=
  if (notSuper o && apos.endLine == cpos.line && !es.any isSt && decide (es.length < 30)) = true then eMeth nm (d.E c o) (match es with
    | [] => eNil
    | _ :: _ => d.A c es) else eErr
def step (d : D) : D where
  E c e := match e with
    | .Constant k _ _ => (match k with
      | .none => eC .non
      | .bool b => eC (.bl b)
      | .int i => eC (.int i)
      | .str x => eC (.str x)
      | _ => eErr)
    | .Name x _ => if okNm x then (if isVis c.sc x then (match ixOf x c.N with
        | some i => eVar i
        | none => eErr) else if isGlo c.sc x then (match c.gl x with
        | some (.con w) => eC w
        | some .blt => (match bltT x with
          | some n => eC (.ty n)
          | none => eErr)
        | _ => eErr) else eErr) else eErr
    | .BinOp a op b _ => (match vBin op with
      | some f => eOp2 f (d.E c a) (d.E c b)
      | none => eErr)
    | .UnaryOp op a _ => (match op with
      | .Not => eNotV (d.E c a)
      | .USub => eOp1 vNeg (d.E c a)
      | _ => eErr)
    | .BoolOp op vs pos => (match vs with
      | [] => eErr
      | [a] => d.E c a
      | a :: b :: rest => (match op with
        | .And => eAndV (d.E c a) (d.E c (.BoolOp .And (b :: rest) pos))
        | .Or => eOrV (d.E c a) (d.E c (.BoolOp .Or (b :: rest) pos))))
    | .IfExp t a b _ => eIf (d.T c t) (d.E c a) (d.E c b)
    | .Compare a ops bs _ => (match ops, bs with
      | [op], [b] => if isSetE b then eErr else eOp2 (vCmp op) (d.E c a) (d.E c b)
      | [op, op2], [b, b2] => if isSetE b2 then eErr else eChain (vCmp op) (vCmp op2) (d.E c a) (d.E c b) (d.E c b2)
      | _, _ => eErr)
    | .Subscript a i _ => (match i with
      | .Slice lo hi st _ => (match st with
        | none => eSlice (d.E c a) (lo.map (d.E c)) (hi.map (d.E c))
        | some _ => eErr)
      | _ => eOp2 vIx' (d.E c a) (d.E c i))
    | .Tuple es _ _ => eTup (d.A c es)
    | .List es _ => eLst (d.A c es)
    | .Dict ks vs _ => (match ks, vs with
      | [], [] => eNewD
      | _, _ => eErr)
    | .ListComp elt gens scope _ => (match gens with
      | [⟨tg, iter, ifs, asy⟩] => lcE d c elt tg iter ifs asy scope
      | _ => eErr)
    | .Call f es kws cpos => (match f with
      | .Name x _ => (match es, kws with
        | [.Call (.Name y _) [a] [] _], [] =>
          if (decide (x = "list") && decide (y = "range") && isBlt c x && isBlt c y && !isSt a) = true then eLstRg1 (d.E c a)
          else if (decide (x = "len") && decide (y = "set") && isBlt c x && isBlt c y && !isSt a) = true then eLenSet (d.E c a)
          else callE d c x es kws
        | [.Call (.Name y _) [a, b] [] _], [] =>
          if (decide (x = "list") && decide (y = "range") && isBlt c x && isBlt c y && !isSt a && !isSt b) = true then eLstRg2 (d.E c a) (d.E c b)
          else callE d c x es kws
        | _, _ => callE d c x es kws)
      | .Attribute o nm apos => (match kws with
        | [] => methE d c o nm apos es cpos
        | _ => eErr)
      | _ => eErr)
    | _ => eErr
  T c e := match e with
    | .UnaryOp op a _ => (match op with
      | .Not => eNotT (d.T c a)
      | _ => fun _ _ => .err)
    | .BoolOp op vs pos => (match vs with
      | [] => fun _ _ => .err
      | [a] => d.T c a
      | a :: b :: rest => (match op with
        | .And => eAndT (d.T c a) (d.T c (.BoolOp .And (b :: rest) pos))
        | .Or => eOrT (d.T c a) (d.T c (.BoolOp .Or (b :: rest) pos))))
    | .Compare a ops bs _ => (match ops, bs with
      | [op], [b] => if isSetE b then fun _ _ => .err else eTest (eOp2 (vCmp op) (d.E c a) (d.E c b))
      | [op, op2], [b, b2] => if isSetE b2 then fun _ _ => .err else eTest (eChain (vCmp op) (vCmp op2) (d.E c a) (d.E c b) (d.E c b2))
      | _, _ => fun _ _ => .err)
    | .IfExp .. => fun _ _ => .err
    | e => eTru (d.E c e)
  A c es := match es with
    | [] => eNil
    | e :: r => (match e with
      | .Starred a _ => eStar (d.E c a) (d.A c r)
      | _ => eCons (d.E c e) (d.A c r))
  I c tg it := match it with
    | .Call (.Name x _) [a] [] _ =>
      if (decide (x = "range") && isBlt c x && !isSt a) = true then mkRange1 (d.A c [a])
      else if (decide (x = "enumerate") && isBlt c x && !isSt a && isTupE tg) = true then eEnum (d.A c [a])
      else eIter (d.E c it)
    | .Call (.Name x _) [a, b] [] _ =>
      if (decide (x = "range") && isBlt c x && !isSt a && !isSt b) = true then mkRange2 (d.A c [a, b])
      else if (decide (x = "zip") && isBlt c x && !isSt a && !isSt b && isTupE tg) = true then eZip (d.A c [a, b])
      else eIter (d.E c it)
    | _ => eIter (d.E c it)
  S c st := match st with
    | .Return v _ => (match v with
      | some e => sRet (d.E c e)
      | none => sRetN)
    | .Pass _ => sNx
    | .Break _ => sBk
    | .Continue _ => sCt
    | .If t a b _ => sIf (d.T c t) (d.B c a) (d.B c b)
    | .For tg it body els _ => (match els, dTg 4 c tg with
      | [], some t => if isSetE it then sErr else sFor (d.I c tg it) t (d.B c body)
      | _, _ => sErr)
    | .While t body els _ => (match els with
      | [] => whLoop c.lap (d.T c t) (d.B c body)
      | _ => sErr)
    | .Expr e _ => (match e with
      | .Constant (.str _) _ _ => sNx
      | _ => if isCompE e then sErr else sDrop (d.E c e))
    | .AugAssign tg op e _ => (match tg, vAug op with
      | .Name x _, some f => if isTgt c x then (match ixOf x c.N with
        | some i => sAug i f (d.E c e)
        | none => sErr) else sErr
      | _, _ => sErr)
    | .Assign tgs e _ => (match tgs with
      | [t] => (match t with
      | .Name x px => if isTgt c x then (match ixOf x c.N with
        | some i => (match e with
          | .ListComp elt [⟨tg, iter, ifs, asy⟩] scope pos => sAsg (lcE d c elt tg iter ifs asy scope) (.nm i)
          | _ => if isCompE e then sErr else sAsg (d.E c e) (.nm i))
        | none => sErr) else sErr
      | .Tuple ts k pt => (match e with
        | .Tuple vs _ _ => (match ts with
          | [.Name x px, .Name y py] => if par2 c.sc x y px py vs then (match ixOf x c.N, ixOf y c.N with
              | some i, some j => if i = j then sErr else sPar i j (d.A c vs)
              | _, _ => sErr)
            else if plainT c.sc ts vs then (match dTg 4 c (.Tuple ts k pt) with
              | some t => sAsg (d.E c e) t
              | none => sErr) else sErr
          | [.Name x px, .Name y py, .Name z pz] => if par3 c.sc x y z px py pz vs then (match ixOf x c.N, ixOf y c.N, ixOf z c.N with
              | some i, some j, some l => if i = j ∨ i = l ∨ j = l then sErr else sPar3 i j l (d.A c vs)
              | _, _, _ => sErr)
            else if plainT c.sc ts vs then (match dTg 4 c (.Tuple ts k pt) with
              | some t => sAsg (d.E c e) t
              | none => sErr) else sErr
          | _ => if plainT c.sc ts vs then (match dTg 4 c (.Tuple ts k pt) with
              | some t => sAsg (d.E c e) t
              | none => sErr) else sErr)
        | _ => (match dTg 4 c (.Tuple ts k pt) with
          | some t => sAsg (d.E c e) t
          | none => sErr))
      | .Subscript o i _ => if isSl i then sErr else sSub (d.E c e) (d.E c o) (d.E c i)
      | _ => sErr)
      | _ => sErr)
    | _ => sErr
  B c sts := match sts with
    | [] => sNx
    | st :: r => sSeq (d.S c st) (d.B c r)
def D0 : D := ⟨fun _ _ => eErr, fun _ _ _ _ => .err, fun _ _ _ _ => .err, fun _ _ _ _ _ => .err, fun _ _ => sErr, fun _ _ => sErr⟩
def dd : Nat → D
  | 0 => D0
  | n + 1 => step (dd n)
end Q
/-! A15: the compiler is sound. -/
namespace Q
open PySem PySem.Spec PyProof.Rows L2
variable {G : Gm} {Wx : WX}

structure DOk (G : Gm) (d : D) : Prop where
  E : ∀ {c : Cfg} {X : Cx} {Wx : WX}, CtxI c G X Wx → ∀ e, PE X e (tI G Wx (d.E c e))
  T : ∀ {c : Cfg} {X : Cx} {Wx : WX}, CtxI c G X Wx → ∀ e, PT X e (tIT G Wx (d.T c e))
  W : ∀ {c : Cfg} {X : Cx} {Wx : WX}, CtxI c G X Wx → ∀ op vs pos, PW X (.BoolOp op vs pos) (tIT G Wx (d.T c (.BoolOp op vs pos)))
  A : ∀ {c : Cfg} {X : Cx} {Wx : WX}, CtxI c G X Wx → ∀ es, PA X es (tIA G Wx (d.A c es))
  I : ∀ {c : Cfg} {X : Cx} {Wx : WX}, CtxI c G X Wx → ∀ tg it, PI X tg it (tII G Wx (d.I c tg it))
  S : ∀ {c : Cfg} {X : Cx} {Wx : WX}, CtxI c G X Wx → ∀ st, PS X st (tIS G Wx (d.S c st))
  B : ∀ {c : Cfg} {X : Cx} {Wx : WX}, CtxI c G X Wx → ∀ sts, PSs X sts (tIS G Wx (d.B c sts))
theorem pe_err {X : Cx} {e : Expr} {m : Ev W} (h : ∀ e s, m e s = .err) : PE X e (tI G Wx m) := ⟨fun pins s σ H Q I ⟨_, _, _, _, p⟩ => by rw [h] at p; exact p.elim⟩
theorem pt_err {X : Cx} {e : Expr} : PT X e (tIT G Wx fun _ _ => .err) := ⟨fun pins s σ H Q I ⟨_, _, _, _, p⟩ => p.elim⟩
theorem pw_err {X : Cx} {e : Expr} : PW X e (tIT G Wx fun _ _ => .err) := ⟨fun wh pins s σ H Q I ⟨_, _, _, _, p⟩ => p.elim⟩
theorem D0_ok : DOk G D0 where
  E _ _ := si_err
  T _ _ := pt_err
  W _ _ _ _ := pw_err
  A _ _ := ⟨fun p pins s σ H Q I ⟨_, _, _, _, p⟩ => p.elim⟩
  I _ _ _ := ⟨fun pins s σ H Q I ⟨_, _, _, _, p⟩ => p.elim⟩
  S _ _ := ss_err
  B _ _ := ⟨fun pins s σ H D I ⟨_, _, _, _, p⟩ => p.elim⟩

section
variable {c : Cfg} {X : Cx} {d : D}
theorem okNm_iff {x : Str} (h : okNm x = true) : (x == ("__debug__" : Str)) = false ∧ (x == ("__classdict__" : Str)) = false := by
  unfold okNm at h
  simpa using h
theorem isLoc_iff {sc : Scope} {x : Str} (h : isLoc sc x = true) : sc.names.lookup x = some .local := by
  unfold isLoc at h
  split at h
  · assumption
  · cases h
theorem isVis_iff {sc : Scope} {x : Str} (h : isVis sc x = true) : Vis sc x := by
  unfold isVis at h
  split at h
  · exact .inl (by assumption)
  · exact .inr (.inl (by assumption))
  · exact .inr (.inr (by assumption))
  · cases h
theorem isGlo_iff {sc : Scope} {x : Str} (h : isGlo sc x = true) : sc.names.lookup x = some .globalImplicit := by
  unfold isGlo at h
  split at h
  · assumption
  · cases h
theorem isTgt_iff {x : Str} (h : isTgt c x = true) : Loc c.sc x ∧ (c.fn x = true ∨ c.sc.names.lookup x = some .local) := by
  unfold isTgt at h
  split at h
  · rename_i e; exact ⟨.inl e, .inr e⟩
  · rename_i e; exact ⟨.inr e, .inl h⟩
  · cases h
theorem isBlt_iff (C : CtxI c G X Wx) {x : Str} (h : isBlt c x = true) : Gl X x ∧ X.mg x = none := by
  unfold isBlt at h
  rw [Bool.and_eq_true] at h
  obtain ⟨h1, h2⟩ := h
  refine ⟨?_, ?_⟩
  · show X.env.scope.names.lookup x = _
    rw [C.sc]
    exact isGlo_iff h1
  · split at h2
    · rename_i e
      exact C.gl x _ e
    · cases h2
theorem CtxI.gls (C : CtxI c G X Wx) {x : Str} (h : isGlo c.sc x = true) : Gl X x := by
  show X.env.scope.names.lookup x = _
  rw [C.sc]
  exact isGlo_iff h
theorem CtxI.at_ix (C : CtxI c G X Wx) {x : Str} {i : Nat} (h : ixOf x c.N = some i) : X.N[i]? = some x := by rw [C.N]; exact ixOf_get h
theorem CtxI.tgt (C : CtxI c G X Wx) {x : Str} (h : isTgt c x = true) : Loc X.env.scope x ∧ (X.fn x = true ∨ X.env.scope.names.lookup x = some .local) := by
  obtain ⟨h1, h2⟩ := isTgt_iff h
  rw [C.sc]
  exact ⟨h1, h2.imp (C.fnn x) id⟩
theorem CtxI.locX (C : CtxI c G X Wx) {x : Str} (h : isLoc c.sc x = true) : X.env.scope.names.lookup x = some .local := by
  rw [C.sc]; exact isLoc_iff h
theorem assignEach_len {env : Env} : ∀ es : List Expr, (assignEach es env).length = es.length
  | [] => rfl
  | e :: es => by
    have ih := assignEach_len (env := env) es
    cases e <;> (show (_ :: assignEach es env).length = _) <;> rw [List.length_cons, List.length_cons, ih]
theorem assignEach_noStar {env : Env} : ∀ {es : List Expr}, es.any isSt = false → (assignEach es env).findIdx? (·.1) = none
  | [], _ => rfl
  | e :: es, h => by
    rw [List.any_cons, Bool.or_eq_false_iff] at h
    have ih := assignEach_noStar (env := env) h.2
    have e1 : assignEach (e :: es) env = (false, assign e env) :: assignEach es env := by
      cases e <;> first | rfl | cases h.1
    rw [e1, List.findIdx?_cons, ih]
    rfl
theorem mapM_cons {α β : Type} {f : α → Option β} {a : α} {as : List α} {r : List β} (h : (a :: as).mapM f = some r) : ∃ b bs, f a = some b ∧ as.mapM f = some bs ∧ r = b :: bs := by
  rw [List.mapM_cons] at h
  cases q : f a with
  | none => rw [q] at h; cases h
  | some b =>
    rw [q] at h
    cases q2 : as.mapM f with
    | none => rw [q2] at h; cases h
    | some bs =>
      rw [q2] at h
      cases h
      exact ⟨b, bs, rfl, rfl, rfl⟩
theorem dTg_ok (C : CtxI c G X Wx) : ∀ (n : Nat) (e : Expr) (t : Tg), dTg n c e = some t → PG X e (tgR G.K t)
  | 0, e, t, h => by cases h
  | n + 1, e, t, h => by
    unfold dTg at h
    split at h
    · rename_i x p
      split at h
      · rename_i ht
        cases q : ixOf x c.N with
        | none => rw [q] at h; cases h
        | some i =>
          rw [q] at h
          cases h
          obtain ⟨h1, h2⟩ := C.tgt ht
          exact pg_name C.nd (C.at_ix q) h1 h2
      · cases h
    · rename_i es k p
      split at h
      · cases h
      · rename_i ns
        have ns : es.any isSt = false := by simpa using ns
        cases q : es.mapM (dTg n c) with
        | none => rw [q] at h; cases h
        | some ts =>
          rw [q] at h
          cases h
          have gs : ∀ (es : List Expr) (ts : List Tg), es.any isSt = false → es.mapM (dTg n c) = some ts → PGs X es (tgsR G.K ts) ∧ es.length = ts.length := by
            intro es
            induction es with
            | nil => intro ts _ q; cases q; exact ⟨pgs_nil, rfl⟩
            | cons e es ih =>
              intro ts hs q
              rw [List.any_cons, Bool.or_eq_false_iff] at hs
              obtain ⟨b, bs, h1, h2, rfl⟩ := mapM_cons q
              obtain ⟨g1, g2⟩ := ih bs hs.2 h2
              refine ⟨pgs_cons (dTg_ok C n e b h1) g1 ?_, by rw [List.length_cons, List.length_cons, g2]⟩
              cases e <;> first | rfl | cases hs.1
          obtain ⟨g1, g2⟩ := gs es ts ns q
          have := pg_tup (X := X) (k := k) (pos := p) (n := ts.length) C.calm g1 (by rw [assignEach_len, g2]) (assignEach_noStar ns)
          rw [C.K] at this
          exact this
    · cases h
theorem folded_ok {e : Expr} {env : Env} (h : isSetE e = false) : ∀ x, foldedSetIterable e env x = pure x := by
  cases e <;> first | (intro _; rfl) | cases h
theorem takes_none {X : Cx} : Takes X Wx0 := fun _ _ x => by
  obtain ⟨_, _, _, _, _, _, _, _, _, _, _, _, _, _, _, _, z⟩ := x
  exact z.elim
theorem CtxI.blk (C : CtxI c G X Wx) (s : Shared) (H : Hp) (C' : Addr) (cl : List (Str × Addr)) (fp : List Addr) {scope : Scope} (hk : scope.kind = .function) : CtxI (c.inner scope) G (X.blk s H scope (compEnvC scope cl C' X.env) fp) Wx0 where
  N := C.N
  nd := C.nd
  sc := by
    show relS scope X.env.scope = relS scope c.sc
    rw [C.sc]
  kind := hk
  fnn _ h := h
  calm := C.calm
  K := C.K
  hu := C.hu
  tk := takes_none
  po := PassesOwn.never
  gl := C.gl
theorem blkC_kind {N : List Str} {sc scope : Scope} {own : List (Str × Nat)} (h : blkC N sc scope own = true) : scope.kind = .function := (blkOk_by h).kind
/-- what stands in a comprehension -/
theorem lc_parts (O : DOk G d) (C : CtxI c G X Wx) {elt tg iter : Expr} {ifs : List Expr} {asy : Int} {scope : Scope} : (∀ e s, lcE d c elt tg iter ifs asy scope e s = .err) ∨
    ∃ (t : Tg) (mc : Ev Bool) (own : List (Str × Nat)), asy = 0 ∧ isSetE iter = false ∧ BlkOk X.N X.env.scope scope own ∧ (∀ i ∈ tgI t, i ∈ own.map (·.2)) ∧ lcE d c elt tg iter ifs asy scope = eLc (d.I c tg iter) (own.map (·.2)) t mc (d.E (c.inner scope) elt) ∧
      (∀ (s : Shared) (H : Hp) (C : Addr) (cl : List (Str × Addr)) (fp : List Addr), PG (X.blk s H scope (compEnvC scope cl C X.env) fp) tg (tgR G.K t)) ∧
      (∀ (s : Shared) (H : Hp) (C : Addr) (cl : List (Str × Addr)) (fp : List Addr), PTs (X.blk s H scope (compEnvC scope cl C X.env) fp) ifs (tIT G Wx0 mc)) ∧
      (∀ (s : Shared) (H : Hp) (C : Addr) (cl : List (Str × Addr)) (fp : List Addr), PE (X.blk s H scope (compEnvC scope cl C X.env) fp) elt (tI G Wx0 (d.E (c.inner scope) elt))) := by
  unfold lcE
  cases ht : dTg 4 (c.inner scope) tg with
  | none => exact .inl fun _ _ => rfl
  | some t =>
    dsimp only
    by_cases hb : (blkC c.N c.sc scope (ownOf c.N scope) && (tgI t).all (fun i => decide (i ∈ (ownOf c.N scope).map (·.2))) && decide (asy = 0) && !isSetE iter) = true
    · simp only [if_pos hb]
      rw [Bool.and_eq_true, Bool.and_eq_true, Bool.and_eq_true] at hb
      obtain ⟨⟨⟨h1, h2⟩, h3⟩, h4⟩ := hb
      have hk := blkC_kind h1
      have bo := blkOk_by h1
      rw [← C.N, ← C.sc] at bo
      have hsub : ∀ i ∈ tgI t, i ∈ (ownOf c.N scope).map (·.2) := fun i hi => by
        rw [List.all_eq_true] at h2
        exact of_decide_eq_true (h2 i hi)
      have hset : isSetE iter = false := by simpa using h4
      rw [C.N] at bo
      match ifs with
      | [] =>
        exact .inr ⟨t, eTrue, _, of_decide_eq_true h3, hset, by rw [C.N]; exact bo, hsub, rfl, fun s H C' cl fp => dTg_ok (C.blk s H C' cl fp hk) _ _ _ ht,
          fun s H C' cl fp => ⟨fun pins s σ H Q I ⟨ρ, e, st, R, p⟩ => pts_nil.run pins s σ H Q I (p ρ H true .refl R.sim rfl)⟩, fun s H C' cl fp => O.E (C.blk s H C' cl fp hk) _⟩
      | [x] =>
        exact .inr ⟨t, _, _, of_decide_eq_true h3, hset, by rw [C.N]; exact bo, hsub, rfl, fun s H C' cl fp => dTg_ok (C.blk s H C' cl fp hk) _ _ _ ht,
          fun s H C' cl fp => pts_one (O.T (C.blk s H C' cl fp hk) x), fun s H C' cl fp => O.E (C.blk s H C' cl fp hk) _⟩
      | _ :: _ :: _ => exact .inl fun _ _ => rfl
    · simp only [if_neg hb]
      exact .inl fun _ _ => rfl
theorem lcE_ok (O : DOk G d) (C : CtxI c G X Wx) {elt tg iter : Expr} {ifs : List Expr} {asy : Int} {scope : Scope} {pos : Pos} : PE X (.ListComp elt [⟨tg, iter, ifs, asy⟩] scope pos) (tI G Wx (lcE d c elt tg iter ifs asy scope)) := by
  rcases lc_parts O C (elt := elt) (tg := tg) (iter := iter) (ifs := ifs) (asy := asy) (scope := scope) with h | ⟨t, mc, own, rfl, hset, bo, hsub, e, h1, h2, h3⟩
  · exact pe_err h
  · rw [e]
    exact peM (pe_lc C.calm C.nd (O.I C tg iter) bo h1 h2 h3 (folded_ok hset)) (lc_read hsub)
theorem find_some {α : Type} {p : α → Bool} {l : List α} {a : α} (h : l.find? p = some a) : p a = true ∧ a ∈ l := ⟨List.find?_some h, List.mem_of_find?_eq_some h⟩
theorem callE_ok (O : DOk G d) (C : CtxI c G X Wx) {x : Str} {p pos : Pos} {es : List Expr} {kws : List Keyword} : PE X (.Call (.Name x p) es kws pos) (tI G Wx (callE d c x es kws)) := by
  unfold callE
  split
  · rename_i h
    rw [Bool.and_eq_true, Bool.and_eq_true] at h
    obtain ⟨⟨h1, h2⟩, h3⟩ := h
    have hd := (okNm_iff h1).1
    have ns : es.any isSt = false := by simpa using h3
    have hg := C.gls h2
    split
    · rename_i np φ kl q
      obtain ⟨k, f, fd, ps, hm, F, hn, hr, hk, hb, hkw⟩ := C.gl x _ q
      split
      · split
        · exact pe_err fun _ _ => rfl
        · rename_i e es'
          exact si_call F hn hr hg hm hk hb C.tk (O.A C _) hd ns
      · rename_i k0 kws'
        split
        · rename_i q' hq
          obtain ⟨f1, f2⟩ := find_some hq
          rw [Bool.and_eq_true] at f1
          have e1 := of_decide_eq_true f1.1
          have e2 := of_decide_eq_true f1.2
          refine si_callK F hr hg hm hk hn.symm rfl (hkw q' f2) C.tk ?_ (si_kws (ms := (k0 :: kws').map fun k => d.E c k.value) ?_) e2 hd ns
          · cases es with
            | nil => exact .inl ⟨rfl, rfl⟩
            | cons e es' => exact .inr ⟨(fun z => nomatch z), O.A C _⟩
          · generalize (k0 :: kws') = l
            induction l with
            | nil => exact .nil
            | cons a r ih => exact .cons (O.E C a.value) ih
        · exact pe_err fun _ _ => rfl
    · rename_i q
      have hm : X.mg x = none := C.gl x _ q
      split
      · rename_i e es'
        split
        · rename_i f hf
          exact si_blt C.K C.calm hf hg hm (O.A C _) ns
        · exact pe_err fun _ _ => rfl
      · exact pe_err fun _ _ => rfl
    · exact pe_err fun _ _ => rfl
  · exact pe_err fun _ _ => rfl
theorem methE_ok (O : DOk G d) (C : CtxI c G X Wx) {o : Expr} {nm : Str} {apos pos : Pos} {es : List Expr} : PE X (.Call (.Attribute o nm apos) es [] pos) (tI G Wx (methE d c o nm apos es pos)) := by
  unfold methE
  split
  · rename_i h
    rw [Bool.and_eq_true, Bool.and_eq_true, Bool.and_eq_true] at h
    obtain ⟨⟨⟨h1, h2⟩, h3⟩, h4⟩ := h
    have ns : es.any isSt = false := by simpa using h3
    have hu : X.A.units + 1 < cLine := by have := C.hu; omega
    cases es with
    | nil => exact si_meth0 C.K hu (O.E C o) h1 h2
    | cons a es' => exact si_meth C.K hu (O.E C o) (O.A C _) h1 h2 ns (of_decide_eq_true h4)
  · exact pe_err fun _ _ => rfl
theorem pe_bool1 {op : BoolOp} {a : Expr} {pos : Pos} {t : TE} (h : PE X a t) : PE X (.BoolOp op [a] pos) t := ⟨fun pins s σ H Q I q => h.run pins s σ H Q I q⟩
theorem opt_ok (O : DOk G d) (C : CtxI c G X Wx) (o : Option Expr) : PO X o (tIO G Wx (o.map (d.E c))) := by
  cases o with
  | none => exact si_part0
  | some e => exact si_part1 (O.E C e)
theorem bltT_ok {x : Str} {n : String} (h : bltT x = some n) : bootBuiltins x = some (.type n) ∧ x ≠ "__name__" := by
  unfold bltT at h
  repeat' split at h
  all_goals first | (cases h; rename_i e; subst e; exact ⟨by decide +kernel, by decide⟩) | cases h
theorem ix_si (hK : X.K = G.K) (hu : X.A.units + 1 < cLine) {a i : Expr} {p : Pos} {ma mb : Ev W} (ha : PE X a (tI G Wx ma)) (hb : PE X i (tI G Wx mb)) (hs : isSl i = false) : PE X (.Subscript a i p) (tI G Wx (eOp2 vIx' ma mb)) := by
  have pl : PlainIx i := by cases i <;> first | (intro _ _; rfl) | cases hs
  exact peM (pe_ix (ix_all hu) ha hb pl) (tI_op2 (G := G) (by rw [hK]; exact ok_ix'))
theorem stepE (O : DOk G d) (C : CtxI c G X Wx) (e : Expr) : PE X e (tI G Wx ((step d).E c e)) := by
  have hu : X.A.units + 1 < cLine := by have := C.hu; omega
  cases e with
  | Constant k j p =>
    cases k with
    | none => exact si_c pe_non fun _ _ => .non
    | bool b => exact si_c pe_bl fun _ _ => .bl b
    | int i => exact si_c pe_int fun _ _ => .int i
    | str x => exact si_c pe_str fun _ _ => .str x
    | _ => exact si_err
  | Name x p =>
    show PE X _ (tI G Wx (if okNm x then _ else _))
    split
    · rename_i h
      obtain ⟨hd1, hd2⟩ := okNm_iff h
      split
      · rename_i hv
        have hv := isVis_iff hv
        rw [← C.sc] at hv
        split
        · rename_i i hi
          exact si_var (pe_var (C.at_ix hi) hv hd1 hd2)
        · exact si_err
      · split
        · rename_i hg
          split
          · rename_i w q
            obtain ⟨u, v, hm, rv, rw'⟩ := C.gl x _ q
            exact si_c (pe_glob (C.gls hg) hm rv hd1) rw'
          · rename_i q
            split
            · rename_i n hn
              obtain ⟨b1, b2⟩ := bltT_ok hn
              exact si_c (pe_bltn (v := .ty n) (C.gls hg) (C.gl x _ q) b1 rfl b2 hd1) fun _ _ => .ty n
            · exact si_err
          · exact si_err
        · exact si_err
    · exact si_err
  | BinOp a op b p =>
    show PE X _ (tI G Wx (match vBin op with | some f => eOp2 f (d.E c a) (d.E c b) | none => eErr))
    split
    · rename_i f hf
      obtain ⟨r, h1, h2⟩ := bin_ok (G := G) C.K hf
      exact peM (pe_op h1 (O.E C a) (O.E C b)) (tI_op2 h2)
    · exact si_err
  | UnaryOp op a p =>
    cases op with
    | Not => exact si_notV C.K (O.E C a)
    | USub => exact peM (pe_un un_neg (O.E C a)) (tI_op1 ok_neg)
    | _ => exact si_err
  | BoolOp op vs p =>
    match vs with
    | [] => exact si_err
    | [a] => exact pe_bool1 (O.E C a)
    | a :: b :: rest =>
      cases op with
      | And => exact si_andV C.K (O.E C a) (O.E C _)
      | Or => exact si_orV C.K (O.E C a) (O.E C _)
  | IfExp t a b p => exact si_ifE (O.T C t) (O.E C a) (O.E C b)
  | Compare a ops bs p =>
    show PE X _ (tI G Wx (match ops, bs with
      | [op], [b] => if isSetE b then eErr else eOp2 (vCmp op) (d.E c a) (d.E c b)
      | [op, op2], [b, b2] => if isSetE b2 then eErr else eChain (vCmp op) (vCmp op2) (d.E c a) (d.E c b) (d.E c b2)
      | _, _ => eErr))
    split
    · rename_i op b
      split
      · exact si_err
      · rename_i hs
        obtain ⟨r, h1, h2⟩ := cmp_ok (G := G) C.K C.hu op
        exact peM (pe_cmpR h1 (O.E C a) (O.E C b) (no_mark (by simpa using hs))) (tI_op2 h2)
    · rename_i op op2 b b2
      split
      · exact si_err
      · rename_i hs
        obtain ⟨r, h1, h2⟩ := cmp_ok (G := G) C.K C.hu op
        obtain ⟨r', h1', h2'⟩ := cmp_ok (G := G) C.K C.hu op2
        exact peM (pe_chain h1 h1' (O.E C a) (O.E C b) (O.E C b2) (no_mark (op := op2) (by simpa using hs))) (chain_read h2 h2')
    · exact si_err
  | Subscript a i p =>
    cases i with
    | Slice lo hi st p2 =>
      cases st with
      | none => exact si_slice C.K (O.E C a) (opt_ok O C lo) (opt_ok O C hi)
      | some _ => exact si_err
    | _ =>
      exact ix_si C.K hu (O.E C a) (O.E C _) rfl
  | Tuple es k p => exact si_tup (O.A C es)
  | List es p => exact si_lst (O.A C es)
  | Dict ks vs p =>
    match ks, vs with
    | [], [] => exact si_newD
    | _ :: _, _ => exact si_err
    | [], _ :: _ => exact si_err
  | ListComp elt gens scope p =>
    match gens with
    | [] => exact si_err
    | [⟨tg, iter, ifs, asy⟩] => exact lcE_ok O C
    | ⟨_, _, _, _⟩ :: _ :: _ => exact si_err
  | Call f es kws cpos =>
    cases f with
    | Name x p =>
      show PE X _ (tI G Wx (match es, kws with
        | [.Call (.Name y _) [a] [] _], [] =>
          if (decide (x = "list") && decide (y = "range") && isBlt c x && isBlt c y && !isSt a) = true then eLstRg1 (d.E c a)
          else if (decide (x = "len") && decide (y = "set") && isBlt c x && isBlt c y && !isSt a) = true then eLenSet (d.E c a)
          else callE d c x es kws
        | [.Call (.Name y _) [a, b] [] _], [] =>
          if (decide (x = "list") && decide (y = "range") && isBlt c x && isBlt c y && !isSt a && !isSt b) = true then eLstRg2 (d.E c a) (d.E c b)
          else callE d c x es kws
        | _, _ => callE d c x es kws))
      split
      · rename_i y p2 a p3
        split
        · rename_i h
          simp only [Bool.and_eq_true, decide_eq_true_eq, Bool.not_eq_true'] at h
          obtain ⟨⟨⟨⟨rfl, rfl⟩, b1⟩, b2⟩, na⟩ := h
          obtain ⟨g1, m1⟩ := isBlt_iff C b1
          obtain ⟨g2, m2⟩ := isBlt_iff C b2
          exact si_listRg1 C.calm g1 m1 g2 m2 (O.E C a) na
        · split
          · rename_i h
            simp only [Bool.and_eq_true, decide_eq_true_eq, Bool.not_eq_true'] at h
            obtain ⟨⟨⟨⟨rfl, rfl⟩, b1⟩, b2⟩, na⟩ := h
            obtain ⟨g1, m1⟩ := isBlt_iff C b1
            obtain ⟨g2, m2⟩ := isBlt_iff C b2
            exact si_lenSet C.K C.calm g1 m1 g2 m2 (O.E C a) na
          · exact callE_ok O C
      · rename_i y p2 a b p3
        split
        · rename_i h
          simp only [Bool.and_eq_true, decide_eq_true_eq, Bool.not_eq_true'] at h
          obtain ⟨⟨⟨⟨⟨rfl, rfl⟩, b1⟩, b2⟩, na⟩, nb⟩ := h
          obtain ⟨g1, m1⟩ := isBlt_iff C b1
          obtain ⟨g2, m2⟩ := isBlt_iff C b2
          exact si_listRg2 C.calm g1 m1 g2 m2 (O.E C a) (O.E C b) na nb
        · exact callE_ok O C
      · exact callE_ok O C
    | Attribute o nm apos =>
      cases kws with
      | nil => exact methE_ok O C
      | cons _ _ => exact si_err
    | _ => exact si_err
  | _ => exact si_err
end
end Q
/-! A16: the compiler is sound: tests, arguments, iterables, statements. -/
namespace Q
open PySem PySem.Spec PyProof.Rows L2
variable {G : Gm} {Wx : WX}
section
variable {c : Cfg} {X : Cx} {d : D}
theorem stepW (O : DOk G d) (C : CtxI c G X Wx) (op : BoolOp) (vs : List Expr) (p : Pos) : PW X (.BoolOp op vs p) (tIT G Wx ((step d).T c (.BoolOp op vs p))) := by
  match vs with
  | [] => exact pw_err
  | [a] =>
    cases op with
    | And => exact si_and1 (O.T C a)
    | Or => exact si_or1 (O.T C a)
  | a :: b :: rest =>
    cases op with
    | And => exact si_and (O.T C a) (O.W C _ _ _)
    | Or => exact si_or (O.T C a) (O.W C _ _ _)
theorem stepT (O : DOk G d) (C : CtxI c G X Wx) (e : Expr) : PT X e (tIT G Wx ((step d).T c e)) := by
  cases e with
  | BoolOp op vs p => exact (stepW O C op vs p).pt
  | UnaryOp op a p =>
    cases op with
    | Not => exact si_notT (O.T C a)
    | _ => exact pt_err
  | IfExp t a b p => exact pt_err
  | Compare a ops bs p =>
    show PT X _ (tIT G Wx (match ops, bs with
      | [op], [b] => if isSetE b then fun _ _ => .err else eTest (eOp2 (vCmp op) (d.E c a) (d.E c b))
      | [op, op2], [b, b2] => if isSetE b2 then fun _ _ => .err else eTest (eChain (vCmp op) (vCmp op2) (d.E c a) (d.E c b) (d.E c b2))
      | _, _ => fun _ _ => .err))
    split
    · rename_i op b
      split
      · exact pt_err
      · rename_i hs
        obtain ⟨r, h1, h2⟩ := cmp_ok (G := G) C.K C.hu op
        exact ptM (pt_cmpR h1 (O.E C a) (O.E C b) (no_mark (by simpa using hs))) fun σ H Q q => by
          obtain ⟨ρ, e, st, R, p⟩ := q
          exact tI_op2 h2 σ H _ ⟨ρ, e, st, R, Post.bind p fun w s1 ρ1 H1 v l1 S1 r1 p1 => by
            cases w with
            | bl b => cases r1; exact ⟨b, rfl, p1.ret (b := b) S1 rfl⟩
            | _ => exact p1.elim⟩
    · rename_i op op2 b b2
      split
      · exact pt_err
      · rename_i hs
        obtain ⟨r, h1, h2⟩ := cmp_ok (G := G) C.K C.hu op
        obtain ⟨r', h1', h2'⟩ := cmp_ok (G := G) C.K C.hu op2
        exact ptM (pt_chain h1 h1' (O.E C a) (O.E C b) (O.E C b2) (no_mark (op := op2) (by simpa using hs))) fun σ H Q q => by
          obtain ⟨ρ, e, st, R, p⟩ := q
          exact chain_read h2 h2' σ H _ ⟨ρ, e, st, R, Post.bind p fun w s1 ρ1 H1 v l1 S1 r1 p1 => by
            cases w with
            | bl b => cases r1; exact ⟨b, rfl, p1.ret (b := b) S1 rfl⟩
            | _ => exact p1.elim⟩
    · exact pt_err
  | _ => exact si_tru C.K (O.E C _) (fun _ => rfl)
theorem stepA (O : DOk G d) (C : CtxI c G X Wx) (es : List Expr) : PA X es (tIA G Wx ((step d).A c es)) := by
  cases es with
  | nil => exact si_nil
  | cons e r =>
    cases e with
    | Starred a p => exact si_star C.K (O.E C a) (O.A C r)
    | _ => exact si_cons (O.E C _) (O.A C r) rfl
theorem stepI (O : DOk G d) (C : CtxI c G X Wx) (tg it : Expr) : PI X tg it (tII G Wx ((step d).I c tg it)) := by
  show PI X tg it (tII G Wx (match it with
    | .Call (.Name x _) [a] [] _ =>
      if (decide (x = "range") && isBlt c x && !isSt a) = true then mkRange1 (d.A c [a])
      else if (decide (x = "enumerate") && isBlt c x && !isSt a && isTupE tg) = true then eEnum (d.A c [a])
      else eIter (d.E c it)
    | .Call (.Name x _) [a, b] [] _ =>
      if (decide (x = "range") && isBlt c x && !isSt a && !isSt b) = true then mkRange2 (d.A c [a, b])
      else if (decide (x = "zip") && isBlt c x && !isSt a && !isSt b && isTupE tg) = true then eZip (d.A c [a, b])
      else eIter (d.E c it)
    | _ => eIter (d.E c it)))
  split
  · rename_i x p a p2
    split
    · rename_i h
      simp only [Bool.and_eq_true, decide_eq_true_eq, Bool.not_eq_true'] at h
      obtain ⟨⟨rfl, b1⟩, na⟩ := h
      obtain ⟨g1, m1⟩ := isBlt_iff C b1
      exact si_range1 g1 m1 (O.A C _) na
    · split
      · rename_i h
        simp only [Bool.and_eq_true, decide_eq_true_eq, Bool.not_eq_true'] at h
        obtain ⟨⟨⟨rfl, b1⟩, na⟩, ht⟩ := h
        obtain ⟨g1, m1⟩ := isBlt_iff C b1
        cases tg with
        | Tuple es k tp => exact si_enum (kk := k) C.K g1 m1 (O.A C _) na
        | _ => cases ht
      · exact si_iter C.K (O.E C _)
  · rename_i x p a b p2
    split
    · rename_i h
      simp only [Bool.and_eq_true, decide_eq_true_eq, Bool.not_eq_true'] at h
      obtain ⟨⟨⟨rfl, b1⟩, na⟩, nb⟩ := h
      obtain ⟨g1, m1⟩ := isBlt_iff C b1
      exact si_range2 g1 m1 (O.A C _) na nb
    · split
      · rename_i h
        simp only [Bool.and_eq_true, decide_eq_true_eq, Bool.not_eq_true'] at h
        obtain ⟨⟨⟨⟨rfl, b1⟩, na⟩, nb⟩, ht⟩ := h
        obtain ⟨g1, m1⟩ := isBlt_iff C b1
        cases tg with
        | Tuple es k tp => exact si_zip (kk := k) C.K g1 m1 (O.A C _) na nb
        | _ => cases ht
      · exact si_iter C.K (O.E C _)
  · exact si_iter C.K (O.E C _)

/-! ### assignments -/
theorem comp_no {e : Expr} {t : Option Expr} {n : Nat} {env : Env} (h : isCompE e = false) : swapsWith e t n env = pure false := by
  cases e <;> first | rfl | cases h
theorem swapT {ts : List Expr} {k n : Nat} {p : Pos} {e : Expr} {env : Env} : swapsWithSole [.Tuple ts k p] e n env = pure false := by
  cases e <;> rfl
theorem swapU {o i : Expr} {n : Nat} {p : Pos} {e : Expr} {env : Env} : swapsWithSole [.Subscript o i p] e n env = pure false := by
  cases e <;> rfl
theorem storesU {o i : Expr} {p : Pos} {e : Expr} {env : Env} : swappedStores [.Subscript o i p] e env = pure none := by
  cases e <;> rfl
theorem storesT {ts : List Expr} {k : Nat} {p : Pos} {e : Expr} {env : Env} (h : isTupE e = false) : swappedStores [.Tuple ts k p] e env = pure none := by
  cases e <;> first | rfl | cases h
theorem kind_of {sc : Scope} (h : sc.kind = .function) {env : Env} (e : env.scope = sc) : env.blockKind = .function := by
  unfold Env.blockKind
  rw [e, h]
  rfl
def nmsE (env : Env) (line : Nat) (ts : List Expr) : List Str := ts.filterMap fun t => match t with
  | .Name x q => if env.kindOf x == some .local && q.line == line then some x else none
  | _ => none
theorem nms_eq {sc : Scope} {env : Env} (e : env.scope = sc) (line : Nat) (ts : List Expr) : nmsE env line ts = nmsOf sc line ts := by
  unfold nmsOf nmsE
  congr 1
  funext t
  cases t with
  | Name x q =>
    have : (env.kindOf x == some NameKind.local) = isLoc sc x := by
      unfold Env.kindOf isLoc
      rw [e]
      cases sc.names.lookup x with
      | none => rfl
      | some k => cases k <;> rfl
    simp only [this]
  | _ => rfl
theorem sst_eq {ts vs : List Expr} {k k2 : Nat} {p p2 : Pos} {env : Env} : ∃ u, swappedStores [.Tuple ts k p] (.Tuple vs k2 p2) env =
    (if (!(ts.length == 2 || ts.length == 3) || vs.length != ts.length || env.blockKind != .function) = true then pure none
     else if vs.any isSt = true then pure none
     else if ((nmsE env ((ts.head?.map (·.pos.line)).getD 0) ts).length != ts.length || (nmsE env ((ts.head?.map (·.pos.line)).getD 0) ts).eraseDups.length != (nmsE env ((ts.head?.map (·.pos.line)).getD 0) ts).length) = true then pure none
     else if vs.all (foldedForSure 8) = true then pure none
     else if vs.all (constantsAlone 8) = true then u
     else pure (some (nmsE env ((ts.head?.map (·.pos.line)).getD 0) ts))) := ⟨_, rfl⟩
theorem plainT_ok {sc : Scope} {ts vs : List Expr} {k k2 : Nat} {p p2 : Pos} {env : Env} (e : env.scope = sc) (hk : sc.kind = .function) (h : plainT sc ts vs = true) : swappedStores [.Tuple ts k p] (.Tuple vs k2 p2) env = pure none := by
  obtain ⟨u, q⟩ := sst_eq (ts := ts) (vs := vs) (k := k) (k2 := k2) (p := p) (p2 := p2) (env := env)
  rw [q, nms_eq e]
  unfold plainT at h
  split
  · rfl
  · rename_i q1
    split
    · rfl
    · rename_i q2
      split
      · rfl
      · rename_i q3
        split
        · rfl
        · rename_i q4
          exfalso
          simp only [Bool.or_eq_true, not_or] at q1 q3
          simp only [Bool.or_eq_true] at h
          rcases h with ((((h | h) | h) | h) | h) | h
          · refine q1.1.1 ?_
            rw [Bool.and_eq_true] at h
            simp only [bne] at h
            rw [Bool.not_or, h.1, h.2]
            rfl
          · exact q1.1.2 h
          · exact q2 h
          · exact q3.1 h
          · exact q3.2 h
          · exact q4 h
theorem dups2 {x y : Str} (h : (x != y) = true) : [x, y].eraseDups = [x, y] := by
  have h : ¬ x = y := by simpa using h
  have h' : ¬ y = x := fun z => h z.symm
  simp [List.eraseDups_cons, h, h']
theorem dups3 {x y z : Str} (h : (x != y) = true) (h2 : (x != z) = true) (h3 : (y != z) = true) : [x, y, z].eraseDups = [x, y, z] := by
  have h : ¬ x = y := by simpa using h
  have h2 : ¬ x = z := by simpa using h2
  have h3 : ¬ y = z := by simpa using h3
  have h' : ¬ y = x := fun z => h z.symm
  have h2' : ¬ z = x := fun w => h2 w.symm
  have h3' : ¬ z = y := fun w => h3 w.symm
  simp [List.eraseDups_cons, h, h', h2, h2', h3, h3']
theorem nm2 {sc : Scope} {x y : Str} {px py : Pos} (h1 : isLoc sc x = true) (h2 : isLoc sc y = true) (h3 : (py.line == px.line) = true) : nmsOf sc px.line [.Name x px, .Name y py] = [x, y] := by
  simp [nmsOf, h1, h2, eq_of_beq h3]
theorem nm3 {sc : Scope} {x y z : Str} {px py pz : Pos} (h1 : isLoc sc x = true) (h2 : isLoc sc y = true) (h4 : isLoc sc z = true) (h3 : (py.line == px.line) = true) (h5 : (pz.line == px.line) = true) : nmsOf sc px.line [.Name x px, .Name y py, .Name z pz] = [x, y, z] := by
  simp [nmsOf, h1, h2, h4, eq_of_beq h3, eq_of_beq h5]
theorem par2_ok {sc : Scope} {x y : Str} {px py : Pos} {vs : List Expr} {k k2 : Nat} {p p2 : Pos} {env : Env} (e : env.scope = sc) (hk : sc.kind = .function) (h : par2 sc x y px py vs = true) :
    swappedStores [.Tuple [.Name x px, .Name y py] k p] (.Tuple vs k2 p2) env = pure (some [x, y]) ∧ isLoc sc x = true ∧ isLoc sc y = true ∧ vs.length = 2 := by
  unfold par2 at h
  simp only [Bool.and_eq_true, Bool.not_eq_true', beq_iff_eq] at h
  obtain ⟨⟨⟨⟨⟨⟨⟨h1, h2⟩, h3⟩, h4⟩, h5⟩, h6⟩, h7⟩, h8⟩ := h
  obtain ⟨u, q⟩ := sst_eq (ts := [.Name x px, .Name y py]) (vs := vs) (k := k) (k2 := k2) (p := p) (p2 := p2) (env := env)
  refine ⟨?_, h1, h2, h5⟩
  rw [q, nms_eq e, kind_of hk e]
  have z : nmsOf sc ((([Expr.Name x px, Expr.Name y py] : List Expr).head?.map (·.pos.line)).getD 0) [.Name x px, .Name y py] = [x, y] := nm2 (px := px) (py := py) h1 h2 (beq_iff_eq.mpr h3)
  rw [z, dups2 h4, h6, h7, h8, h5]
  rfl
theorem par3_ok {sc : Scope} {x y w : Str} {px py pw : Pos} {vs : List Expr} {k k2 : Nat} {p p2 : Pos} {env : Env} (e : env.scope = sc) (hk : sc.kind = .function) (h : par3 sc x y w px py pw vs = true) :
    swappedStores [.Tuple [.Name x px, .Name y py, .Name w pw] k p] (.Tuple vs k2 p2) env = pure (some [x, y, w]) ∧ isLoc sc x = true ∧ isLoc sc y = true ∧ isLoc sc w = true ∧ vs.length = 3 := by
  unfold par3 at h
  simp only [Bool.and_eq_true, Bool.not_eq_true', beq_iff_eq] at h
  obtain ⟨⟨⟨⟨⟨⟨⟨⟨⟨⟨⟨h1, h2⟩, h2'⟩, h3⟩, h3'⟩, h4⟩, h4'⟩, h4''⟩, h5⟩, h6⟩, h7⟩, h8⟩ := h
  obtain ⟨u, q⟩ := sst_eq (ts := [.Name x px, .Name y py, .Name w pw]) (vs := vs) (k := k) (k2 := k2) (p := p) (p2 := p2) (env := env)
  refine ⟨?_, h1, h2, h2', h5⟩
  rw [q, nms_eq e, kind_of hk e]
  have z : nmsOf sc ((([Expr.Name x px, Expr.Name y py, Expr.Name w pw] : List Expr).head?.map (·.pos.line)).getD 0) [.Name x px, .Name y py, .Name w pw] = [x, y, w] := nm3 (px := px) (py := py) (pz := pw) h1 h2 h2' (beq_iff_eq.mpr h3) (beq_iff_eq.mpr h3')
  rw [z, dups3 h4 h4' h4'', h6, h7, h8, h5]
  rfl
end
end Q
/-! A17: the compiler is sound: statements. -/
namespace Q
open PySem PySem.Spec PyProof.Rows L2
variable {G : Gm} {Wx : WX}
section
variable {c : Cfg} {X : Cx} {d : D}
theorem swaps_eq {sc : Scope} {x : Str} {px ep : Pos} {scope : Scope} {env : Env} {elt : Expr} {gens : List Comprehension} {n : Nat} (e : env.scope = sc) (hk : sc.kind = .function) :
    swapsWith (.ListComp elt gens scope ep) (some (.Name x px)) n env = pure (swaps sc x px ep scope) := by
  show pure (env.blockKind == .function && env.kindOf x == some .local && px.line == ep.line && !(scope.names.any fun (n, k) => n == x && (k == .local || k == .cell))) = _
  rw [kind_of hk e]
  have : (env.kindOf x == some NameKind.local) = isLoc sc x := by
    unfold Env.kindOf isLoc
    rw [e]
    cases sc.names.lookup x with
    | none => rfl
    | some k => cases k <;> rfl
  rw [this]
  rfl
theorem ss_errM {st : Stmt} {m : Sv} (h : ∀ e s, m e s = .err) : PS X st (tIS G Wx m) := ⟨fun pins s σ H D I ⟨_, _, _, _, p⟩ => by rw [h] at p; exact p.elim⟩
theorem ss_eqM {st : Stmt} {m m2 : Sv} (h : PS X st (tIS G Wx m)) (e : m2 = m) : PS X st (tIS G Wx m2) := e ▸ h
theorem asgN_ok (O : DOk G d) (C : CtxI c G X Wx) {x : Str} {px pos : Pos} {e : Expr} {i : Nat} (ht : isTgt c x = true) (hi : ixOf x c.N = some i) (hc : isCompE e = false) : PS X (.Assign [.Name x px] e pos) (tIS G Wx (sAsg (d.E c e) (.nm i))) := by
  obtain ⟨h1, h2⟩ := C.tgt ht
  exact psM (ps_set C.nd (C.at_ix hi) h1 (O.E C e) (comp_no hc) h2) (asg_read (t := .nm i) fun _ _ _ q => q)
theorem sAsg_err {m : Ev W} {t : Tg} (h : ∀ e s, m e s = .err) : ∀ e s, sAsg m t e s = .err := fun e s => by
  unfold sAsg
  rw [h]
  rfl
theorem asgL_ok (O : DOk G d) (C : CtxI c G X Wx) {x : Str} {px pos ep : Pos} {elt tg iter : Expr} {ifs : List Expr} {asy : Int} {scope : Scope} {i : Nat} (ht : isTgt c x = true) (hi : ixOf x c.N = some i) :
    PS X (.Assign [.Name x px] (.ListComp elt [⟨tg, iter, ifs, asy⟩] scope ep) pos) (tIS G Wx (sAsg (lcE d c elt tg iter ifs asy scope) (.nm i))) := by
  obtain ⟨h1, h2⟩ := C.tgt ht
  have sw := swaps_eq (elt := elt) (gens := [⟨tg, iter, ifs, asy⟩]) (n := pos.line) (x := x) (px := px) (ep := ep) (scope := scope) C.sc C.kind
  by_cases hs : swaps c.sc x px ep scope = true
  · rw [hs] at sw
    rcases lc_parts O C (elt := elt) (tg := tg) (iter := iter) (ifs := ifs) (asy := asy) (scope := scope) with h | ⟨t, mc, own, rfl, hset, bo, hsub, e, g1, g2, g3⟩
    · exact ss_errM (sAsg_err h)
    · have hl : isLoc c.sc x = true := by
        unfold swaps at hs
        simp only [Bool.and_eq_true] at hs
        exact hs.1.1
      rw [e]
      exact psM (ps_setLc C.calm C.nd (C.at_ix hi) (C.locX hl) sw (O.I C tg iter) bo g1 g2 g3 (folded_ok hset)) (asg_read (t := .nm i) (lc_read hsub))
  · rw [Bool.not_eq_true] at hs
    rw [hs] at sw
    exact psM (ps_set C.nd (C.at_ix hi) h1 (lcE_ok O C) sw h2) (asg_read (t := .nm i) fun _ _ _ q => q)
theorem asgT_ok (O : DOk G d) (C : CtxI c G X Wx) {ts : List Expr} {k : Nat} {p pos : Pos} {e : Expr} {t : Tg} (h : dTg 4 c (.Tuple ts k p) = some t) (hw : swappedStores [.Tuple ts k p] e X.env = pure none) : PS X (.Assign [.Tuple ts k p] e pos) (tIS G Wx (sAsg (d.E c e) t)) :=
  psM (ps_asg (O.E C e) (dTg_ok C _ _ _ h) swapT hw rfl) (asg_read fun _ _ _ q => q)
theorem dropC_ok (O : DOk G d) (C : CtxI c G X Wx) {e : Expr} {pos : Pos} : PS X (.Expr e pos) (tIS G Wx (if isCompE e then sErr else sDrop (d.E c e))) := by
  split
  · exact ss_err
  · rename_i h
    exact ss_drop (O.E C e) (comp_no (by simpa using h))
theorem asgC_ok (O : DOk G d) (C : CtxI c G X Wx) {x : Str} {px pos : Pos} {e : Expr} {i : Nat} (ht : isTgt c x = true) (hi : ixOf x c.N = some i) : PS X (.Assign [.Name x px] e pos) (tIS G Wx (if isCompE e then sErr else sAsg (d.E c e) (.nm i))) := by
  split
  · exact ss_err
  · rename_i h
    exact asgN_ok O C ht hi (by simpa using h)
theorem asgP_ok (O : DOk G d) (C : CtxI c G X Wx) {ts vs : List Expr} {k k2 : Nat} {p p2 pos : Pos} : PS X (.Assign [.Tuple ts k p] (.Tuple vs k2 p2) pos) (tIS G Wx (if plainT c.sc ts vs then (match dTg 4 c (.Tuple ts k p) with
              | some t => sAsg (d.E c (.Tuple vs k2 p2)) t
              | none => sErr) else sErr)) := by
  split
  · rename_i h
    cases q : dTg 4 c (.Tuple ts k p) with
    | some t => exact asgT_ok O C q (plainT_ok C.sc C.kind h)
    | none => exact ss_err
  · exact ss_err
theorem stepS (O : DOk G d) (C : CtxI c G X Wx) (st : Stmt) : PS X st (tIS G Wx ((step d).S c st)) := by
  have hu : X.A.units + 1 < cLine := by have := C.hu; omega
  cases st with
  | Return v p =>
    cases v with
    | none => exact ss_retN
    | some e => exact ss_ret (O.E C e)
  | Pass p => exact ss_pass
  | Break p => exact ss_break
  | Continue p => exact ss_continue
  | If t a b p => exact ss_if (O.T C t) (O.B C a) (O.B C b)
  | For tg it body els p =>
    cases els with
    | cons _ _ => exact ss_err
    | nil =>
      show PS X _ (tIS G Wx (match ([] : List Stmt), dTg 4 c tg with
      | [], some t => if isSetE it then sErr else sFor (d.I c tg it) t (d.B c body)
      | _, _ => sErr))
      cases q : dTg 4 c tg with
      | none => exact ss_err
      | some t =>
        dsimp only
        split
        · exact ss_err
        · rename_i hs
          exact si_for C.po C.calm (O.I C tg it) (dTg_ok C _ _ _ q) (O.B C body) (folded_ok (by simpa using hs))
  | While t body els p =>
    cases els with
    | nil => exact si_while c.lap C.po (O.T C t) (O.B C body)
    | cons _ _ => exact ss_err
  | Expr e p =>
    cases e with
    | Constant k j p2 =>
      cases k with
      | str x => exact ss_doc
      | _ => exact dropC_ok O C
    | _ => exact dropC_ok O C
  | AugAssign tg op e p =>
    cases tg with
    | Name x px =>
      show PS X _ (tIS G Wx (match Expr.Name x px, vAug op with
      | .Name x _, some f => if isTgt c x then (match ixOf x c.N with
        | some i => sAug i f (d.E c e)
        | none => sErr) else sErr
      | _, _ => sErr))
      cases hf : vAug op with
      | none => exact ss_err
      | some f =>
      dsimp only
      split
      · rename_i ht
        split
        · rename_i i hi
          obtain ⟨r, h1, h2⟩ := aug_ok (G := G) (X := X) hf
          obtain ⟨g1, g2⟩ := C.tgt ht
          exact psM (ps_aug C.nd (C.at_ix hi) g1 (O.E C e) h1 g2) (aug_read h2)
        · exact ss_err
      · exact ss_err
    | _ => exact ss_err
  | Assign tgs e p =>
    match tgs with
    | [] => exact ss_err
    | _ :: _ :: _ => exact ss_err
    | [t] =>
    cases t with
    | Name x px =>
      show PS X _ (tIS G Wx (if isTgt c x then (match ixOf x c.N with
        | some i => (match e with
          | .ListComp elt [⟨tg, iter, ifs, asy⟩] scope pos => sAsg (lcE d c elt tg iter ifs asy scope) (.nm i)
          | _ => if isCompE e then sErr else sAsg (d.E c e) (.nm i))
        | none => sErr) else sErr))
      split
      · rename_i ht
        cases hi : ixOf x c.N with
        | none => exact ss_err
        | some i =>
          dsimp only
          split
          · exact asgL_ok O C ht hi
          · exact asgC_ok O C ht hi
      · exact ss_err
    | Tuple ts k pt =>
      cases e with
      | Tuple vs k2 p2 =>
        show PS X _ (tIS G Wx (match ts with
          | [.Name x px, .Name y py] => if par2 c.sc x y px py vs then (match ixOf x c.N, ixOf y c.N with
              | some i, some j => if i = j then sErr else sPar i j (d.A c vs)
              | _, _ => sErr)
            else if plainT c.sc ts vs then (match dTg 4 c (.Tuple ts k pt) with
              | some t => sAsg (d.E c (.Tuple vs k2 p2)) t
              | none => sErr) else sErr
          | [.Name x px, .Name y py, .Name z pz] => if par3 c.sc x y z px py pz vs then (match ixOf x c.N, ixOf y c.N, ixOf z c.N with
              | some i, some j, some l => if i = j ∨ i = l ∨ j = l then sErr else sPar3 i j l (d.A c vs)
              | _, _, _ => sErr)
            else if plainT c.sc ts vs then (match dTg 4 c (.Tuple ts k pt) with
              | some t => sAsg (d.E c (.Tuple vs k2 p2)) t
              | none => sErr) else sErr
          | _ => if plainT c.sc ts vs then (match dTg 4 c (.Tuple ts k pt) with
              | some t => sAsg (d.E c (.Tuple vs k2 p2)) t
              | none => sErr) else sErr))
        split
        · rename_i x px y py
          split
          · rename_i h
            obtain ⟨w1, l1, l2, hl⟩ := par2_ok (k := k) (k2 := k2) (p := pt) (p2 := p2) C.sc C.kind h
            split
            · rename_i i j hi hj
              split
              · exact ss_err
              · rename_i hij
                match vs, hl with
                | [a, b], _ => exact psM (ps_par C.calm C.nd (C.at_ix hi) (C.at_ix hj) hij (C.locX l1) (C.locX l2) (O.A C [a, b]) w1 swapT) (par_read fun _ _ _ q => q)
            · exact ss_err
          · exact asgP_ok O C
        · rename_i x px y py z pz
          split
          · rename_i h
            obtain ⟨w1, l1, l2, l3, hl⟩ := par3_ok (k := k) (k2 := k2) (p := pt) (p2 := p2) C.sc C.kind h
            split
            · rename_i i j l hi hj hl'
              split
              · exact ss_err
              · rename_i hij
                simp only [not_or] at hij
                match vs, hl with
                | [a, b, w], _ => exact psM (ps_par3 C.calm C.nd (C.at_ix hi) (C.at_ix hj) (C.at_ix hl') hij.1 hij.2.1 hij.2.2 (C.locX l1) (C.locX l2) (C.locX l3) (O.A C [a, b, w]) w1 swapT) (par3_read fun _ _ _ q => q)
            · exact ss_err
          · exact asgP_ok O C
        · exact asgP_ok O C
      | _ =>
        all_goals (
          cases q : dTg 4 c (.Tuple ts k pt) with
          | some t =>
            refine ss_eqM (asgT_ok O C q (storesT rfl)) ?_
            show (match dTg 4 c (.Tuple ts k pt) with | some t => _ | none => _) = _
            rw [q]
          | none =>
            refine ss_eqM ss_err ?_
            show (match dTg 4 c (.Tuple ts k pt) with | some t => _ | none => _) = _
            rw [q])
    | Subscript o i px =>
      show PS X _ (tIS G Wx (if isSl i then sErr else sSub (d.E c e) (d.E c o) (d.E c i)))
      split
      · exact ss_err
      · rename_i h
        have ha : ∀ v, assign (.Subscript o i px) X.env v = (do
            let ov ← holding [v] (eval o X.env)
            let iv ← holding [v, ov] (eval i X.env)
            standAt px
            holding [v, ov, iv] (setItem ov iv v)
            release [v, ov, iv] []) := by
          cases i <;> first | (intro _; rfl) | (exact absurd rfl h)
        exact psM (ps_asg (O.E C e) (pg_sub (O.E C o) (O.E C i) (set_all hu) ha) swapU storesU rfl) sub_read
    | _ => exact ss_err
  | _ => exact ss_err
theorem stepB (O : DOk G d) (C : CtxI c G X Wx) (sts : List Stmt) : PSs X sts (tIS G Wx ((step d).B c sts)) := by
  cases sts with
  | nil => exact ss_nil
  | cons st r => exact ss_cons (O.S C st) (O.B C r)
theorem step_ok (O : DOk G d) : DOk G (step d) := ⟨fun C e => stepE O C e, fun C e => stepT O C e, fun C => stepW O C, fun C => stepA O C, fun C => stepI O C, fun C => stepS O C, fun C => stepB O C⟩
end
theorem dd_ok : ∀ n : Nat, DOk G (dd n)
  | 0 => D0_ok
  | n + 1 => step_ok (dd_ok n)
end Q
/-! A18: defs; the law's end. -/
namespace Q
open PySem PySem.Spec PyProof.Rows L2
variable {G : Gm} {Wx : WX}

def runB (n : Nat) (m : Sv) (ws : List W) (s : Store) : Res W := match m (ws.map some ++ List.replicate (n - ws.length) none) s with
  | .nx _ s1 => .ok .non s1
  | .ret w s1 => .ok w s1
  | .exc c w _ s1 => .exc c w s1
  | _ => .err
section
variable {P : Program} {w : World} {K : PySem.W.Frag} {mg : Str → Option Value} {base : Heap}
/-- a name of the module, from the level k on -/
def GlT (G : Gm) (P : Program) (w : World) (K : PySem.W.Frag) (mg : Str → Option Value) (base : Heap) (k : Nat) (x : Str) : GV → Prop
  | .con w' => ∃ u v, mg x = some u ∧ RelV v u ∧ ∀ ρ H, RV G ρ H w' v
  | .fn np φ kws => ∃ f fd ps, mg x = some (.ref f) ∧ FnOk P w K mg base (L2.CX P w) k f fd ps (SpI G φ ps.length) ∧ ps.length = np ∧ PySem.W.keepIn K (.ref f) = true ∧ Binds K fd ps [] ∧ ∀ q ∈ kws, KwB K fd ps q.1 q.2.1 q.2.2
  | .blt => mg x = none
theorem GlT.mono {j k : Nat} (h : j ≤ k) {x : Str} {g : GV} (q : GlT G P w K mg base j x g) : GlT G P w K mg base k x g := by
  cases g with
  | con w' => exact q
  | blt => exact q
  | fn np φ kws =>
    obtain ⟨f, fd, ps, h1, h2, h3, h4, h5, h6⟩ := q
    exact ⟨f, fd, ps, h1, h2.mono h, h3, h4, h5, h6⟩
theorem REnv.start {ρ : List Addr} {H : Hp} {ws : List W} {vs : List V} {N : List Str} (r : RVs G ρ H ws vs) : REnv G ρ H (ws.map some ++ List.replicate (N.length - ws.length) none) (L2.start N vs) := by
  unfold L2.start
  refine ⟨by simp [r.length], fun i x q => ?_⟩
  by_cases hi : i < ws.length
  · rw [List.getElem?_append_left (by simpa using hi), List.getElem?_map] at q
    cases h : ws[i]? with
    | none => rw [h] at q; cases q
    | some y =>
      rw [h] at q
      cases q
      obtain ⟨v, h1, h2⟩ := r.get h
      refine ⟨v, ?_, h2⟩
      rw [List.getElem?_append_left (by simpa [← r.length] using hi), List.getElem?_map, h1]
      rfl
  · rw [List.getElem?_append_right (by simpa using Nat.le_of_not_lt hi)] at q
    have := List.mem_of_getElem? q
    rw [List.mem_replicate] at this
    cases this.2
theorem fn_ok {x qual : Str} {params : Arguments} {body : List Stmt} {scope : Scope} {f : Addr} {fd : FuncData} {ps : List Str} {k : Nat} (hK : K = G.K) (F : FunD K x qual params body scope [] [] f fd) (c : Cfg) (hs : c.sc = scope) (S : FnScope c.N ps scope)
    (hgl : ∀ x g, c.gl x = some g → GlT G P w K mg base k x g) (n : Nat) : FnOk P w K mg base (L2.CX P w) (k + 1) f fd ps (SpI G (runB c.N.length ((dd n).B c body)) ps.length) := by
  refine F.ok S (fun vs H Q E h => h.1) fun cdv A outer s H vs Q E hr h => ?_
  obtain ⟨hl, ρ, ws, st, rv, sm, p⟩ := h
  have C : CtxI c G (cxOf (L2.CX P w) P w K mg base c.N qual scope f cdv A outer s H E) (fun cls d _ H => E cls d H) := by
    refine ⟨rfl, S.nd, hs.symm, hs ▸ S.kind, fun _ _ => rfl, rfl, hK, ?_, takes_of rfl rfl rfl rfl, passes_of rfl, fun x g hg => ?_⟩
    · have := hr.un
      show (A.deeper _).units + 64 < cLine
      omega
    · have q := hgl x g hg
      cases g with
      | con w' => exact q
      | blt => exact q
      | fn np φ kws =>
        obtain ⟨f, fd, ps, h1, h2, h3, h4, h5, h6⟩ := q
        exact ⟨k, f, fd, ps, h1, h2, h3, hr, h4, h5, h6⟩
  refine ⟨_, (dd_ok n).B C body, ρ, _, st, ⟨REnv.start rv, sm⟩, ?_⟩
  unfold runB at p
  cases q : (dd n).B c body (ws.map some ++ List.replicate (c.N.length - ws.length) none) st with
  | nx e1 s1 => rw [q] at p; exact fun ρ' H' σ' l R' => p ρ' H' .non l R'.sim .non
  | ret u s1 => rw [q] at p; exact fun ρ' H' v l S' r => p ρ' H' v l S' r
  | bk e1 s1 => rw [q] at p; exact p.elim
  | ct e1 s1 => rw [q] at p; exact p.elim
  | exc cc u e1 s1 => rw [q] at p; exact fun ρ' H' σ' v C d l R' r hc hd => p ρ' H' v C d l R'.sim r hc hd
  | err => rw [q] at p; exact p.elim
theorem kwbN {x qual : Str} {params : Arguments} {body : List Stmt} {scope : Scope} {f : Addr} {fd : FuncData} {ps ks : List Str} {n : Nat} {g : List Nat} (F : FunD K x qual params body scope [] [] f fd)
    (h : ∀ (kV doc pm : Value) (an : Option Addr) (cdv ct : Value) (us ws : List Value), us.length = n → ws.length = ks.length → bindArgs (PySem.W.fnOf x qual params body scope .none kV doc pm an cdv ct) ⟨us, ks.zip ws⟩ = pure (ps.zip (pick g (us ++ ws)))) : KwB K fd ps n ks g := by
  obtain ⟨oc, od, dV, kV, doc, pm, an, cdv, ct, osl, rfl, lk, hcd, hD, hK⟩ := F.ex
  rcases hD with ⟨_, rfl⟩ | ⟨e, _⟩
  · exact fun s us ws _ l1 l2 => .of_eq (h kV doc pm an cdv ct us ws l1 l2)
  · exact absurd rfl e
/-- a def of the head's list -/
theorem def_ok {fa : List He.Fa} {fn : List He.DefD} {h : Heap} (hK : K = G.K) (X : K.In h) (N : h.Ns mainGlobals mg) (sd : He.SaysD fa fn K) {i j k n : Nat} {x : Str} {d : He.DefD} {ps : List Str} {kws : List (Nat × List Str × List Nat)} (hd : fn[i]? = some d) (hg : fa[j]? = some (.glo x)) (hat : d.at_ = (x, none)) (hdf : d.dfl = []) (hkd : d.kwd = [])
    (c : Cfg) (hs : c.sc = d.scope) (S : FnScope c.N ps d.scope) (hgl : ∀ x g, c.gl x = some g → GlT G P w K mg base k x g)
    (hb : ∀ (kV doc pm : Value) (an : Option Addr) (cdv ct : Value) (us : List Value), us.length = ps.length → bindArgs (PySem.W.fnOf d.name d.qual d.params d.body d.scope .none kV doc pm an cdv ct) ⟨us, []⟩ = pure (ps.zip us))
    (hkw : ∀ q ∈ kws, ∀ (kV doc pm : Value) (an : Option Addr) (cdv ct : Value) (us ws : List Value), us.length = q.1 → ws.length = q.2.1.length → bindArgs (PySem.W.fnOf d.name d.qual d.params d.body d.scope .none kV doc pm an cdv ct) ⟨us, q.2.1.zip ws⟩ = pure (ps.zip (pick q.2.2 (us ++ ws)))) :
    GlT G P w K mg base (k + 1) x (.fn ps.length (runB c.N.length ((dd n).B c d.body)) kws) := by
  obtain ⟨fd, F⟩ := sd.def_ i hd
  have e1 : d.dvs K = [] := by unfold He.DefD.dvs; rw [hdf]; rfl
  have e2 : d.kws K = [] := by unfold He.DefD.kws; rw [hkd]; rfl
  have e3 : He.fAd K d.at_ = He.ga K x := by rw [hat]; rfl
  rw [e1, e2, e3] at F
  exact ⟨He.ga K x, fd, ps, He.glo_ok X N (sd.fact j hg), fn_ok hK F c hs S hgl n, rfl, F.kp, F.bindsN hb, fun q hq => kwbN F (hkw q hq)⟩
def st0 : Store := ⟨0, fun _ => none⟩
theorem sim0 {H : Hp} : Sim G [] st0 H := ⟨rfl, List.nodup_nil, fun i a h => by simp at h⟩
theorem sp_law {φ : List W → Store → Res W} {H : Hp} {a : Addr} {ns : List Int} (hO : Only H) (hS : SqL G.K H a (ns.map V.int)) (h : ∃ s, φ [.fl (ns.map W.int)] st0 = .ok (.bl true) s) : SpI G φ 1 [.ref a] H (fun v _ => v = .bl true) fun _ _ _ => False := by
  obtain ⟨s, h⟩ := h
  have hz : (∃ ob, H a = some (.frz ob (.lst (ns.map V.int)))) ∨ ∀ H1, SqL G.K H1 a (ns.map V.int) := by
    rcases hS with (hS | ⟨ob, hS⟩) | hS
    · rcases hO a with h | ⟨o, xs, h⟩
      · rw [h] at hS; cases hS
      · rw [h] at hS; cases hS
    · exact .inl ⟨ob, hS⟩
    · exact .inr fun _ => .inr hS
  refine ⟨rfl, [], [.fl (ns.map W.int)], st0, .cons (.fl hz (RVs.ints ns)) .nil, sim0, ?_⟩
  rw [h]
  intro ρ' H' b l S r
  cases r
  rfl
end
end Q
/-! A19: tables of names; the Hook with tuples of texts. -/
namespace Q
open PySem PySem.Spec PyProof.Rows L2
variable {G : Gm}

def GAll (Pr : Str → GV → Prop) : List (Str × GV) → Prop
  | [] => True
  | p :: r => Pr p.1 p.2 ∧ GAll Pr r
theorem GAll.look {Pr : Str → GV → Prop} : ∀ {l : List (Str × GV)}, GAll Pr l → ∀ x g, l.lookup x = some g → Pr x g
  | [], _, x, g, h => by cases h
  | (y, v) :: r, q, x, g, h => by
    rw [List.lookup_cons] at h
    split at h
    · rename_i e
      have e : x = y := by simpa using e
      cases h
      rw [e]
      exact q.1
    · exact GAll.look q.2 x g h
section
variable {P : Program} {w : World} {K : PySem.W.Frag} {mg : Str → Option Value} {base h : Heap} {k : Nat} {x : Str}
theorem gl_int (X : K.In h) (N : h.Ns mainGlobals mg) {i : Int} (c : (He.Fa.int x i).ok K = true) : GlT G P w K mg base k x (.con (.int i)) := by
  obtain ⟨t, e⟩ := He.int_ok X N c
  exact ⟨_, .int i, e, ⟨t, rfl⟩, fun _ _ => .int i⟩
theorem gl_str (X : K.In h) (N : h.Ns mainGlobals mg) {z : Str} (c : (He.Fa.str x z).ok K = true) : GlT G P w K mg base k x (.con (.str z)) := by
  obtain ⟨t, e⟩ := He.str_ok X N c
  exact ⟨_, .str z, e, ⟨t, rfl⟩, fun _ _ => .str z⟩
/-- constant tuples of texts -/
def dvW : He.Dv → W
  | .str x => .str x
  | _ => .non
def strDv : List He.Dv → Bool
  | [] => true
  | .str _ :: r => strDv r
  | _ => false
theorem rv_dvs {ρ : List Addr} {H : Hp} : ∀ {vs : List He.Dv}, strDv vs = true → RVs G ρ H (vs.map dvW) (vs.map (He.Dv.v K))
  | [], _ => .nil
  | .str x :: r, e => .cons (.str x) (rv_dvs (vs := r) e)
  | .non :: _, e => by cases e
  | .bl _ :: _, e => by cases e
  | .int _ :: _, e => by cases e
  | .byt _ :: _, e => by cases e
  | .flt _ :: _, e => by cases e
  | .ty _ :: _, e => by cases e
  | .glo _ :: _, e => by cases e
  | .adr _ :: _, e => by cases e
def tupsB (ts : List (Str × List He.Dv)) (K : PySem.W.Frag) : Bool := ts.all fun t => He.tupB K t.1 t.2
theorem tups_ok {ts : List (Str × List He.Dv)} (h : tupsB ts K = true) (i : Nat) {t : Str × List He.Dv} (e : ts[i]? = some t) : He.tupB K t.1 t.2 = true := List.all_eq_true.mp h t (List.mem_of_getElem? e)
theorem gl_tup (hK : K = G.K) (X : K.In h) (N : h.Ns mainGlobals mg) {vs : List He.Dv} {ws : List W} (c : (He.Fa.glo x).ok K = true) (t : He.tupB K x vs = true) (e : (strDv vs && allStr (vs.map dvW)) = true) (ew : vs.map dvW = ws) : GlT G P w K mg base k x (.con (.tup ws)) := by
  subst ew
  rw [Bool.and_eq_true] at e
  refine ⟨_, .ref (He.ga K x), He.glo_ok X N c, rfl, fun ρ H => ?_⟩
  exact .ktup (by rw [← hK]; exact He.tupB_ok t H) e.2 (rv_dvs e.1)
end
def hookE (n : Nat) (fa : List He.Fa) (fn : List He.DefD) (ex : PySem.W.Frag → Bool) : PySem.W.Hook where
  α := He.AlD × Bool
  obs := fun s => (He.obsDG n fa fn s.heap.get?, ex (He.frG s.heap.get? (He.asD s.heap.get? n)))
  val := fun _ => (He.valD fn, true)
  says := fun _ h => ∃ K : PySem.W.Frag, K.In h ∧ He.SaysD fa fn K ∧ ex K = true
  of := fun _ _ e => ⟨_, He.frG_in, congrArg Prod.fst e, congrArg Prod.snd e⟩
  keeps := fun _ _ _ ⟨K, hK, c⟩ k => ⟨K, PySem.W.Frag.In.keeps hK k, c⟩
def obsE (n : Nat) (fa : List He.Fa) (fn : List He.DefD) (ex : PySem.W.Frag → Bool) (g : Addr → Option Obj) : He.AlD × Bool := (He.obsDG n fa fn g, ex (He.frG g (He.asD g n)))
theorem obsE_eq {n : Nat} {fa : List He.Fa} {fn : List He.DefD} {ex : PySem.W.Frag → Bool} {g : Addr → Option Obj} {s : Shared} (h : ∀ a, g a = s.heap.get? a) : obsE n fa fn ex g = (hookE n fa fn ex).obs s := by
  have e : g = s.heap.get? := funext h
  rw [e] <;> rfl
/-- nothing is let out where nothing may be -/
theorem quiet_ok {P : Program} {w : World} {K : PySem.W.Frag} {mg : Str → Option Value} {base : Heap} {k : Nat} {f : Addr} {fd : FuncData} {ps : List Str} {sp : Sp} (F : FnOk P w K mg base (L2.CX P w) k f fd ps sp) : FnOk P w K mg base L2.CX0 k f fd ps (fun vs H Q _ => sp vs H Q L2.E0) := by
  refine ⟨fun vs H Q E h => F.len vs H Q _ h, fun A outer s H args us vs Q E hr e0 b r h => codeAny_mono (F.run A outer s H args us vs Q L2.E0 hr e0 b r h) fun res s' hq => ?_⟩
  cases res with
  | ok fl => cases fl <;> exact hq
  | error e =>
    obtain ⟨_, _, _, _, _, _, _, _, _, _, _, _, z⟩ := hq
    exact z.elim
end Q
/-! A20: the evaluator's answers, by simplification; loops. -/
namespace Q
open PySem L2

@[simp] theorem bind_ok {α β : Type} (a : α) (s : Store) (k : α → Store → Res β) : (Res.ok a s).bind k = k a s := rfl
@[simp] theorem bind_exc {α β : Type} (c : Nat) (v : W) (s : Store) (k : α → Store → Res β) : (Res.exc c v s : Res α).bind k = .exc c v s := rfl
@[simp] theorem bind_err {α β : Type} (k : α → Store → Res β) : (Res.err : Res α).bind k = .err := rfl
@[simp] theorem bindS_ok {α : Type} (a : α) (s : Store) (e : Env') (k : α → Store → RS) : (Res.ok a s).bindS e k = k a s := rfl
@[simp] theorem bindS_exc {α : Type} (c : Nat) (v : W) (s : Store) (e : Env') (k : α → Store → RS) : (Res.exc c v s : Res α).bindS e k = .exc c v e s := rfl
@[simp] theorem bindS_err {α : Type} (e : Env') (k : α → Store → RS) : (Res.err : Res α).bindS e k = .err := rfl

/-! ### what is reached -/
def wpr {α : Type} (r : Res α) (Q : α → Store → Prop) : Prop := match r with
  | .ok a s => Q a s
  | _ => False
structure SK where
  nx : Env' → Store → Prop
  rt : W → Store → Prop
  bk : Env' → Store → Prop := fun _ _ => False
  ct : Env' → Store → Prop := fun _ _ => False
def wps (r : RS) (k : SK) : Prop := match r with
  | .nx e s => k.nx e s
  | .ret w s => k.rt w s
  | .bk e s => k.bk e s
  | .ct e s => k.ct e s
  | _ => False
@[simp] theorem wpr_ok {α : Type} (a : α) (s : Store) (Q : α → Store → Prop) : wpr (.ok a s) Q = Q a s := rfl
@[simp] theorem wpr_err {α : Type} (Q : α → Store → Prop) : wpr (.err : Res α) Q = False := rfl
theorem wpr_bind {α β : Type} {r : Res α} {k : α → Store → Res β} {Q : β → Store → Prop} : wpr (r.bind k) Q = wpr r fun a s => wpr (k a s) Q := by cases r <;> rfl
theorem wpr_mono {α : Type} {r : Res α} {Q Q' : α → Store → Prop} (h : wpr r Q) (f : ∀ a s, Q a s → Q' a s) : wpr r Q' := by
  cases r with
  | ok a s => exact f a s h
  | _ => exact h
theorem wpr_iff {α : Type} {r : Res α} {Q : α → Store → Prop} : wpr r Q ↔ ∃ a s, r = .ok a s ∧ Q a s := by
  cases r with
  | ok a s => exact ⟨fun h => ⟨a, s, rfl, h⟩, fun ⟨b, t, e, h⟩ => by cases e; exact h⟩
  | _ => exact ⟨fun h => h.elim, fun ⟨b, t, e, h⟩ => by cases e⟩
@[simp] theorem wps_nx (e : Env') (s : Store) (k : SK) : wps (.nx e s) k = k.nx e s := rfl
@[simp] theorem wps_ret (w : W) (s : Store) (k : SK) : wps (.ret w s) k = k.rt w s := rfl
@[simp] theorem wps_bk (e : Env') (s : Store) (k : SK) : wps (.bk e s) k = k.bk e s := rfl
@[simp] theorem wps_ct (e : Env') (s : Store) (k : SK) : wps (.ct e s) k = k.ct e s := rfl
theorem wps_bind {α : Type} {r : Res α} {e : Env'} {k : α → Store → RS} {K : SK} : wps (r.bindS e k) K = wpr r fun a s => wps (k a s) K := by cases r <;> rfl
theorem wps_seq {a b : Sv} {e : Env'} {s : Store} {K : SK} : wps (sSeq a b e s) K = wps (a e s) { K with nx := fun e1 s1 => wps (b e1 s1) K } := by
  unfold sSeq
  cases a e s <;> rfl
theorem wps_mono {r : RS} {K K' : SK} (h : wps r K) (f1 : ∀ e s, K.nx e s → K'.nx e s) (f2 : ∀ w s, K.rt w s → K'.rt w s) (f3 : ∀ e s, K.bk e s → K'.bk e s) (f4 : ∀ e s, K.ct e s → K'.ct e s) : wps r K' := by
  cases r with
  | nx e s => exact f1 e s h
  | ret w s => exact f2 w s h
  | bk e s => exact f3 e s h
  | ct e s => exact f4 e s h
  | _ => exact h
/-- a def's body -/
theorem wpr_runB {n : Nat} {m : Sv} {ws : List W} {s : Store} {Q : W → Store → Prop} : wpr (runB n m ws s) Q = wps (m (ws.map some ++ List.replicate (n - ws.length) none) s) { nx := fun _ s1 => Q .non s1, rt := Q } := by
  unfold runB
  cases m (ws.map some ++ List.replicate (n - ws.length) none) s <;> rfl

/-! ### loops -/
/-- ws is walked from place i on, wherever Inv holds -/
theorem wps_loop {iv : ItV} {ws : List W} {t : Tg} {body : Sv} {K : SK} (Inv : Nat → Env' → Store → Prop) (hat : ∀ j e s, Inv j e s → itAt iv j s = some ws[j]?)
    (turn : ∀ j w e s, Inv j e s → ws[j]? = some w → ∃ e1, tgE t w e = some e1 ∧ wps (body e1 s) { nx := Inv (j + 1), rt := K.rt, bk := K.nx, ct := Inv (j + 1) }) (fin : ∀ e s, Inv ws.length e s → K.nx e s) :
    ∀ (k i : Nat) (e : Env') (s : Store), ws.length < i + k → i ≤ ws.length → Inv i e s → wps (forLoop k iv i t body e s) K
  | 0, i, e, s, hk, hi, _ => by omega
  | k + 1, i, e, s, hk, hi, I => by
    unfold forLoop
    rw [hat i e s I]
    by_cases hl : i < ws.length
    · rw [List.getElem?_eq_getElem hl]
      obtain ⟨e1, h1, h2⟩ := turn i ws[i] e s I (List.getElem?_eq_getElem hl)
      dsimp only
      rw [h1]
      dsimp only
      cases q : body e1 s with
      | nx e2 s2 => rw [q] at h2; exact wps_loop Inv hat turn fin k (i + 1) e2 s2 (by omega) (by omega) h2
      | ct e2 s2 => rw [q] at h2; exact wps_loop Inv hat turn fin k (i + 1) e2 s2 (by omega) (by omega) h2
      | bk e2 s2 => rw [q] at h2; exact h2
      | ret w s2 => rw [q] at h2; exact h2
      | exc c w e2 s2 => rw [q] at h2; exact h2
      | err => rw [q] at h2; exact h2
    · rw [List.getElem?_eq_none (by omega)]
      have : i = ws.length := by omega
      subst this
      exact fin e s I
theorem wps_for {it : Ev ItV} {iv : ItV} {s1 : Store} {ws : List W} {t : Tg} {body : Sv} {K : SK} {e : Env'} {s : Store} (hi : it e s = .ok iv s1) (hf : ws.length < itFuel iv s1) (Inv : Nat → Env' → Store → Prop) (hat : ∀ j e s, Inv j e s → itAt iv j s = some ws[j]?)
    (i0 : Inv 0 e s1) (turn : ∀ j w e s, Inv j e s → ws[j]? = some w → ∃ e1, tgE t w e = some e1 ∧ wps (body e1 s) { nx := Inv (j + 1), rt := K.rt, bk := K.nx, ct := Inv (j + 1) }) (fin : ∀ e s, Inv ws.length e s → K.nx e s) : wps (sFor it t body e s) K := by
  unfold sFor
  rw [hi]
  exact wps_loop Inv hat turn fin _ 0 e s1 (by omega) (Nat.zero_le _) i0
/-- the general comprehension -/
theorem wpr_lcLoop {iv : ItV} {ws : List W} {t : Tg} {c : Ev Bool} {x : Ev W} {D : Nat} {e : Env'} {Q : W → Store → Prop} (Inv : Nat → Store → Prop) (hat : ∀ j s, Inv j s → itAt iv j s = some ws[j]?)
    (turn : ∀ j w s, Inv j s → ws[j]? = some w → ∃ e1, tgE t w e = some e1 ∧ wpr (c e1 s) fun b s2 => if b = true then wpr (x e1 s2) fun y s3 => ∃ acc, s3.f D = some (.lst acc) ∧ acc.length < LIM ∧ Inv (j + 1) (s3.put D (.lst (acc ++ [y]))) else Inv (j + 1) s2)
    (fin : ∀ s, Inv ws.length s → Q (.ref D) s) : ∀ (k i : Nat) (s : Store), ws.length < i + k → i ≤ ws.length → Inv i s → wpr (lcLoop k iv i t c x D e s) Q
  | 0, i, s, hk, hi, _ => by omega
  | k + 1, i, s, hk, hi, I => by
    unfold lcLoop
    rw [hat i s I]
    by_cases hl : i < ws.length
    · rw [List.getElem?_eq_getElem hl]
      obtain ⟨e1, h1, h2⟩ := turn i ws[i] s I (List.getElem?_eq_getElem hl)
      dsimp only
      rw [h1]
      dsimp only
      cases q : c e1 s with
      | ok b s2 =>
        rw [q] at h2
        cases b with
        | true =>
          simp only [wpr_ok, if_true] at h2
          dsimp only
          cases q2 : x e1 s2 with
          | ok y s3 =>
            rw [q2] at h2
            obtain ⟨acc, a1, a2, a3⟩ := h2
            dsimp only
            rw [a1]
            dsimp only
            rw [if_pos a2]
            exact wpr_lcLoop Inv hat turn fin k (i + 1) _ (by omega) (by omega) a3
          | exc _ _ _ => rw [q2] at h2; exact h2.elim
          | err => rw [q2] at h2; exact h2.elim
        | false =>
          simp only [wpr_ok, Bool.false_eq_true, if_false] at h2
          exact wpr_lcLoop Inv hat turn fin k (i + 1) _ (by omega) (by omega) h2
      | exc _ _ _ => rw [q] at h2; exact h2.elim
      | err => rw [q] at h2; exact h2.elim
    · rw [List.getElem?_eq_none (by omega)]
      have : i = ws.length := by omega
      subst this
      exact fin s I
theorem add_put (s : Store) (o o' : O) : (s.add o).put s.n o' = s.add o' := by
  unfold Store.add Store.put
  congr 1
  funext b
  by_cases h : b = s.n <;> simp [h]
@[simp] theorem add_f (s : Store) (o : O) : (s.add o).f s.n = some o := by simp [Store.add]
theorem add_at (s : Store) (o : O) (a : Nat) (h : a = s.n) : (s.add o).f a = some o := by rw [h]; exact add_f s o
theorem add_old (s : Store) (o : O) {a : Nat} (h : a < s.n) : (s.add o).f a = s.f a := by simp [Store.add]; omega
@[simp] theorem add_n (s : Store) (o : O) : (s.add o).n = s.n + 1 := of_eq_true (eq_self (s.n + 1))
@[simp] theorem put_n (s : Store) (a : Nat) (o : O) : (s.put a o).n = s.n := of_eq_true (eq_self s.n)
@[simp] theorem put_f (s : Store) (a : Nat) (o : O) : (s.put a o).f a = some o := by simp [Store.put]
theorem put_other (s : Store) {a b : Nat} (o : O) (h : b ≠ a) : (s.put a o).f b = s.f b := by simp [Store.put, h]
/-- a comprehension whose parts lay nothing -/
theorem lc_eq {it : Ev ItV} {vs : List Nat} {t : Tg} {c : Ev Bool} {x : Ev W} {e : Env'} {s s1 : Store} {iv : ItV} {ws : List W} (p : W → Bool) (g : W → W) (hi : it e s = .ok iv s1) (hf : ws.length < itFuel iv s1) (hl : ws.length ≤ LIM)
    (hat : ∀ j acc, itAt iv j (s1.add (.lst acc)) = some ws[j]?)
    (turn : ∀ w ∈ ws, ∃ e1, tgE t w (wipeE e vs) = some e1 ∧ ∀ acc, c e1 (s1.add (.lst acc)) = .ok (p w) (s1.add (.lst acc)) ∧ (p w = true → x e1 (s1.add (.lst acc)) = .ok (g w) (s1.add (.lst acc)))) :
    eLc it vs t c x e s = .ok (.ref s1.n) (s1.add (.lst ((ws.filter p).map g))) := by
  unfold eLc
  rw [hi, bind_ok]
  have h := wpr_lcLoop (iv := iv) (ws := ws) (t := t) (c := c) (x := x) (D := s1.n) (e := wipeE e vs) (Q := fun v s => v = .ref s1.n ∧ s = s1.add (.lst ((ws.filter p).map g)))
    (fun j s => s = s1.add (.lst (((ws.take j).filter p).map g))) (fun j s h => by rw [h]; exact hat j _) (fun j w s h hw => ?_) (fun s h => by rw [h, List.take_length]; exact ⟨rfl, rfl⟩) (itFuel iv s1) 0 (s1.add (.lst [])) (by omega) (Nat.zero_le _) (by simp)
  · obtain ⟨a, s', e1, e2, e3⟩ := wpr_iff.mp h
    rw [e1, e2, e3]
  · subst h
    obtain ⟨e1, h1, h2⟩ := turn w (List.mem_of_getElem? hw)
    refine ⟨e1, h1, ?_⟩
    obtain ⟨h3, h4⟩ := h2 (((ws.take j).filter p).map g)
    rw [h3]
    have tk : ws.take (j + 1) = ws.take j ++ [w] := by rw [List.take_add_one, hw]; rfl
    have hj : j < ws.length := (List.getElem?_eq_some_iff.mp hw).1
    cases hp : p w with
    | true =>
      simp only [wpr_ok, if_true]
      rw [h4 hp, wpr_ok]
      refine ⟨_, add_f _ _, ?_, ?_⟩
      · have := List.length_filter_le p (ws.take j)
        rw [List.length_take] at this
        rw [List.length_map]
        omega
      · rw [add_put, tk, List.filter_append, List.map_append]
        simp [hp]
    | false =>
      simp only [wpr_ok, Bool.false_eq_true, if_false]
      rw [tk, List.filter_append]
      simp [hp]
end Q
namespace Q
open PySem L2
/-! ### evaluation by simp: what stands first is simplified first -/
def RS.thn (r : RS) (k : Env' → Store → RS) : RS := match r with
  | .nx e1 s1 => k e1 s1
  | r => r
@[simp] theorem thn_nx (e : Env') (s : Store) (k : Env' → Store → RS) : (RS.nx e s).thn k = k e s := rfl
@[simp] theorem thn_ret (w : W) (s : Store) (k : Env' → Store → RS) : (RS.ret w s).thn k = .ret w s := rfl
@[simp] theorem thn_bk (e : Env') (s : Store) (k : Env' → Store → RS) : (RS.bk e s).thn k = .bk e s := rfl
@[simp] theorem thn_ct (e : Env') (s : Store) (k : Env' → Store → RS) : (RS.ct e s).thn k = .ct e s := rfl
theorem seq_eq (a b : Sv) (e : Env') (s : Store) : sSeq a b e s = (a e s).thn b := rfl
def RS.fin (r : RS) : Res W := match r with
  | .nx _ s1 => .ok .non s1
  | .ret w s1 => .ok w s1
  | .exc c w _ s1 => .exc c w s1
  | _ => .err
@[simp] theorem fin_nx (e : Env') (s : Store) : (RS.nx e s).fin = .ok .non s := rfl
@[simp] theorem fin_ret (w : W) (s : Store) : (RS.ret w s).fin = .ok w s := rfl
theorem runB_eq (n : Nat) (m : Sv) (ws : List W) (s : Store) : runB n m ws s = (m (ws.map some ++ List.replicate (n - ws.length) none) s).fin := rfl
/-! the continuation stands ahead of an argument whose type names it: simp leaves it alone until the first part is known -/
abbrev Hd {α : Type} (_ : α) : Type := Unit
def bnd {α β : Type} (r : Res α) (k : α → Store → Res β) (_ : Hd k) : Res β := r.bind k
def bndS {α : Type} (r : Res α) (e : Env') (k : α → Store → RS) (_ : Hd k) : RS := r.bindS e k
def thnT (r : RS) (k : Env' → Store → RS) (_ : Hd k) : RS := r.thn k
def wprT {α : Type} (r : Res α) (Q : α → Store → Prop) (_ : Hd Q) : Prop := wpr r Q
def wpsT (r : RS) (K : SK) (_ : Hd K) : Prop := wps r K
theorem bind_T {α β : Type} (r : Res α) (k : α → Store → Res β) : r.bind k = bnd r k () := rfl
theorem bindS_T {α : Type} (r : Res α) (e : Env') (k : α → Store → RS) : r.bindS e k = bndS r e k () := rfl
theorem thn_T (r : RS) (k : Env' → Store → RS) : r.thn k = thnT r k () := rfl
theorem wpr_T {α : Type} (r : Res α) (Q : α → Store → Prop) : wpr r Q = wprT r Q () := rfl
theorem wps_T (r : RS) (K : SK) : wps r K = wpsT r K () := rfl
@[simp] theorem bnd_ok {α β : Type} (a : α) (s : Store) (k : α → Store → Res β) (u : Hd k) : bnd (.ok a s) k u = k a s := rfl
@[simp] theorem bnd_exc {α β : Type} (c : Nat) (v : W) (s : Store) (k : α → Store → Res β) (u : Hd k) : bnd (.exc c v s : Res α) k u = .exc c v s := rfl
@[simp] theorem bnd_err {α β : Type} (k : α → Store → Res β) (u : Hd k) : bnd (.err : Res α) k u = .err := rfl
@[simp] theorem bndS_ok {α : Type} (a : α) (s : Store) (e : Env') (k : α → Store → RS) (u : Hd k) : bndS (.ok a s) e k u = k a s := rfl
@[simp] theorem bndS_exc {α : Type} (c : Nat) (v : W) (s : Store) (e : Env') (k : α → Store → RS) (u : Hd k) : bndS (.exc c v s : Res α) e k u = .exc c v e s := rfl
@[simp] theorem bndS_err {α : Type} (e : Env') (k : α → Store → RS) (u : Hd k) : bndS (.err : Res α) e k u = .err := rfl
@[simp] theorem thnT_nx (e : Env') (s : Store) (k : Env' → Store → RS) (u : Hd k) : thnT (RS.nx e s) k u = k e s := rfl
@[simp] theorem thnT_ret (w : W) (s : Store) (k : Env' → Store → RS) (u : Hd k) : thnT (RS.ret w s) k u = .ret w s := rfl
@[simp] theorem thnT_bk (e : Env') (s : Store) (k : Env' → Store → RS) (u : Hd k) : thnT (RS.bk e s) k u = .bk e s := rfl
@[simp] theorem thnT_ct (e : Env') (s : Store) (k : Env' → Store → RS) (u : Hd k) : thnT (RS.ct e s) k u = .ct e s := rfl
@[simp] theorem wprT_ok {α : Type} (a : α) (s : Store) (Q : α → Store → Prop) (u : Hd Q) : wprT (.ok a s) Q u = Q a s := rfl
@[simp] theorem wprT_err {α : Type} (Q : α → Store → Prop) (u : Hd Q) : wprT (.err : Res α) Q u = False := rfl
theorem wprT_bnd {α β : Type} {r : Res α} {k : α → Store → Res β} {Q : β → Store → Prop} (u : Hd k) (v : Hd Q) : wprT (bnd r k u) Q v = wprT r (fun a s => wpr (k a s) Q) () := wpr_bind
theorem wprT_runB {n : Nat} {m : Sv} {ws : List W} {s : Store} {Q : W → Store → Prop} (v : Hd Q) : wprT (runB n m ws s) Q v = wpsT (m (ws.map some ++ List.replicate (n - ws.length) none) s) { nx := fun _ s1 => Q .non s1, rt := Q } () := wpr_runB
@[simp] theorem wpsT_nx (e : Env') (s : Store) (k : SK) (u : Hd k) : wpsT (.nx e s) k u = k.nx e s := rfl
@[simp] theorem wpsT_ret (w : W) (s : Store) (k : SK) (u : Hd k) : wpsT (.ret w s) k u = k.rt w s := rfl
@[simp] theorem wpsT_bk (e : Env') (s : Store) (k : SK) (u : Hd k) : wpsT (.bk e s) k u = k.bk e s := rfl
@[simp] theorem wpsT_ct (e : Env') (s : Store) (k : SK) (u : Hd k) : wpsT (.ct e s) k u = k.ct e s := rfl
theorem wpsT_bndS {α : Type} {r : Res α} {e : Env'} {k : α → Store → RS} {K : SK} (u : Hd k) (v : Hd K) : wpsT (bndS r e k u) K v = wprT r (fun a s => wps (k a s) K) () := wps_bind
theorem wpsT_seq {a b : Sv} {e : Env'} {s : Store} {K : SK} (v : Hd K) : wpsT (sSeq a b e s) K v = wpsT (a e s) { K with nx := fun e1 s1 => wps (b e1 s1) K } () := wps_seq
theorem int_beq (a b : Int) : (a == b) = decide (a = b) := by by_cases h : a = b <;> simp [h]
@[simp] theorem ofString_inj (a b : String) : (PySem.Str.ofString a = PySem.Str.ofString b) = (a = b) := by
  refine propext ⟨fun h => ?_, fun h => h ▸ rfl⟩
  rw [PySem.Str.ofString_eq_toList, PySem.Str.ofString_eq_toList] at h
  have h1 : (a.toList.map Char.toNat) = (b.toList.map Char.toNat) := by
    have := congrArg (fun x : PySem.Str => x.cps.toList) h
    simpa using this
  have h2 : ∀ l : List Char, (l.map Char.toNat).map Char.ofNat = l := fun l => by
    rw [List.map_map]
    conv => rhs; rw [← List.map_id l]
    congr 1
    funext c
    exact Char.ofNat_toNat c
  have h3 := congrArg (List.map Char.ofNat) h1
  rw [h2, h2] at h3
  exact String.toList_inj.mp h3
end Q
/-! A21: stores that grow; lists that are laid; stepping. -/
namespace Q
open PySem
/-- from s to t only the objects ms, and new ones, differ -/
structure Ext (ms : List Nat) (s t : Store) : Prop where
  n : s.n ≤ t.n
  f : ∀ a, a < s.n → a ∉ ms → t.f a = s.f a
theorem Ext.refl {ms : List Nat} {s : Store} : Ext ms s s := ⟨Nat.le_refl _, fun _ _ _ => rfl⟩
theorem Ext.trans {ms : List Nat} {s t u : Store} (h : Ext ms s t) (h2 : Ext ms t u) : Ext ms s u := ⟨Nat.le_trans h.n h2.n, fun a ha hm => (h2.f a (Nat.lt_of_lt_of_le ha h.n) hm).trans (h.f a ha hm)⟩
theorem Ext.add {ms : List Nat} {s t : Store} (h : Ext ms s t) (o : O) : Ext ms s (t.add o) := ⟨Nat.le_succ_of_le h.n, fun a ha hm => (add_old t o (Nat.lt_of_lt_of_le ha h.n)).trans (h.f a ha hm)⟩
theorem Ext.put {ms : List Nat} {s t : Store} (h : Ext ms s t) {n : Nat} (o : O) (hn : n ∈ ms ∨ s.n ≤ n) : Ext ms s (t.put n o) := ⟨h.n, fun a ha hm => by
  rw [put_other]
  · exact h.f a ha hm
  · rintro rfl
    rcases hn with h | h
    · exact hm h
    · omega⟩
theorem Ext.weak {ms ns : List Nat} {s t : Store} (h : Ext ms s t) (hm : ∀ a ∈ ms, a ∈ ns ∨ s.n ≤ a) : Ext ns s t := ⟨h.n, fun a ha hn => h.f a ha fun z => (hm a z).elim hn fun z => by omega⟩
theorem Ext.nil {ns : List Nat} {s t : Store} (h : Ext [] s t) : Ext ns s t := h.weak fun _ z => by cases z
theorem Ext.at {s t : Store} (h : Ext [] s t) {a : Nat} {o : O} (ha : a < s.n) (e : s.f a = some o) : t.f a = some o := (h.f a ha (by simp)).trans e

def Lst (s : Store) (r : Res W) (xs : List W) : Prop := ∃ m t, r = .ok (.ref m) t ∧ t.f m = some (.lst xs) ∧ s.n ≤ m ∧ m < t.n ∧ Ext [] s t
theorem Lst.wp {s : Store} {r : Res W} {xs : List W} {Q : W → Store → Prop} (h : Lst s r xs) (f : ∀ m t, t.f m = some (.lst xs) → s.n ≤ m → m < t.n → Ext [] s t → Q (.ref m) t) : wpr r Q := by
  obtain ⟨m, t, rfl, h1, h2, h3, h4⟩ := h
  exact f m t h1 h2 h3 h4
theorem Lst.of {s : Store} {r : Res W} {xs : List W} (h : wpr r fun w t => ∃ m, w = .ref m ∧ t.f m = some (.lst xs) ∧ s.n ≤ m ∧ m < t.n ∧ Ext [] s t) : Lst s r xs := by
  obtain ⟨w, t, e, m, rfl, h1, h2, h3, h4⟩ := wpr_iff.mp h
  exact ⟨m, t, e, h1, h2, h3, h4⟩
theorem wpr_eq {α : Type} {r : Res α} {a : α} {t : Store} {Q : α → Store → Prop} (e : r = .ok a t) (h : Q a t) : wpr r Q := by rw [e]; exact h
/-- a comprehension whose parts lay nothing -/
theorem wpr_lc {α : Type} {it : Ev ItV} {vs : List Nat} {t : Tg} {c : Ev Bool} {x : Ev W} {e : Env'} {s s1 : Store} {Q : W → Store → Prop} {iv : ItV} (l : List α) (f g : α → W) (p : α → Bool) (hi : it e s = .ok iv s1) (hf : l.length < itFuel iv s1) (hl : l.length ≤ LIM)
    (hat : ∀ j acc, itAt iv j (s1.add (.lst acc)) = some ((l.map f)[j]?))
    (turn : ∀ a ∈ l, ∃ e1, tgE t (f a) (wipeE e vs) = some e1 ∧ ∀ acc, c e1 (s1.add (.lst acc)) = .ok (p a) (s1.add (.lst acc)) ∧ (p a = true → x e1 (s1.add (.lst acc)) = .ok (g a) (s1.add (.lst acc))))
    (q : Q (.ref s1.n) (s1.add (.lst ((l.filter p).map g)))) : wpr (eLc it vs t c x e s) Q := by
  unfold eLc
  rw [hi, bind_ok]
  refine wpr_mono (wpr_lcLoop (iv := iv) (ws := l.map f) (Q := fun v s => v = .ref s1.n ∧ s = s1.add (.lst ((l.filter p).map g)))
    (fun j s => s = s1.add (.lst (((l.take j).filter p).map g))) (fun j s h => by rw [h]; exact hat j _) (fun j w s h hw => ?_) (fun s h => by rw [h, List.length_map, List.take_length]; exact ⟨rfl, rfl⟩) (itFuel iv s1) 0 (s1.add (.lst [])) (by rw [List.length_map]; omega) (Nat.zero_le _) (by simp)) fun a s ⟨h1, h2⟩ => by rw [h1, h2]; exact q
  subst h
  rw [List.getElem?_map] at hw
  cases ha : l[j]? with
  | none => rw [ha] at hw; cases hw
  | some a =>
    rw [ha] at hw
    cases hw
    obtain ⟨e1, h1, h2⟩ := turn a (List.mem_of_getElem? ha)
    refine ⟨e1, h1, ?_⟩
    obtain ⟨h3, h4⟩ := h2 (((l.take j).filter p).map g)
    rw [h3]
    have tk : l.take (j + 1) = l.take j ++ [a] := by rw [List.take_add_one, ha]; rfl
    have hj : j < l.length := (List.getElem?_eq_some_iff.mp ha).1
    cases hp : p a with
    | true =>
      simp only [wpr_ok, if_true]
      rw [h4 hp, wpr_ok]
      refine ⟨_, add_f _ _, ?_, ?_⟩
      · have := List.length_filter_le p (l.take j)
        rw [List.length_take] at this
        rw [List.length_map]
        omega
      · rw [add_put, tk, List.filter_append, List.map_append]
        simp [hp]
    | false =>
      simp only [wpr_ok, Bool.false_eq_true, if_false]
      rw [tk, List.filter_append]
      simp [hp]
/-- what is walked, where it is an immediate thing or a list -/
theorem at_lst {n : Nat} {s : Store} {ws acc : List W} {j : Nat} (h : s.f n = some (.lst ws)) (hn : n < s.n) : itAt (.lst n) j (s.add (.lst acc)) = some ws[j]? := by
  simp only [itAt]
  rw [add_old _ _ hn, h]
theorem at_rng {lo : Int} {k j : Nat} {s : Store} : itAt (.rng lo 1 k) j s = some (((List.range k).map fun i => W.int (lo + (i : Nat)))[j]?) := by
  simp only [itAt]
  by_cases h : j < k
  · simp [h]
  · simp [h]
theorem filt_true {α : Type} (l : List α) : l.filter (fun _ => true) = l := List.filter_eq_self.mpr fun _ _ => rfl
theorem add_oldT (s : Store) (o : O) (a : Nat) (h : (a < s.n) = True) : (s.add o).f a = s.f a := add_old s o (of_eq_true h)
theorem add_atT (s : Store) (o : O) (a : Nat) (h : (a = s.n) = True) : (s.add o).f a = some o := add_at s o a (of_eq_true h)
theorem put_oldT (s : Store) (o : O) (a b : Nat) (h : (b = a) = False) : (s.put a o).f b = s.f b := put_other s o (of_eq_false h)
theorem lt_addT (a n k : Nat) (h : (a < n) = True) : (a < n + k) = True := eq_true (Nat.lt_add_right k (of_eq_true h))
theorem ne_addT (a n k : Nat) (h : (a < n) = True) : (a = n + k) = False := eq_false (by have := of_eq_true h; omega)
def allF {α : Type} (f : α → Bool) (l : List α) : Bool := l.all f
theorem blsW_fn {α : Type} (f : α → Bool) (l : List α) : blsW (l.map fun a => W.bl (f a)) = some (l.map f) := by
  induction l with
  | nil => rfl
  | cons d r ih => simp [blsW, ih]
theorem intsW_fn {α : Type} (f : α → Int) (l : List α) : intsW (l.map fun a => W.int (f a)) = some (l.map f) := by
  induction l with
  | nil => rfl
  | cons d r ih => simp [intsW, ih]
theorem intsW_two {α β : Type} (f : α → Int) (g : β → Int) (l : List α) (r : List β) : intsW ((l.map fun a => W.int (f a)) ++ r.map fun a => W.int (g a)) = some (l.map f ++ r.map g) := by
  induction l with
  | nil => exact intsW_fn g r
  | cons d r ih => simp [intsW, ih]
def distinct (ns : List Int) : Nat := (PyProof.Rows.firstMet (fun i => ns.getD i 0) ns.length).length
theorem mkLenSet_eq {n : Nat} {s : Store} {xs : List W} {ns : List Int} (h : s.f n = some (.lst xs)) (hi : intsW xs = some ns) (hl : ns.length ≤ 4000) : mkLenSet (.ref n) s = .ok (.int (distinct ns : Nat)) s := by
  unfold mkLenSet
  simp only [h, hi]
  rw [if_pos hl]
  rfl
theorem bAA_all {α : Type} {f : α → Bool} {l : List α} {n : Nat} {s : Store} (h : s.f n = some (.lst (l.map fun a => W.bl (f a)))) : bAA (fun bs => bs.all id) [.ref n] s = .ok (.bl (allF f l)) s := by
  unfold bAA
  simp only [h, blsW_fn]
  unfold allF
  rw [List.all_map]
  rfl
def fm {α β : Type} (f : α → List β) (l : List α) : List β := l.flatMap f
theorem fm_nil {α β : Type} (f : α → List β) : fm f [] = [] := rfl
theorem fm_le {α β : Type} (f : α → List β) (l : List α) (i : Nat) : (fm f (l.take i)).length ≤ (fm f l).length := by
  unfold fm
  conv => rhs; rw [← List.take_append_drop i l]
  rw [List.flatMap_append, List.length_append]
  omega
theorem fm_succ {α β : Type} (f : α → List β) {l : List α} {i : Nat} {a : α} (h : l[i]? = some a) : fm f (l.take (i + 1)) = fm f (l.take i) ++ f a := by
  unfold fm
  rw [List.take_add_one, h]
  simp
end Q
namespace K16
open PySem PySem.Spec PyProof.Rows L2 Q
abbrev Rr : PySem.W.OpenRow := PySem.W.OpenLaw.row PySem.Challenge.rw_queueloops_k16_whole_pairs_that_can_be
def top (i : Nat) : Stmt := PySem.Challenge.pw_queueloops_k16_whole_pairs_that_can_be.main.body.getD i (.Pass ⟨0, 0, 0, 0⟩)
def tups : List (Str × List He.Dv) := [("WORDS", [.str "queue", .str "order", .str "any"])]
def fa : List He.Fa := [.glo "_law_take", .glo "_law_of", .glo "_law_is_int", .glo "_law_slot_delays", .glo "_law_packets", .glo "_law_slot_values", .glo "_law_can_stand", .glo "is_integer", .glo "is_within", .glo "is_service", .glo "gap_of", .glo "check_service", .glo "check_size", .glo "check_pair", .glo "is_possible", .glo "_law_small_world", .glo "_law_all_scripts", .glo "_law_pairs_in", .glo "can_be", .glo "_law_can_be", .glo "_law_cells", .glo "_law_right", .glo "_law_pot", .glo "law", .int "PAIR" 2, .glo "WORDS", .int "MOST_COME" 4, .int "MOST_SIZE" 400, .int "TRIPLE" 3, .int "MOST_SLOTS_BEHIND" 400, .str "QUEUE" "queue", .str "ORDER" "order", .free "list", .free "range", .free "max", .free "min", .free "len", .free "int", .free "isinstance", .free "bool", .free "tuple", .free "enumerate", .free "all", .free "set", .free "zip", .free "str", .free "repr", .free "sum", .free "abs"]
/-! ### _law_cells -/
abbrev s__law_cells : Stmt := top 30
def gl__law_cells : List (Str × GV) := [("list", .blt), ("range", .blt), ("max", .blt), ("min", .blt), ("len", .blt)]
def cf__law_cells : Cfg := ⟨["script", "most"], defScope s__law_cells, fun _ => true, fun x => gl__law_cells.lookup x, 4000000⟩
def m__law_cells : Sv := (sSeq (sRet (eLstRg1 (eCallB bMax (eCons (eC (W.int 1)) (eCons (eCallB bMin (eCons (eVar 1) (eCons (eCallB bLen' (eCons (eVar 0) eNil)) eNil))) eNil)))))
  sNx)
theorem m__law_cells_eq : (dd 40).B cf__law_cells (defBody s__law_cells) = m__law_cells := by kernel_rfl
def φ__law_cells : List W → Store → Res W := runB 2 m__law_cells
def d__law_cells : He.DefD := ⟨("_law_cells", none), "_law_cells", "_law_cells", defArgs s__law_cells, defBody s__law_cells, defScope s__law_cells, [], []⟩
/-! ### _law_take -/
abbrev s__law_take : Stmt := top 28
def gl__law_take : List (Str × GV) := [("int", .blt)]
def cf__law_take : Cfg := ⟨["pot", "upto", "digit", "prime", "blend"], defScope s__law_take, fun _ => true, fun x => gl__law_take.lookup x, 4000000⟩
def m__law_take : Sv := (sSeq (sIf (eTest (eOp2 (vCmp .Gt) (eOp2 vIx' (eVar 0) (eC (W.int 0))) (eC (W.int 0)))) (sSeq (sAsg (eOp2 vMod (eCallB bInt (eCons (eOp2 vIx' (eVar 0) (eC (W.int 0))) eNil)) (eVar 1)) (.nm 2))
  (sSeq (sSub (eOp2 vDiv (eOp2 vIx' (eVar 0) (eC (W.int 0))) (eVar 1)) (eVar 0) (eC (W.int 0)))
  (sSeq (sRet (eVar 2))
  sNx))) sNx)
  (sSeq (sSub (eOp2 vAdd (eOp2 vIx' (eVar 0) (eC (W.int 2))) (eC (W.int 1))) (eVar 0) (eC (W.int 2)))
  (sSeq (sAsg (eOp2 vIx' (eLst (eCons (eC (W.int 2147483647)) (eCons (eC (W.int 2147483629)) (eCons (eC (W.int 2147483587)) (eCons (eC (W.int 2147483579)) (eCons (eC (W.int 2147483563)) eNil)))))) (eOp2 vMod (eCallB bInt (eCons (eOp2 vIx' (eVar 0) (eC (W.int 2))) eNil)) (eC (W.int 5)))) (.nm 3))
  (sSeq (sAsg (eOp2 vMod (eCallB bInt (eCons (eOp2 vPow (eCallB bInt (eCons (eOp2 vAdd (eOp2 vAdd (eOp2 vIx' (eVar 0) (eC (W.int 1))) (eOp2 vMul (eOp2 vMul (eC (W.int 98257)) (eOp2 vIx' (eVar 0) (eC (W.int 2)))) (eOp2 vIx' (eVar 0) (eC (W.int 2))))) (eC (W.int 431))) eNil)) (eC (W.int 3))) eNil)) (eVar 3)) (.nm 4))
  (sSeq (sAsg (eOp2 vMod (eCallB bInt (eCons (eOp2 vMul (eVar 4) (eOp2 vAdd (eOp2 vMod (eCallB bInt (eCons (eVar 4) eNil)) (eC (W.int 10009))) (eOp2 vMul (eC (W.int 89)) (eOp2 vIx' (eVar 0) (eC (W.int 2)))))) eNil)) (eC (W.int 2305843009213693907))) (.nm 4))
  (sSeq (sRet (eOp2 vMod (eCallB bInt (eCons (eOp2 vDiv (eVar 4) (eC (W.int 173))) eNil)) (eVar 1)))
  sNx))))))
theorem m__law_take_eq : (dd 40).B cf__law_take (defBody s__law_take) = m__law_take := by kernel_rfl
def φ__law_take : List W → Store → Res W := runB 5 m__law_take
def d__law_take : He.DefD := ⟨("_law_take", none), "_law_take", "_law_take", defArgs s__law_take, defBody s__law_take, defScope s__law_take, [], []⟩
/-! ### _law_of -/
abbrev s__law_of : Stmt := top 29
def gl__law_of : List (Str × GV) := [("_law_take", .fn 2 φ__law_take []), ("len", .blt)]
def cf__law_of : Cfg := ⟨["pot", "some"], defScope s__law_of, fun _ => true, fun x => gl__law_of.lookup x, 4000000⟩
def m__law_of : Sv := (sSeq (sRet (eOp2 vIx' (eVar 1) (eCallF φ__law_take 2 (eCons (eVar 0) (eCons (eCallB bLen' (eCons (eVar 1) eNil)) eNil)))))
  sNx)
theorem m__law_of_eq : (dd 40).B cf__law_of (defBody s__law_of) = m__law_of := by kernel_rfl
def φ__law_of : List W → Store → Res W := runB 2 m__law_of
def d__law_of : He.DefD := ⟨("_law_of", none), "_law_of", "_law_of", defArgs s__law_of, defBody s__law_of, defScope s__law_of, [], []⟩
/-! ### _law_small_world -/
abbrev s__law_small_world : Stmt := top 39
def gl__law_small_world : List (Str × GV) := [("_law_of", .fn 2 φ__law_of []), ("_law_take", .fn 2 φ__law_take []), ("int", .blt)]
def cf__law_small_world : Cfg := ⟨["pot", "word", "n", "size", "ahead"], defScope s__law_small_world, fun _ => true, fun x => gl__law_small_world.lookup x, 4000000⟩
def m__law_small_world : Sv := (sSeq (sPar 1 2 (eCons (eCallF φ__law_of 2 (eCons (eVar 0) (eCons (eLst (eCons (eC (W.str "queue")) (eCons (eC (W.str "queue")) (eCons (eC (W.str "order")) (eCons (eC (W.str "any")) eNil))))) eNil))) (eCons (eOp2 vAdd (eC (W.int 1)) (eCallF φ__law_take 2 (eCons (eVar 0) (eCons (eC (W.int 4)) eNil)))) eNil)))
  (sSeq (sIf (eTest (eOp2 (vCmp .Eq) (eVar 1) (eC (W.str "queue")))) (sSeq (sAsg (eOp2 vAdd (eC (W.int 1)) (eCallF φ__law_take 2 (eCons (eVar 0) (eCons (eIf (eTest (eOp2 (vCmp .Eq) (eVar 2) (eC (W.int 2)))) (eC (W.int 2)) (eC (W.int 3))) eNil)))) (.nm 3))
  (sSeq (sAsg (eIf (eTest (eOp2 (vCmp .Eq) (eVar 2) (eC (W.int 1)))) (eC (W.int 0)) (eOp2 vDiv (eOp2 vSub (eOp2 vAdd (eVar 3) (eVar 2)) (eC (W.int 2))) (eOp2 vSub (eVar 2) (eC (W.int 1))))) (.nm 4))
  (sSeq (sRet (eTup (eCons (eTup (eCons (eVar 1) (eCons (eCallB bInt (eCons (eVar 2) eNil)) eNil))) (eCons (eCallB bInt (eCons (eVar 3) eNil)) (eCons (eCallB bInt (eCons (eOp2 vAdd (eVar 4) (eC (W.int 2))) eNil)) (eCons (eC (W.int 1)) eNil))))))
  sNx))) sNx)
  (sSeq (sIf (eTest (eOp2 (vCmp .Gt) (eVar 2) (eC (W.int 2)))) (sSeq (sRet (eTup (eCons (eTup (eCons (eVar 1) (eCons (eCallB bInt (eCons (eVar 2) eNil)) eNil))) (eCons (eOp2 vAdd (eC (W.int 1)) (eCallF φ__law_take 2 (eCons (eVar 0) (eCons (eC (W.int 3)) eNil)))) (eCons (eC (W.int 1)) (eCons (eC (W.int 0)) eNil))))))
  sNx) sNx)
  (sSeq (sRet (eTup (eCons (eTup (eCons (eVar 1) (eCons (eCallB bInt (eCons (eVar 2) eNil)) eNil))) (eCons (eOp2 vAdd (eC (W.int 1)) (eCallF φ__law_take 2 (eCons (eVar 0) (eCons (eIf (eTest (eOp2 (vCmp .Eq) (eVar 2) (eC (W.int 1)))) (eC (W.int 3)) (eC (W.int 2))) eNil)))) (eCons (eC (W.int 2)) (eCons (eC (W.int 1)) eNil))))))
  sNx))))
theorem m__law_small_world_eq : (dd 40).B cf__law_small_world (defBody s__law_small_world) = m__law_small_world := by kernel_rfl
def φ__law_small_world : List W → Store → Res W := runB 5 m__law_small_world
def d__law_small_world : He.DefD := ⟨("_law_small_world", none), "_law_small_world", "_law_small_world", defArgs s__law_small_world, defBody s__law_small_world, defScope s__law_small_world, [], []⟩
/-! ### _law_is_int -/
abbrev s__law_is_int : Stmt := top 31
def gl__law_is_int : List (Str × GV) := [("isinstance", .blt), ("int", .blt), ("bool", .blt)]
def cf__law_is_int : Cfg := ⟨["value", "least", "most"], defScope s__law_is_int, fun _ => true, fun x => gl__law_is_int.lookup x, 4000000⟩
def m__law_is_int : Sv := (sSeq (sRet (eAndV (eCallB bIsi (eCons (eVar 0) (eCons (eC (W.ty "int")) eNil))) (eAndV (eNotV (eCallB bIsi (eCons (eVar 0) (eCons (eC (W.ty "bool")) eNil)))) (eChain (vCmp .LtE) (vCmp .LtE) (eVar 1) (eVar 0) (eVar 2)))))
  sNx)
theorem m__law_is_int_eq : (dd 40).B cf__law_is_int (defBody s__law_is_int) = m__law_is_int := by kernel_rfl
def φ__law_is_int : List W → Store → Res W := runB 3 m__law_is_int
def d__law_is_int : He.DefD := ⟨("_law_is_int", none), "_law_is_int", "_law_is_int", defArgs s__law_is_int, defBody s__law_is_int, defScope s__law_is_int, [], []⟩
/-! ### _law_slot_delays -/
abbrev s__law_slot_delays : Stmt := top 32
def gl__law_slot_delays : List (Str × GV) := [("_law_is_int", .fn 3 φ__law_is_int []), ("max", .blt), ("range", .blt), ("int", .blt), ("isinstance", .blt), ("tuple", .blt), ("len", .blt), ("list", .blt)]
def cf__law_slot_delays : Cfg := ⟨["service", "packets", "slot", "value", "one", "delay", "at", "ahead"], defScope s__law_slot_delays, fun _ => true, fun x => gl__law_slot_delays.lookup x, 4000000⟩
def m__law_slot_delays : Sv := (sSeq (sIf (eTest (eOp2 (vCmp .Eq) (eOp2 vIx' (eVar 0) (eC (W.int 0))) (eC (W.str "queue")))) (sSeq (sIf (eNotT (eTru (eCallF φ__law_is_int 3 (eCons (eVar 3) (eCons (eC (W.int 0)) (eCons (eOp2 vIx' (eVar 0) (eC (W.int 1))) eNil)))))) (sSeq (sRet (eC W.non))
  sNx) sNx)
  (sSeq (sAsg (eCallB bMax (eCons (eOp2 vAdd (eLst (eCons (eC (W.int 0)) eNil)) (eLc (eIter (eSlice (eVar 1) (some (eOp1 vNeg (eC (W.int 1)))) none)) [4, 5] (.tup [(.nm 4), (.nm 5)]) eTrue (eOp2 vSub (eOp2 vAdd (eOp2 vAdd (eVar 4) (eVar 5)) (eC (W.int 1))) (eVar 2)))) eNil)) (.nm 7))
  (sSeq (sRet (eLc (mkRange1 (eCons (eVar 3) eNil)) [6] (.nm 6) eTrue (eCallB bInt (eCons (eOp2 vAdd (eVar 7) (eVar 6)) eNil))))
  sNx))) sNx)
  (sSeq (sIf (eOrT (eNotT (eTru (eCallB bIsi (eCons (eVar 3) (eCons (eC (W.ty "tuple")) eNil))))) (eTest (eOp2 (vCmp .Gt) (eCallB bLen' (eCons (eVar 3) eNil)) (eOp2 vIx' (eVar 0) (eC (W.int 1)))))) (sSeq (sRet (eC W.non))
  sNx) sNx)
  (sSeq (sRet (eCallB bList (eCons (eVar 3) eNil)))
  sNx)))
theorem m__law_slot_delays_eq : (dd 40).B cf__law_slot_delays (defBody s__law_slot_delays) = m__law_slot_delays := by kernel_rfl
def φ__law_slot_delays : List W → Store → Res W := runB 8 m__law_slot_delays
def d__law_slot_delays : He.DefD := ⟨("_law_slot_delays", none), "_law_slot_delays", "_law_slot_delays", defArgs s__law_slot_delays, defBody s__law_slot_delays, defScope s__law_slot_delays, [], []⟩
/-! ### _law_packets -/
abbrev s__law_packets : Stmt := top 34
def gl__law_packets : List (Str × GV) := [("enumerate", .blt), ("_law_slot_delays", .fn 4 φ__law_slot_delays []), ("int", .blt)]
def cf__law_packets : Cfg := ⟨["service", "script", "delay", "packets", "slot", "value"], defScope s__law_packets, fun _ => true, fun x => gl__law_packets.lookup x, 4000000⟩
def m__law_packets : Sv := (sSeq (sAsg (eLst eNil) (.nm 3))
  (sSeq (sFor (eEnum (eCons (eVar 1) eNil)) (.tup [(.nm 4), (.nm 5)]) (sSeq (sDrop (eMeth "extend" (eVar 3) (eCons (eLc (eIter (eCallF φ__law_slot_delays 4 (eCons (eVar 0) (eCons (eVar 3) (eCons (eVar 4) (eCons (eVar 5) eNil)))))) [2] (.nm 2) eTrue (eTup (eCons (eCallB bInt (eCons (eVar 4) eNil)) (eCons (eCallB bInt (eCons (eVar 2) eNil)) eNil)))) eNil)))
  sNx))
  (sSeq (sRet (eVar 3))
  sNx)))
theorem m__law_packets_eq : (dd 40).B cf__law_packets (defBody s__law_packets) = m__law_packets := by kernel_rfl
def φ__law_packets : List W → Store → Res W := runB 6 m__law_packets
def d__law_packets : He.DefD := ⟨("_law_packets", none), "_law_packets", "_law_packets", defArgs s__law_packets, defBody s__law_packets, defScope s__law_packets, [], []⟩
/-! ### _law_slot_values -/
abbrev s__law_slot_values : Stmt := top 37
def gl__law_slot_values : List (Str × GV) := [("range", .blt), ("int", .blt)]
def cf__law_slot_values : Cfg := ⟨["service", "size", "count", "delay", "found", "rows", "lap", "later", "row"], defScope s__law_slot_values, fun _ => true, fun x => gl__law_slot_values.lookup x, 4000000⟩
def m__law_slot_values : Sv := (sSeq (sIf (eTest (eOp2 (vCmp .Eq) (eOp2 vIx' (eVar 0) (eC (W.int 0))) (eC (W.str "queue")))) (sSeq (sRet (eLc (mkRange1 (eCons (eOp2 vAdd (eOp2 vIx' (eVar 0) (eC (W.int 1))) (eC (W.int 1))) eNil)) [2] (.nm 2) eTrue (eCallB bInt (eCons (eVar 2) eNil))))
  sNx) sNx)
  (sSeq (sPar 4 5 (eCons (eLst (eCons (eTup eNil) eNil)) (eCons (eLst (eCons (eTup eNil) eNil)) eNil)))
  (sSeq (sFor (mkRange1 (eCons (eOp2 vIx' (eVar 0) (eC (W.int 1))) eNil)) (.nm 6) (sSeq (sAsg (eLst eNil) (.nm 7))
  (sSeq (sFor (eIter (eVar 5)) (.nm 8) (sSeq (sDrop (eMeth "extend" (eVar 7) (eCons (eLc (mkRange1 (eCons (eOp2 vAdd (eVar 1) (eC (W.int 1))) eNil)) [3] (.nm 3) (eTest (eOp2 (vCmp .NotIn) (eVar 3) (eVar 8))) (eOp2 vAdd (eVar 8) (eTup (eCons (eCallB bInt (eCons (eVar 3) eNil)) eNil)))) eNil)))
  sNx))
  (sSeq (sPar 4 5 (eCons (eOp2 vAdd (eVar 4) (eVar 7)) (eCons (eVar 7) eNil)))
  sNx))))
  (sSeq (sRet (eVar 4))
  sNx))))
theorem m__law_slot_values_eq : (dd 40).B cf__law_slot_values (defBody s__law_slot_values) = m__law_slot_values := by kernel_rfl
def φ__law_slot_values : List W → Store → Res W := runB 9 m__law_slot_values
def d__law_slot_values : He.DefD := ⟨("_law_slot_values", none), "_law_slot_values", "_law_slot_values", defArgs s__law_slot_values, defBody s__law_slot_values, defScope s__law_slot_values, [], []⟩
/-! ### _law_can_stand -/
abbrev s__law_can_stand : Stmt := top 33
def gl__law_can_stand : List (Str × GV) := [("_law_slot_delays", .fn 4 φ__law_slot_delays []), ("all", .blt), ("_law_is_int", .fn 3 φ__law_is_int []), ("len", .blt), ("set", .blt), ("max", .blt), ("zip", .blt)]
def cf__law_can_stand : Cfg := ⟨["service", "size", "packets", "slot", "value", "delay", "one", "other", "delays", "before", "leaves", "last"], defScope s__law_can_stand, fun _ => true, fun x => gl__law_can_stand.lookup x, 4000000⟩
def m__law_can_stand : Sv := (sSeq (sAsg (eCallF φ__law_slot_delays 4 (eCons (eVar 0) (eCons (eVar 2) (eCons (eVar 3) (eCons (eVar 4) eNil))))) (.nm 8))
  (sSeq (sIf (eOrT (eTest (eOp2 (vCmp .Is) (eVar 8) (eC W.non))) (eNotT (eTru (eCallB (bAA fun bs => bs.all id) (eCons (eLc (eIter (eVar 8)) [5] (.nm 5) eTrue (eCallF φ__law_is_int 3 (eCons (eVar 5) (eCons (eC (W.int 0)) (eCons (eVar 1) eNil))))) eNil))))) (sSeq (sRet (eC (W.bl false)))
  sNx) sNx)
  (sSeq (sPar 9 10 (eCons (eLc (eIter (eVar 2)) [6, 5] (.tup [(.nm 6), (.nm 5)]) eTrue (eOp2 vAdd (eVar 6) (eVar 5))) (eCons (eLc (eIter (eVar 8)) [5] (.nm 5) eTrue (eOp2 vAdd (eVar 3) (eVar 5))) eNil)))
  (sSeq (sIf (eTest (eOp2 (vCmp .Eq) (eOp2 vIx' (eVar 0) (eC (W.int 0))) (eC (W.str "any")))) (sSeq (sRet (eOp2 (vCmp .Eq) (eLenSet (eOp2 vAdd (eVar 9) (eVar 10))) (eOp2 vAdd (eCallB bLen' (eCons (eVar 9) eNil)) (eCallB bLen' (eCons (eVar 10) eNil)))))
  sNx) sNx)
  (sSeq (sAsg (eCallB bMax (eCons (eOp2 vAdd (eLst (eCons (eOp1 vNeg (eC (W.int 1))) eNil)) (eVar 9)) eNil)) (.nm 11))
  (sSeq (sRet (eCallB (bAA fun bs => bs.all id) (eCons (eLc (eZip (eCons (eOp2 vAdd (eLst (eCons (eVar 11) eNil)) (eVar 10)) (eCons (eVar 10) eNil))) [6, 7] (.tup [(.nm 6), (.nm 7)]) eTrue (eOp2 (vCmp .Lt) (eVar 6) (eVar 7))) eNil)))
  sNx))))))
theorem m__law_can_stand_eq : (dd 40).B cf__law_can_stand (defBody s__law_can_stand) = m__law_can_stand := by kernel_rfl
def φ__law_can_stand : List W → Store → Res W := runB 12 m__law_can_stand
def d__law_can_stand : He.DefD := ⟨("_law_can_stand", none), "_law_can_stand", "_law_can_stand", defArgs s__law_can_stand, defBody s__law_can_stand, defScope s__law_can_stand, [], []⟩
/-! ### _law_all_scripts -/
abbrev s__law_all_scripts : Stmt := top 36
def gl__law_all_scripts : List (Str × GV) := [("range", .blt), ("_law_packets", .fn 2 φ__law_packets []), ("_law_slot_values", .fn 2 φ__law_slot_values []), ("_law_can_stand", .fn 5 φ__law_can_stand [])]
def cf__law_all_scripts : Cfg := ⟨["service", "size", "slots", "rows", "slot", "later", "script", "packets", "value"], defScope s__law_all_scripts, fun _ => true, fun x => gl__law_all_scripts.lookup x, 4000000⟩
def m__law_all_scripts : Sv := (sSeq (sAsg (eLst (eCons (eTup eNil) eNil)) (.nm 3))
  (sSeq (sFor (mkRange1 (eCons (eVar 2) eNil)) (.nm 4) (sSeq (sAsg (eLst eNil) (.nm 5))
  (sSeq (sFor (eIter (eVar 3)) (.nm 6) (sSeq (sAsg (eCallF φ__law_packets 2 (eCons (eVar 0) (eCons (eVar 6) eNil))) (.nm 7))
  (sSeq (sFor (eIter (eCallF φ__law_slot_values 2 (eCons (eVar 0) (eCons (eVar 1) eNil)))) (.nm 8) (sSeq (sIf (eTru (eCallF φ__law_can_stand 5 (eCons (eVar 0) (eCons (eVar 1) (eCons (eVar 7) (eCons (eVar 4) (eCons (eVar 8) eNil))))))) (sSeq (sDrop (eMeth "append" (eVar 5) (eCons (eOp2 vAdd (eVar 6) (eTup (eCons (eVar 8) eNil))) eNil)))
  sNx) sNx)
  sNx))
  sNx)))
  (sSeq (sAsg (eVar 5) (.nm 3))
  sNx))))
  (sSeq (sRet (eVar 3))
  sNx)))
theorem m__law_all_scripts_eq : (dd 40).B cf__law_all_scripts (defBody s__law_all_scripts) = m__law_all_scripts := by kernel_rfl
def φ__law_all_scripts : List W → Store → Res W := runB 9 m__law_all_scripts
def d__law_all_scripts : He.DefD := ⟨("_law_all_scripts", none), "_law_all_scripts", "_law_all_scripts", defArgs s__law_all_scripts, defBody s__law_all_scripts, defScope s__law_all_scripts, [], []⟩
/-! ### _law_pairs_in -/
abbrev s__law_pairs_in : Stmt := top 38
def gl__law_pairs_in : List (Str × GV) := [("enumerate", .blt), ("int", .blt)]
def cf__law_pairs_in : Cfg := ⟨["packets", "found", "at", "slot", "delay", "later", "other"], defScope s__law_pairs_in, fun _ => true, fun x => gl__law_pairs_in.lookup x, 4000000⟩
def m__law_pairs_in : Sv := (sSeq (sAsg eNewD (.nm 1))
  (sSeq (sFor (eEnum (eCons (eVar 0) eNil)) (.tup [(.nm 2), (.tup [(.nm 3), (.nm 4)])]) (sSeq (sFor (eIter (eSlice (eVar 0) (some (eOp2 vAdd (eVar 2) (eC (W.int 1)))) none)) (.tup [(.nm 5), (.nm 6)]) (sSeq (sSub (eC (W.bl true)) (eVar 1) (eTup (eCons (eCallB bInt (eCons (eVar 4) eNil)) (eCons (eCallB bInt (eCons (eVar 6) eNil)) (eCons (eCallB bInt (eCons (eOp2 vSub (eVar 5) (eVar 3)) eNil)) eNil)))))
  sNx))
  sNx))
  (sSeq (sRet (eVar 1))
  sNx)))
theorem m__law_pairs_in_eq : (dd 40).B cf__law_pairs_in (defBody s__law_pairs_in) = m__law_pairs_in := by kernel_rfl
def φ__law_pairs_in : List W → Store → Res W := runB 7 m__law_pairs_in
def d__law_pairs_in : He.DefD := ⟨("_law_pairs_in", none), "_law_pairs_in", "_law_pairs_in", defArgs s__law_pairs_in, defBody s__law_pairs_in, defScope s__law_pairs_in, [], []⟩
/-! ### is_integer -/
abbrev s_is_integer : Stmt := top 6
def gl_is_integer : List (Str × GV) := [("isinstance", .blt), ("int", .blt), ("bool", .blt)]
def cf_is_integer : Cfg := ⟨["value"], defScope s_is_integer, fun _ => true, fun x => gl_is_integer.lookup x, 4000000⟩
def m_is_integer : Sv := (sSeq (sRet (eAndV (eCallB bIsi (eCons (eVar 0) (eCons (eC (W.ty "int")) eNil))) (eNotV (eCallB bIsi (eCons (eVar 0) (eCons (eC (W.ty "bool")) eNil))))))
  sNx)
theorem m_is_integer_eq : (dd 40).B cf_is_integer (defBody s_is_integer) = m_is_integer := by kernel_rfl
def φ_is_integer : List W → Store → Res W := runB 1 m_is_integer
def d_is_integer : He.DefD := ⟨("is_integer", none), "is_integer", "is_integer", defArgs s_is_integer, defBody s_is_integer, defScope s_is_integer, [], []⟩
/-! ### is_within -/
abbrev s_is_within : Stmt := top 7
def gl_is_within : List (Str × GV) := [("is_integer", .fn 1 φ_is_integer [])]
def cf_is_within : Cfg := ⟨["value", "least", "most"], defScope s_is_within, fun _ => true, fun x => gl_is_within.lookup x, 4000000⟩
def m_is_within : Sv := (sSeq (sRet (eAndV (eCallF φ_is_integer 1 (eCons (eVar 0) eNil)) (eChain (vCmp .LtE) (vCmp .LtE) (eVar 1) (eVar 0) (eVar 2))))
  sNx)
theorem m_is_within_eq : (dd 40).B cf_is_within (defBody s_is_within) = m_is_within := by kernel_rfl
def φ_is_within : List W → Store → Res W := runB 3 m_is_within
def d_is_within : He.DefD := ⟨("is_within", none), "is_within", "is_within", defArgs s_is_within, defBody s_is_within, defScope s_is_within, [], []⟩
/-! ### is_service -/
abbrev s_is_service : Stmt := top 16
def gl_is_service : List (Str × GV) := [("isinstance", .blt), ("tuple", .blt), ("len", .blt), ("PAIR", .con (W.int 2)), ("str", .blt), ("WORDS", .con (W.tup [(W.str "queue"), (W.str "order"), (W.str "any")])), ("is_within", .fn 3 φ_is_within []), ("MOST_COME", .con (W.int 4))]
def cf_is_service : Cfg := ⟨["value"], defScope s_is_service, fun _ => true, fun x => gl_is_service.lookup x, 4000000⟩
def m_is_service : Sv := (sSeq (sIf (eOrT (eNotT (eTru (eCallB bIsi (eCons (eVar 0) (eCons (eC (W.ty "tuple")) eNil))))) (eOrT (eTest (eOp2 (vCmp .NotEq) (eCallB bLen' (eCons (eVar 0) eNil)) (eC (W.int 2)))) (eOrT (eNotT (eTru (eCallB bIsi (eCons (eOp2 vIx' (eVar 0) (eC (W.int 0))) (eCons (eC (W.ty "str")) eNil))))) (eTest (eOp2 (vCmp .NotIn) (eOp2 vIx' (eVar 0) (eC (W.int 0))) (eC (W.tup [(W.str "queue"), (W.str "order"), (W.str "any")]))))))) (sSeq (sRet (eC (W.bl false)))
  sNx) sNx)
  (sSeq (sRet (eCallF φ_is_within 3 (eCons (eOp2 vIx' (eVar 0) (eC (W.int 1))) (eCons (eC (W.int 1)) (eCons (eC (W.int 4)) eNil)))))
  sNx))
theorem m_is_service_eq : (dd 40).B cf_is_service (defBody s_is_service) = m_is_service := by kernel_rfl
def φ_is_service : List W → Store → Res W := runB 1 m_is_service
def d_is_service : He.DefD := ⟨("is_service", none), "is_service", "is_service", defArgs s_is_service, defBody s_is_service, defScope s_is_service, [], []⟩
/-! ### check_service -/
abbrev s_check_service : Stmt := top 17
def gl_check_service : List (Str × GV) := [("is_service", .fn 1 φ_is_service [])]
def cf_check_service : Cfg := ⟨["service"], defScope s_check_service, fun _ => true, fun x => gl_check_service.lookup x, 4000000⟩
def m_check_service : Sv := (sSeq (sIf (eNotT (eTru (eCallF φ_is_service 1 (eCons (eVar 0) eNil)))) (sSeq sErr
  sNx) sNx)
  sNx)
theorem m_check_service_eq : (dd 40).B cf_check_service (defBody s_check_service) = m_check_service := by kernel_rfl
def φ_check_service : List W → Store → Res W := runB 1 m_check_service
def d_check_service : He.DefD := ⟨("check_service", none), "check_service", "check_service", defArgs s_check_service, defBody s_check_service, defScope s_check_service, [], []⟩
/-! ### check_size -/
abbrev s_check_size : Stmt := top 18
def gl_check_size : List (Str × GV) := [("is_within", .fn 3 φ_is_within []), ("MOST_SIZE", .con (W.int 400))]
def cf_check_size : Cfg := ⟨["size"], defScope s_check_size, fun _ => true, fun x => gl_check_size.lookup x, 4000000⟩
def m_check_size : Sv := (sSeq (sIf (eNotT (eTru (eCallF φ_is_within 3 (eCons (eVar 0) (eCons (eC (W.int 0)) (eCons (eC (W.int 400)) eNil)))))) (sSeq sErr
  sNx) sNx)
  sNx)
theorem m_check_size_eq : (dd 40).B cf_check_size (defBody s_check_size) = m_check_size := by kernel_rfl
def φ_check_size : List W → Store → Res W := runB 1 m_check_size
def d_check_size : He.DefD := ⟨("check_size", none), "check_size", "check_size", defArgs s_check_size, defBody s_check_size, defScope s_check_size, [], []⟩
/-! ### check_pair -/
abbrev s_check_pair : Stmt := top 22
def gl_check_pair : List (Str × GV) := [("isinstance", .blt), ("tuple", .blt), ("len", .blt), ("TRIPLE", .con (W.int 3)), ("all", .blt), ("is_within", .fn 3 φ_is_within []), ("MOST_SLOTS_BEHIND", .con (W.int 400))]
def cf_check_pair : Cfg := ⟨["pair", "size", "delay"], defScope s_check_pair, fun _ => true, fun x => gl_check_pair.lookup x, 4000000⟩
def m_check_pair : Sv := (sSeq (sIf (eOrT (eNotT (eTru (eCallB bIsi (eCons (eVar 0) (eCons (eC (W.ty "tuple")) eNil))))) (eTest (eOp2 (vCmp .NotEq) (eCallB bLen' (eCons (eVar 0) eNil)) (eC (W.int 3))))) (sSeq sErr
  sNx) sNx)
  (sSeq (sIf (eOrT (eNotT (eTru (eCallB (bAA fun bs => bs.all id) (eCons (eLc (eIter (eSlice (eVar 0) none (some (eOp1 vNeg (eC (W.int 1)))))) [2] (.nm 2) eTrue (eCallF φ_is_within 3 (eCons (eVar 2) (eCons (eC (W.int 0)) (eCons (eVar 1) eNil))))) eNil)))) (eNotT (eTru (eCallF φ_is_within 3 (eCons (eOp2 vIx' (eVar 0) (eOp1 vNeg (eC (W.int 1)))) (eCons (eC (W.int 0)) (eCons (eC (W.int 400)) eNil))))))) (sSeq sErr
  sNx) sNx)
  sNx))
theorem m_check_pair_eq : (dd 40).B cf_check_pair (defBody s_check_pair) = m_check_pair := by kernel_rfl
def φ_check_pair : List W → Store → Res W := runB 3 m_check_pair
def d_check_pair : He.DefD := ⟨("check_pair", none), "check_pair", "check_pair", defArgs s_check_pair, defBody s_check_pair, defScope s_check_pair, [], []⟩
/-! ### gap_of -/
abbrev s_gap_of : Stmt := top 23
def gl_gap_of : List (Str × GV) := []
def cf_gap_of : Cfg := ⟨["pair", "ahead", "behind", "slots"], defScope s_gap_of, fun _ => true, fun x => gl_gap_of.lookup x, 4000000⟩
def m_gap_of : Sv := (sSeq (sAsg (eVar 0) (.tup [(.nm 1), (.nm 2), (.nm 3)]))
  (sSeq (sRet (eOp2 vSub (eOp2 vAdd (eVar 3) (eVar 2)) (eVar 1)))
  sNx))
theorem m_gap_of_eq : (dd 40).B cf_gap_of (defBody s_gap_of) = m_gap_of := by kernel_rfl
def φ_gap_of : List W → Store → Res W := runB 4 m_gap_of
def d_gap_of : He.DefD := ⟨("gap_of", none), "gap_of", "gap_of", defArgs s_gap_of, defBody s_gap_of, defScope s_gap_of, [], []⟩
/-! ### is_possible -/
abbrev s_is_possible : Stmt := top 24
def gl_is_possible : List (Str × GV) := [("gap_of", .fn 1 φ_gap_of []), ("QUEUE", .con (W.str "queue")), ("ORDER", .con (W.str "order"))]
def cf_is_possible : Cfg := ⟨["service", "pair", "word", "many", "ahead", "behind", "slots", "gap"], defScope s_is_possible, fun _ => true, fun x => gl_is_possible.lookup x, 4000000⟩
def m_is_possible : Sv := (sSeq (sAsg (eVar 0) (.tup [(.nm 2), (.nm 3)]))
  (sSeq (sAsg (eVar 1) (.tup [(.nm 4), (.nm 5), (.nm 6)]))
  (sSeq (sAsg (eCallF φ_gap_of 1 (eCons (eVar 1) eNil)) (.nm 7))
  (sSeq (sIf (eAndT (eTest (eOp2 (vCmp .Eq) (eVar 3) (eC (W.int 1)))) (eTest (eOp2 (vCmp .Eq) (eVar 6) (eC (W.int 0))))) (sSeq (sRet (eC (W.bl false)))
  sNx) sNx)
  (sSeq (sIf (eTest (eOp2 (vCmp .NotEq) (eVar 2) (eC (W.str "queue")))) (sSeq (sRet (eIf (eTest (eOp2 (vCmp .Eq) (eVar 2) (eC (W.str "order")))) (eOp2 (vCmp .GtE) (eVar 7) (eC (W.int 1))) (eOp2 (vCmp .NotEq) (eVar 7) (eC (W.int 0)))))
  sNx) sNx)
  (sSeq (sIf (eTest (eOp2 (vCmp .Eq) (eVar 3) (eC (W.int 1)))) (sSeq (sRet (eChain (vCmp .Eq) (vCmp .Eq) (eVar 4) (eVar 5) (eC (W.int 0))))
  sNx) sNx)
  (sSeq (sRet (eChain (vCmp .LtE) (vCmp .LtE) (eC (W.int 1)) (eVar 7) (eOp2 vSub (eOp2 vAdd (eOp2 vMul (eVar 3) (eVar 6)) (eVar 3)) (eC (W.int 1)))))
  sNx)))))))
theorem m_is_possible_eq : (dd 40).B cf_is_possible (defBody s_is_possible) = m_is_possible := by kernel_rfl
def φ_is_possible : List W → Store → Res W := runB 8 m_is_possible
def d_is_possible : He.DefD := ⟨("is_possible", none), "is_possible", "is_possible", defArgs s_is_possible, defBody s_is_possible, defScope s_is_possible, [], []⟩
/-! ### can_be -/
abbrev s_can_be : Stmt := top 25
def gl_can_be : List (Str × GV) := [("check_service", .fn 1 φ_check_service []), ("check_size", .fn 1 φ_check_size []), ("check_pair", .fn 2 φ_check_pair []), ("is_possible", .fn 2 φ_is_possible [])]
def cf_can_be : Cfg := ⟨["service", "size", "pair"], defScope s_can_be, fun _ => true, fun x => gl_can_be.lookup x, 4000000⟩
def m_can_be : Sv := (sSeq (sDrop (eCallF φ_check_service 1 (eCons (eVar 0) eNil)))
  (sSeq (sDrop (eCallF φ_check_size 1 (eCons (eVar 1) eNil)))
  (sSeq (sDrop (eCallF φ_check_pair 2 (eCons (eVar 2) (eCons (eVar 1) eNil))))
  (sSeq (sRet (eCallF φ_is_possible 2 (eCons (eVar 0) (eCons (eVar 2) eNil))))
  sNx))))
theorem m_can_be_eq : (dd 40).B cf_can_be (defBody s_can_be) = m_can_be := by kernel_rfl
def φ_can_be : List W → Store → Res W := runB 3 m_can_be
def d_can_be : He.DefD := ⟨("can_be", none), "can_be", "can_be", defArgs s_can_be, defBody s_can_be, defScope s_can_be, [], []⟩
/-! ### _law_can_be -/
abbrev s__law_can_be : Stmt := top 35
def gl__law_can_be : List (Str × GV) := [("max", .blt)]
def cf__law_can_be : Cfg := ⟨["service", "size", "pair", "x", "y", "d", "word", "n", "gap"], defScope s__law_can_be, fun _ => true, fun x => gl__law_can_be.lookup x, 4000000⟩
def m__law_can_be : Sv := (sSeq (sAsg (eVar 2) (.tup [(.nm 3), (.nm 4), (.nm 5)]))
  (sSeq (sAsg (eVar 0) (.tup [(.nm 6), (.nm 7)]))
  (sSeq (sIf (eOrT (eTest (eOp2 (vCmp .Gt) (eCallB bMax (eCons (eVar 3) (eCons (eVar 4) eNil))) (eVar 1))) (eAndT (eTest (eOp2 (vCmp .Eq) (eVar 7) (eC (W.int 1)))) (eTest (eOp2 (vCmp .Eq) (eVar 5) (eC (W.int 0)))))) (sSeq (sRet (eC (W.bl false)))
  sNx) sNx)
  (sSeq (sAsg (eOp2 vSub (eOp2 vAdd (eVar 5) (eVar 4)) (eVar 3)) (.nm 8))
  (sSeq (sIf (eTest (eOp2 (vCmp .Eq) (eVar 6) (eC (W.str "any")))) (sSeq (sRet (eOp2 (vCmp .NotEq) (eVar 8) (eC (W.int 0))))
  sNx) sNx)
  (sSeq (sIf (eTest (eOp2 (vCmp .Eq) (eVar 6) (eC (W.str "order")))) (sSeq (sRet (eOp2 (vCmp .GtE) (eVar 8) (eC (W.int 1))))
  sNx) sNx)
  (sSeq (sRet (eIf (eTest (eOp2 (vCmp .Eq) (eVar 7) (eC (W.int 1)))) (eAndV (eOp2 (vCmp .Eq) (eVar 3) (eC (W.int 0))) (eOp2 (vCmp .Eq) (eVar 4) (eC (W.int 0)))) (eChain (vCmp .LtE) (vCmp .LtE) (eC (W.int 1)) (eVar 8) (eOp2 vSub (eOp2 vAdd (eOp2 vMul (eVar 7) (eVar 5)) (eVar 7)) (eC (W.int 1))))))
  sNx)))))))
theorem m__law_can_be_eq : (dd 40).B cf__law_can_be (defBody s__law_can_be) = m__law_can_be := by kernel_rfl
def φ__law_can_be : List W → Store → Res W := runB 9 m__law_can_be
def d__law_can_be : He.DefD := ⟨("_law_can_be", none), "_law_can_be", "_law_can_be", defArgs s__law_can_be, defBody s__law_can_be, defScope s__law_can_be, [], []⟩
/-! ### _law_right -/
abbrev s__law_right : Stmt := top 40
def gl__law_right : List (Str × GV) := [("range", .blt), ("_law_small_world", .fn 1 φ__law_small_world []), ("_law_all_scripts", .fn 3 φ__law_all_scripts []), ("_law_pairs_in", .fn 1 φ__law_pairs_in []), ("_law_packets", .fn 2 φ__law_packets []), ("repr", .blt), ("can_be", .fn 3 φ_can_be [(0, ["pair", "service", "size"], [1, 2, 0])]), ("int", .blt), ("_law_take", .fn 2 φ__law_take []), ("max", .blt), ("min", .blt), ("_law_of", .fn 2 φ__law_of []), ("_law_can_be", .fn 3 φ__law_can_be [])]
def cf__law_right : Cfg := ⟨["pot", "lap", "service", "size", "slots", "most", "shown", "script", "x", "y", "d", "turn", "near", "due"], defScope s__law_right, fun _ => true, fun x => gl__law_right.lookup x, 4000000⟩
def m__law_right : Sv := (sSeq (sFor (mkRange1 (eCons (eC (W.int 3)) eNil)) (.nm 1) (sSeq (sAsg (eCallF φ__law_small_world 1 (eCons (eVar 0) eNil)) (.tup [(.nm 2), (.nm 3), (.nm 4), (.nm 5)]))
  (sSeq (sAsg eNewD (.nm 6))
  (sSeq (sFor (eIter (eCallF φ__law_all_scripts 3 (eCons (eVar 2) (eCons (eVar 3) (eCons (eVar 4) eNil))))) (.nm 7) (sSeq (sDrop (eMeth "update" (eVar 6) (eCons (eCallF φ__law_pairs_in 1 (eCons (eCallF φ__law_packets 2 (eCons (eVar 2) (eCons (eVar 7) eNil))) eNil)) eNil)))
  sNx))
  (sSeq (sFor (mkRange1 (eCons (eOp2 vAdd (eVar 3) (eC (W.int 1))) eNil)) (.nm 8) (sSeq (sFor (mkRange1 (eCons (eOp2 vAdd (eVar 3) (eC (W.int 1))) eNil)) (.nm 9) (sSeq (sFor (mkRange1 (eCons (eOp2 vAdd (eVar 5) (eC (W.int 1))) eNil)) (.nm 10) (sSeq (sIf (eTest (eOp2 (vCmp .NotEq) (eCallB bRepr (eCons (eCallF φ_can_be 3 (eCons (eVar 2) (eCons (eCallB bInt (eCons (eVar 3) eNil)) (eCons (eTup (eCons (eVar 8) (eCons (eVar 9) (eCons (eVar 10) eNil)))) eNil)))) eNil)) (eCallB bRepr (eCons (eOp2 (vCmp .In) (eTup (eCons (eVar 8) (eCons (eVar 9) (eCons (eVar 10) eNil)))) (eVar 6)) eNil)))) (sSeq (sRet (eC (W.bl false)))
  sNx) sNx)
  sNx))
  sNx))
  sNx))
  (sSeq (sAsg (eCallB bInt (eCons (eOp2 vAdd (eVar 3) (eCallF φ__law_take 2 (eCons (eVar 0) (eCons (eC (W.int 60)) eNil)))) eNil)) (.nm 3))
  (sSeq (sFor (mkRange1 (eCons (eC (W.int 12)) eNil)) (.nm 11) (sSeq (sPar 8 9 (eCons (eCallF φ__law_take 2 (eCons (eVar 0) (eCons (eOp2 vAdd (eVar 3) (eC (W.int 1))) eNil))) (eCons (eCallF φ__law_take 2 (eCons (eVar 0) (eCons (eOp2 vAdd (eVar 3) (eC (W.int 1))) eNil))) eNil)))
  (sSeq (sAsg (eCallB bMax (eCons (eC (W.int 0)) (eCons (eOp2 vSub (eOp2 vAdd (eOp2 vSub (eVar 8) (eVar 9)) (eCallF φ__law_take 2 (eCons (eVar 0) (eCons (eC (W.int 7)) eNil)))) (eC (W.int 3))) eNil))) (.nm 12))
  (sSeq (sAsg (eCallB bMin (eCons (eC (W.int 400)) (eCons (eCallB bInt (eCons (eCallF φ__law_of 2 (eCons (eVar 0) (eCons (eLst (eCons (eVar 12) (eCons (eVar 12) (eCons (eCallF φ__law_take 2 (eCons (eVar 0) (eCons (eOp2 vAdd (eVar 3) (eC (W.int 2))) eNil))) (eCons (eC (W.int 400)) (eCons (eC (W.int 0)) eNil)))))) eNil))) eNil)) eNil))) (.nm 10))
  (sSeq (sAsg (eCallF φ__law_can_be 3 (eCons (eVar 2) (eCons (eVar 3) (eCons (eTup (eCons (eVar 8) (eCons (eVar 9) (eCons (eVar 10) eNil)))) eNil)))) (.nm 13))
  (sSeq (sIf (eTest (eOp2 (vCmp .NotEq) (eCallB bRepr (eCons (eCallK φ_can_be 3 0 3 [1, 2, 0] eNil (eCons (eTup (eCons (eCallB bInt (eCons (eVar 8) eNil)) (eCons (eCallB bInt (eCons (eVar 9) eNil)) (eCons (eVar 10) eNil)))) (eCons (eVar 2) (eCons (eVar 3) eNil)))) eNil)) (eCallB bRepr (eCons (eVar 13) eNil)))) (sSeq (sRet (eC (W.bl false)))
  sNx) sNx)
  sNx))))))
  sNx)))))))
  (sSeq (sRet (eC (W.bl true)))
  sNx))
theorem m__law_right_eq : (dd 40).B cf__law_right (defBody s__law_right) = m__law_right := by kernel_rfl
def φ__law_right : List W → Store → Res W := runB 14 m__law_right
def d__law_right : He.DefD := ⟨("_law_right", none), "_law_right", "_law_right", defArgs s__law_right, defBody s__law_right, defScope s__law_right, [], []⟩
/-! ### _law_pot -/
abbrev s__law_pot : Stmt := top 27
def gl__law_pot : List (Str × GV) := [("len", .blt), ("sum", .blt), ("int", .blt), ("abs", .blt)]
def cf__law_pot : Cfg := ⟨["script", "place", "cell", "own", "small"], defScope s__law_pot, fun _ => true, fun x => gl__law_pot.lookup x, 4000000⟩
def m__law_pot : Sv := (sSeq (sAsg (eIf (eTest (eOp2 (vCmp .Lt) (eVar 1) (eCallB bLen' (eCons (eVar 0) eNil)))) (eOp2 vIx' (eVar 0) (eVar 1)) (eOp2 vAdd (eOp2 vAdd (eOp2 vMod (eCallB (bFold fun ns => some ns.sum) (eCons (eSlice (eVar 0) none (some (eC (W.int 1)))) eNil)) (eC (W.int 1000003))) (eOp2 vMul (eC (W.int 1241)) (eVar 1))) (eC (W.int 563)))) (.nm 2))
  (sSeq (sAsg (eOp2 vMul (eOp2 vMod (eCallB bInt (eCons (eCallB bAbs (eCons (eVar 2) eNil)) eNil)) (eOp2 vPow (eOp2 vPow (eC (W.int 10)) (eC (W.int 60))) (eC (W.int 5)))) (eCallB bInt (eCons (eOp2 (vCmp .GtE) (eCallB bAbs (eCons (eVar 2) eNil)) (eOp2 vPow (eC (W.int 10)) (eC (W.int 18)))) eNil))) (.nm 3))
  (sSeq (sAsg (eOp2 vMod (eCallB bInt (eCons (eVar 2) eNil)) (eC (W.int 2305843009213693951))) (.nm 4))
  (sSeq (sRet (eLst (eCons (eVar 3) (eCons (eOp2 vMod (eCallB bInt (eCons (eOp2 vAdd (eOp2 vAdd (eOp2 vMul (eVar 4) (eC (W.int 74561))) (eOp2 vMul (eOp2 vMul (eC (W.int 8247)) (eVar 1)) (eVar 1))) (eC (W.int 533))) eNil)) (eC (W.int 2305843009213693921))) (eCons (eC (W.int 0)) eNil)))))
  sNx))))
theorem m__law_pot_eq : (dd 40).B cf__law_pot (defBody s__law_pot) = m__law_pot := by kernel_rfl
def φ__law_pot : List W → Store → Res W := runB 5 m__law_pot
def d__law_pot : He.DefD := ⟨("_law_pot", none), "_law_pot", "_law_pot", defArgs s__law_pot, defBody s__law_pot, defScope s__law_pot, [], []⟩
/-! ### law -/
abbrev s_law : Stmt := top 41
def gl_law : List (Str × GV) := [("all", .blt), ("_law_cells", .fn 2 φ__law_cells []), ("_law_right", .fn 1 φ__law_right []), ("_law_pot", .fn 2 φ__law_pot [])]
def cf_law : Cfg := ⟨["script", "place"], defScope s_law, fun _ => true, fun x => gl_law.lookup x, 4000000⟩
def m_law : Sv := (sSeq (sRet (eCallB (bAA fun bs => bs.all id) (eCons (eLc (eIter (eCallF φ__law_cells 2 (eCons (eVar 0) (eCons (eC (W.int 2)) eNil)))) [1] (.nm 1) eTrue (eCallF φ__law_right 1 (eCons (eCallF φ__law_pot 2 (eCons (eVar 0) (eCons (eVar 1) eNil))) eNil))) eNil)))
  sNx)
theorem m_law_eq : (dd 40).B cf_law (defBody s_law) = m_law := by kernel_rfl
def φ_law : List W → Store → Res W := runB 2 m_law
def d_law : He.DefD := ⟨("law", none), "law", "law", defArgs s_law, defBody s_law, defScope s_law, [], []⟩
def fn : List He.DefD := [d__law_cells, d__law_take, d__law_of, d__law_small_world, d__law_is_int, d__law_slot_delays, d__law_packets, d__law_slot_values, d__law_can_stand, d__law_all_scripts, d__law_pairs_in, d_is_integer, d_is_within, d_is_service, d_check_service, d_check_size, d_check_pair, d_gap_of, d_is_possible, d_can_be, d__law_can_be, d__law_right, d__law_pot, d_law]
theorem sc__law_cells : FnScope cf__law_cells.N ["script", "most"] (defScope s__law_cells) := ⟨by kernel_rfl, by kernel_rfl, by kernel_rfl, by decide +kernel, by kernel_rfl, by decide +kernel, by decide +kernel⟩
theorem sc__law_take : FnScope cf__law_take.N ["pot", "upto"] (defScope s__law_take) := ⟨by kernel_rfl, by kernel_rfl, by kernel_rfl, by decide +kernel, by kernel_rfl, by decide +kernel, by decide +kernel⟩
theorem sc__law_of : FnScope cf__law_of.N ["pot", "some"] (defScope s__law_of) := ⟨by kernel_rfl, by kernel_rfl, by kernel_rfl, by decide +kernel, by kernel_rfl, by decide +kernel, by decide +kernel⟩
theorem sc__law_small_world : FnScope cf__law_small_world.N ["pot"] (defScope s__law_small_world) := ⟨by kernel_rfl, by kernel_rfl, by kernel_rfl, by decide +kernel, by kernel_rfl, by decide +kernel, by decide +kernel⟩
theorem sc__law_is_int : FnScope cf__law_is_int.N ["value", "least", "most"] (defScope s__law_is_int) := ⟨by kernel_rfl, by kernel_rfl, by kernel_rfl, by decide +kernel, by kernel_rfl, by decide +kernel, by decide +kernel⟩
theorem sc__law_slot_delays : FnScope cf__law_slot_delays.N ["service", "packets", "slot", "value"] (defScope s__law_slot_delays) := ⟨by kernel_rfl, by kernel_rfl, by kernel_rfl, by decide +kernel, by kernel_rfl, by decide +kernel, by decide +kernel⟩
theorem sc__law_packets : FnScope cf__law_packets.N ["service", "script"] (defScope s__law_packets) := ⟨by kernel_rfl, by kernel_rfl, by kernel_rfl, by decide +kernel, by kernel_rfl, by decide +kernel, by decide +kernel⟩
theorem sc__law_slot_values : FnScope cf__law_slot_values.N ["service", "size"] (defScope s__law_slot_values) := ⟨by kernel_rfl, by kernel_rfl, by kernel_rfl, by decide +kernel, by kernel_rfl, by decide +kernel, by decide +kernel⟩
theorem sc__law_can_stand : FnScope cf__law_can_stand.N ["service", "size", "packets", "slot", "value"] (defScope s__law_can_stand) := ⟨by kernel_rfl, by kernel_rfl, by kernel_rfl, by decide +kernel, by kernel_rfl, by decide +kernel, by decide +kernel⟩
theorem sc__law_all_scripts : FnScope cf__law_all_scripts.N ["service", "size", "slots"] (defScope s__law_all_scripts) := ⟨by kernel_rfl, by kernel_rfl, by kernel_rfl, by decide +kernel, by kernel_rfl, by decide +kernel, by decide +kernel⟩
theorem sc__law_pairs_in : FnScope cf__law_pairs_in.N ["packets"] (defScope s__law_pairs_in) := ⟨by kernel_rfl, by kernel_rfl, by kernel_rfl, by decide +kernel, by kernel_rfl, by decide +kernel, by decide +kernel⟩
theorem sc_is_integer : FnScope cf_is_integer.N ["value"] (defScope s_is_integer) := ⟨by kernel_rfl, by kernel_rfl, by kernel_rfl, by decide +kernel, by kernel_rfl, by decide +kernel, by decide +kernel⟩
theorem sc_is_within : FnScope cf_is_within.N ["value", "least", "most"] (defScope s_is_within) := ⟨by kernel_rfl, by kernel_rfl, by kernel_rfl, by decide +kernel, by kernel_rfl, by decide +kernel, by decide +kernel⟩
theorem sc_is_service : FnScope cf_is_service.N ["value"] (defScope s_is_service) := ⟨by kernel_rfl, by kernel_rfl, by kernel_rfl, by decide +kernel, by kernel_rfl, by decide +kernel, by decide +kernel⟩
theorem sc_check_service : FnScope cf_check_service.N ["service"] (defScope s_check_service) := ⟨by kernel_rfl, by kernel_rfl, by kernel_rfl, by decide +kernel, by kernel_rfl, by decide +kernel, by decide +kernel⟩
theorem sc_check_size : FnScope cf_check_size.N ["size"] (defScope s_check_size) := ⟨by kernel_rfl, by kernel_rfl, by kernel_rfl, by decide +kernel, by kernel_rfl, by decide +kernel, by decide +kernel⟩
theorem sc_check_pair : FnScope cf_check_pair.N ["pair", "size"] (defScope s_check_pair) := ⟨by kernel_rfl, by kernel_rfl, by kernel_rfl, by decide +kernel, by kernel_rfl, by decide +kernel, by decide +kernel⟩
theorem sc_gap_of : FnScope cf_gap_of.N ["pair"] (defScope s_gap_of) := ⟨by kernel_rfl, by kernel_rfl, by kernel_rfl, by decide +kernel, by kernel_rfl, by decide +kernel, by decide +kernel⟩
theorem sc_is_possible : FnScope cf_is_possible.N ["service", "pair"] (defScope s_is_possible) := ⟨by kernel_rfl, by kernel_rfl, by kernel_rfl, by decide +kernel, by kernel_rfl, by decide +kernel, by decide +kernel⟩
theorem sc_can_be : FnScope cf_can_be.N ["service", "size", "pair"] (defScope s_can_be) := ⟨by kernel_rfl, by kernel_rfl, by kernel_rfl, by decide +kernel, by kernel_rfl, by decide +kernel, by decide +kernel⟩
theorem sc__law_can_be : FnScope cf__law_can_be.N ["service", "size", "pair"] (defScope s__law_can_be) := ⟨by kernel_rfl, by kernel_rfl, by kernel_rfl, by decide +kernel, by kernel_rfl, by decide +kernel, by decide +kernel⟩
theorem sc__law_right : FnScope cf__law_right.N ["pot"] (defScope s__law_right) := ⟨by kernel_rfl, by kernel_rfl, by kernel_rfl, by decide +kernel, by kernel_rfl, by decide +kernel, by decide +kernel⟩
theorem sc__law_pot : FnScope cf__law_pot.N ["script", "place"] (defScope s__law_pot) := ⟨by kernel_rfl, by kernel_rfl, by kernel_rfl, by decide +kernel, by kernel_rfl, by decide +kernel, by decide +kernel⟩
theorem sc_law : FnScope cf_law.N ["script"] (defScope s_law) := ⟨by kernel_rfl, by kernel_rfl, by kernel_rfl, by decide +kernel, by kernel_rfl, by decide +kernel, by decide +kernel⟩
section
variable {P : Program} {w : World} {K : PySem.W.Frag} {h : Heap} {mg : Str → Option Value} {base : Heap}
theorem ok__law_cells (X : K.In h) (N : h.Ns mainGlobals mg) (sd : He.SaysD fa fn K) (ex : tupsB tups K = true) : GlT ⟨K, fun _ => none⟩ P w K mg base 1 "_law_cells" (.fn 2 φ__law_cells []) := by
  have gs : GAll (GlT ⟨K, fun _ => none⟩ P w K mg base 0) gl__law_cells := ⟨He.free_ok X N (sd.fact 32 rfl), He.free_ok X N (sd.fact 33 rfl), He.free_ok X N (sd.fact 34 rfl), He.free_ok X N (sd.fact 35 rfl), He.free_ok X N (sd.fact 36 rfl), trivial⟩
  have e := def_ok (P := P) (w := w) (base := base) (G := ⟨K, fun _ => none⟩) (n := 40) (ps := ["script", "most"]) (kws := []) rfl X N sd (i := 0) (j := 20) (x := "_law_cells") (d := d__law_cells) rfl rfl rfl rfl rfl cf__law_cells rfl sc__law_cells gs.look (fun _ _ _ _ _ _ us hl => match us, hl with | [_, _], _ => rfl) (fun q hq => by cases hq)
  rw [show (dd 40).B cf__law_cells d__law_cells.body = m__law_cells from m__law_cells_eq] at e
  exact e
theorem ok__law_take (X : K.In h) (N : h.Ns mainGlobals mg) (sd : He.SaysD fa fn K) (ex : tupsB tups K = true) : GlT ⟨K, fun _ => none⟩ P w K mg base 1 "_law_take" (.fn 2 φ__law_take []) := by
  have gs : GAll (GlT ⟨K, fun _ => none⟩ P w K mg base 0) gl__law_take := ⟨He.free_ok X N (sd.fact 37 rfl), trivial⟩
  have e := def_ok (P := P) (w := w) (base := base) (G := ⟨K, fun _ => none⟩) (n := 40) (ps := ["pot", "upto"]) (kws := []) rfl X N sd (i := 1) (j := 0) (x := "_law_take") (d := d__law_take) rfl rfl rfl rfl rfl cf__law_take rfl sc__law_take gs.look (fun _ _ _ _ _ _ us hl => match us, hl with | [_, _], _ => rfl) (fun q hq => by cases hq)
  rw [show (dd 40).B cf__law_take d__law_take.body = m__law_take from m__law_take_eq] at e
  exact e
theorem ok__law_of (X : K.In h) (N : h.Ns mainGlobals mg) (sd : He.SaysD fa fn K) (ex : tupsB tups K = true) : GlT ⟨K, fun _ => none⟩ P w K mg base 2 "_law_of" (.fn 2 φ__law_of []) := by
  have gs : GAll (GlT ⟨K, fun _ => none⟩ P w K mg base 1) gl__law_of := ⟨(ok__law_take X N sd ex).mono (by decide), He.free_ok X N (sd.fact 36 rfl), trivial⟩
  have e := def_ok (P := P) (w := w) (base := base) (G := ⟨K, fun _ => none⟩) (n := 40) (ps := ["pot", "some"]) (kws := []) rfl X N sd (i := 2) (j := 1) (x := "_law_of") (d := d__law_of) rfl rfl rfl rfl rfl cf__law_of rfl sc__law_of gs.look (fun _ _ _ _ _ _ us hl => match us, hl with | [_, _], _ => rfl) (fun q hq => by cases hq)
  rw [show (dd 40).B cf__law_of d__law_of.body = m__law_of from m__law_of_eq] at e
  exact e
theorem ok__law_small_world (X : K.In h) (N : h.Ns mainGlobals mg) (sd : He.SaysD fa fn K) (ex : tupsB tups K = true) : GlT ⟨K, fun _ => none⟩ P w K mg base 3 "_law_small_world" (.fn 1 φ__law_small_world []) := by
  have gs : GAll (GlT ⟨K, fun _ => none⟩ P w K mg base 2) gl__law_small_world := ⟨(ok__law_of X N sd ex).mono (by decide), (ok__law_take X N sd ex).mono (by decide), He.free_ok X N (sd.fact 37 rfl), trivial⟩
  have e := def_ok (P := P) (w := w) (base := base) (G := ⟨K, fun _ => none⟩) (n := 40) (ps := ["pot"]) (kws := []) rfl X N sd (i := 3) (j := 15) (x := "_law_small_world") (d := d__law_small_world) rfl rfl rfl rfl rfl cf__law_small_world rfl sc__law_small_world gs.look (fun _ _ _ _ _ _ us hl => match us, hl with | [_], _ => rfl) (fun q hq => by cases hq)
  rw [show (dd 40).B cf__law_small_world d__law_small_world.body = m__law_small_world from m__law_small_world_eq] at e
  exact e
theorem ok__law_is_int (X : K.In h) (N : h.Ns mainGlobals mg) (sd : He.SaysD fa fn K) (ex : tupsB tups K = true) : GlT ⟨K, fun _ => none⟩ P w K mg base 1 "_law_is_int" (.fn 3 φ__law_is_int []) := by
  have gs : GAll (GlT ⟨K, fun _ => none⟩ P w K mg base 0) gl__law_is_int := ⟨He.free_ok X N (sd.fact 38 rfl), He.free_ok X N (sd.fact 37 rfl), He.free_ok X N (sd.fact 39 rfl), trivial⟩
  have e := def_ok (P := P) (w := w) (base := base) (G := ⟨K, fun _ => none⟩) (n := 40) (ps := ["value", "least", "most"]) (kws := []) rfl X N sd (i := 4) (j := 2) (x := "_law_is_int") (d := d__law_is_int) rfl rfl rfl rfl rfl cf__law_is_int rfl sc__law_is_int gs.look (fun _ _ _ _ _ _ us hl => match us, hl with | [_, _, _], _ => rfl) (fun q hq => by cases hq)
  rw [show (dd 40).B cf__law_is_int d__law_is_int.body = m__law_is_int from m__law_is_int_eq] at e
  exact e
theorem ok__law_slot_delays (X : K.In h) (N : h.Ns mainGlobals mg) (sd : He.SaysD fa fn K) (ex : tupsB tups K = true) : GlT ⟨K, fun _ => none⟩ P w K mg base 2 "_law_slot_delays" (.fn 4 φ__law_slot_delays []) := by
  have gs : GAll (GlT ⟨K, fun _ => none⟩ P w K mg base 1) gl__law_slot_delays := ⟨(ok__law_is_int X N sd ex).mono (by decide), He.free_ok X N (sd.fact 34 rfl), He.free_ok X N (sd.fact 33 rfl), He.free_ok X N (sd.fact 37 rfl), He.free_ok X N (sd.fact 38 rfl), He.free_ok X N (sd.fact 40 rfl), He.free_ok X N (sd.fact 36 rfl), He.free_ok X N (sd.fact 32 rfl), trivial⟩
  have e := def_ok (P := P) (w := w) (base := base) (G := ⟨K, fun _ => none⟩) (n := 40) (ps := ["service", "packets", "slot", "value"]) (kws := []) rfl X N sd (i := 5) (j := 3) (x := "_law_slot_delays") (d := d__law_slot_delays) rfl rfl rfl rfl rfl cf__law_slot_delays rfl sc__law_slot_delays gs.look (fun _ _ _ _ _ _ us hl => match us, hl with | [_, _, _, _], _ => rfl) (fun q hq => by cases hq)
  rw [show (dd 40).B cf__law_slot_delays d__law_slot_delays.body = m__law_slot_delays from m__law_slot_delays_eq] at e
  exact e
theorem ok__law_packets (X : K.In h) (N : h.Ns mainGlobals mg) (sd : He.SaysD fa fn K) (ex : tupsB tups K = true) : GlT ⟨K, fun _ => none⟩ P w K mg base 3 "_law_packets" (.fn 2 φ__law_packets []) := by
  have gs : GAll (GlT ⟨K, fun _ => none⟩ P w K mg base 2) gl__law_packets := ⟨He.free_ok X N (sd.fact 41 rfl), (ok__law_slot_delays X N sd ex).mono (by decide), He.free_ok X N (sd.fact 37 rfl), trivial⟩
  have e := def_ok (P := P) (w := w) (base := base) (G := ⟨K, fun _ => none⟩) (n := 40) (ps := ["service", "script"]) (kws := []) rfl X N sd (i := 6) (j := 4) (x := "_law_packets") (d := d__law_packets) rfl rfl rfl rfl rfl cf__law_packets rfl sc__law_packets gs.look (fun _ _ _ _ _ _ us hl => match us, hl with | [_, _], _ => rfl) (fun q hq => by cases hq)
  rw [show (dd 40).B cf__law_packets d__law_packets.body = m__law_packets from m__law_packets_eq] at e
  exact e
theorem ok__law_slot_values (X : K.In h) (N : h.Ns mainGlobals mg) (sd : He.SaysD fa fn K) (ex : tupsB tups K = true) : GlT ⟨K, fun _ => none⟩ P w K mg base 1 "_law_slot_values" (.fn 2 φ__law_slot_values []) := by
  have gs : GAll (GlT ⟨K, fun _ => none⟩ P w K mg base 0) gl__law_slot_values := ⟨He.free_ok X N (sd.fact 33 rfl), He.free_ok X N (sd.fact 37 rfl), trivial⟩
  have e := def_ok (P := P) (w := w) (base := base) (G := ⟨K, fun _ => none⟩) (n := 40) (ps := ["service", "size"]) (kws := []) rfl X N sd (i := 7) (j := 5) (x := "_law_slot_values") (d := d__law_slot_values) rfl rfl rfl rfl rfl cf__law_slot_values rfl sc__law_slot_values gs.look (fun _ _ _ _ _ _ us hl => match us, hl with | [_, _], _ => rfl) (fun q hq => by cases hq)
  rw [show (dd 40).B cf__law_slot_values d__law_slot_values.body = m__law_slot_values from m__law_slot_values_eq] at e
  exact e
theorem ok__law_can_stand (X : K.In h) (N : h.Ns mainGlobals mg) (sd : He.SaysD fa fn K) (ex : tupsB tups K = true) : GlT ⟨K, fun _ => none⟩ P w K mg base 3 "_law_can_stand" (.fn 5 φ__law_can_stand []) := by
  have gs : GAll (GlT ⟨K, fun _ => none⟩ P w K mg base 2) gl__law_can_stand := ⟨(ok__law_slot_delays X N sd ex).mono (by decide), He.free_ok X N (sd.fact 42 rfl), (ok__law_is_int X N sd ex).mono (by decide), He.free_ok X N (sd.fact 36 rfl), He.free_ok X N (sd.fact 43 rfl), He.free_ok X N (sd.fact 34 rfl), He.free_ok X N (sd.fact 44 rfl), trivial⟩
  have e := def_ok (P := P) (w := w) (base := base) (G := ⟨K, fun _ => none⟩) (n := 40) (ps := ["service", "size", "packets", "slot", "value"]) (kws := []) rfl X N sd (i := 8) (j := 6) (x := "_law_can_stand") (d := d__law_can_stand) rfl rfl rfl rfl rfl cf__law_can_stand rfl sc__law_can_stand gs.look (fun _ _ _ _ _ _ us hl => match us, hl with | [_, _, _, _, _], _ => rfl) (fun q hq => by cases hq)
  rw [show (dd 40).B cf__law_can_stand d__law_can_stand.body = m__law_can_stand from m__law_can_stand_eq] at e
  exact e
theorem ok__law_all_scripts (X : K.In h) (N : h.Ns mainGlobals mg) (sd : He.SaysD fa fn K) (ex : tupsB tups K = true) : GlT ⟨K, fun _ => none⟩ P w K mg base 4 "_law_all_scripts" (.fn 3 φ__law_all_scripts []) := by
  have gs : GAll (GlT ⟨K, fun _ => none⟩ P w K mg base 3) gl__law_all_scripts := ⟨He.free_ok X N (sd.fact 33 rfl), (ok__law_packets X N sd ex).mono (by decide), (ok__law_slot_values X N sd ex).mono (by decide), (ok__law_can_stand X N sd ex).mono (by decide), trivial⟩
  have e := def_ok (P := P) (w := w) (base := base) (G := ⟨K, fun _ => none⟩) (n := 40) (ps := ["service", "size", "slots"]) (kws := []) rfl X N sd (i := 9) (j := 16) (x := "_law_all_scripts") (d := d__law_all_scripts) rfl rfl rfl rfl rfl cf__law_all_scripts rfl sc__law_all_scripts gs.look (fun _ _ _ _ _ _ us hl => match us, hl with | [_, _, _], _ => rfl) (fun q hq => by cases hq)
  rw [show (dd 40).B cf__law_all_scripts d__law_all_scripts.body = m__law_all_scripts from m__law_all_scripts_eq] at e
  exact e
theorem ok__law_pairs_in (X : K.In h) (N : h.Ns mainGlobals mg) (sd : He.SaysD fa fn K) (ex : tupsB tups K = true) : GlT ⟨K, fun _ => none⟩ P w K mg base 1 "_law_pairs_in" (.fn 1 φ__law_pairs_in []) := by
  have gs : GAll (GlT ⟨K, fun _ => none⟩ P w K mg base 0) gl__law_pairs_in := ⟨He.free_ok X N (sd.fact 41 rfl), He.free_ok X N (sd.fact 37 rfl), trivial⟩
  have e := def_ok (P := P) (w := w) (base := base) (G := ⟨K, fun _ => none⟩) (n := 40) (ps := ["packets"]) (kws := []) rfl X N sd (i := 10) (j := 17) (x := "_law_pairs_in") (d := d__law_pairs_in) rfl rfl rfl rfl rfl cf__law_pairs_in rfl sc__law_pairs_in gs.look (fun _ _ _ _ _ _ us hl => match us, hl with | [_], _ => rfl) (fun q hq => by cases hq)
  rw [show (dd 40).B cf__law_pairs_in d__law_pairs_in.body = m__law_pairs_in from m__law_pairs_in_eq] at e
  exact e
theorem ok_is_integer (X : K.In h) (N : h.Ns mainGlobals mg) (sd : He.SaysD fa fn K) (ex : tupsB tups K = true) : GlT ⟨K, fun _ => none⟩ P w K mg base 1 "is_integer" (.fn 1 φ_is_integer []) := by
  have gs : GAll (GlT ⟨K, fun _ => none⟩ P w K mg base 0) gl_is_integer := ⟨He.free_ok X N (sd.fact 38 rfl), He.free_ok X N (sd.fact 37 rfl), He.free_ok X N (sd.fact 39 rfl), trivial⟩
  have e := def_ok (P := P) (w := w) (base := base) (G := ⟨K, fun _ => none⟩) (n := 40) (ps := ["value"]) (kws := []) rfl X N sd (i := 11) (j := 7) (x := "is_integer") (d := d_is_integer) rfl rfl rfl rfl rfl cf_is_integer rfl sc_is_integer gs.look (fun _ _ _ _ _ _ us hl => match us, hl with | [_], _ => rfl) (fun q hq => by cases hq)
  rw [show (dd 40).B cf_is_integer d_is_integer.body = m_is_integer from m_is_integer_eq] at e
  exact e
theorem ok_is_within (X : K.In h) (N : h.Ns mainGlobals mg) (sd : He.SaysD fa fn K) (ex : tupsB tups K = true) : GlT ⟨K, fun _ => none⟩ P w K mg base 2 "is_within" (.fn 3 φ_is_within []) := by
  have gs : GAll (GlT ⟨K, fun _ => none⟩ P w K mg base 1) gl_is_within := ⟨(ok_is_integer X N sd ex).mono (by decide), trivial⟩
  have e := def_ok (P := P) (w := w) (base := base) (G := ⟨K, fun _ => none⟩) (n := 40) (ps := ["value", "least", "most"]) (kws := []) rfl X N sd (i := 12) (j := 8) (x := "is_within") (d := d_is_within) rfl rfl rfl rfl rfl cf_is_within rfl sc_is_within gs.look (fun _ _ _ _ _ _ us hl => match us, hl with | [_, _, _], _ => rfl) (fun q hq => by cases hq)
  rw [show (dd 40).B cf_is_within d_is_within.body = m_is_within from m_is_within_eq] at e
  exact e
theorem ok_is_service (X : K.In h) (N : h.Ns mainGlobals mg) (sd : He.SaysD fa fn K) (ex : tupsB tups K = true) : GlT ⟨K, fun _ => none⟩ P w K mg base 3 "is_service" (.fn 1 φ_is_service []) := by
  have gs : GAll (GlT ⟨K, fun _ => none⟩ P w K mg base 2) gl_is_service := ⟨He.free_ok X N (sd.fact 38 rfl), He.free_ok X N (sd.fact 40 rfl), He.free_ok X N (sd.fact 36 rfl), gl_int X N (sd.fact 24 rfl), He.free_ok X N (sd.fact 45 rfl), gl_tup rfl X N (sd.fact 25 rfl) (tups_ok ex 0 rfl) (by decide +kernel) rfl, (ok_is_within X N sd ex).mono (by decide), gl_int X N (sd.fact 26 rfl), trivial⟩
  have e := def_ok (P := P) (w := w) (base := base) (G := ⟨K, fun _ => none⟩) (n := 40) (ps := ["value"]) (kws := []) rfl X N sd (i := 13) (j := 9) (x := "is_service") (d := d_is_service) rfl rfl rfl rfl rfl cf_is_service rfl sc_is_service gs.look (fun _ _ _ _ _ _ us hl => match us, hl with | [_], _ => rfl) (fun q hq => by cases hq)
  rw [show (dd 40).B cf_is_service d_is_service.body = m_is_service from m_is_service_eq] at e
  exact e
theorem ok_check_service (X : K.In h) (N : h.Ns mainGlobals mg) (sd : He.SaysD fa fn K) (ex : tupsB tups K = true) : GlT ⟨K, fun _ => none⟩ P w K mg base 4 "check_service" (.fn 1 φ_check_service []) := by
  have gs : GAll (GlT ⟨K, fun _ => none⟩ P w K mg base 3) gl_check_service := ⟨(ok_is_service X N sd ex).mono (by decide), trivial⟩
  have e := def_ok (P := P) (w := w) (base := base) (G := ⟨K, fun _ => none⟩) (n := 40) (ps := ["service"]) (kws := []) rfl X N sd (i := 14) (j := 11) (x := "check_service") (d := d_check_service) rfl rfl rfl rfl rfl cf_check_service rfl sc_check_service gs.look (fun _ _ _ _ _ _ us hl => match us, hl with | [_], _ => rfl) (fun q hq => by cases hq)
  rw [show (dd 40).B cf_check_service d_check_service.body = m_check_service from m_check_service_eq] at e
  exact e
theorem ok_check_size (X : K.In h) (N : h.Ns mainGlobals mg) (sd : He.SaysD fa fn K) (ex : tupsB tups K = true) : GlT ⟨K, fun _ => none⟩ P w K mg base 3 "check_size" (.fn 1 φ_check_size []) := by
  have gs : GAll (GlT ⟨K, fun _ => none⟩ P w K mg base 2) gl_check_size := ⟨(ok_is_within X N sd ex).mono (by decide), gl_int X N (sd.fact 27 rfl), trivial⟩
  have e := def_ok (P := P) (w := w) (base := base) (G := ⟨K, fun _ => none⟩) (n := 40) (ps := ["size"]) (kws := []) rfl X N sd (i := 15) (j := 12) (x := "check_size") (d := d_check_size) rfl rfl rfl rfl rfl cf_check_size rfl sc_check_size gs.look (fun _ _ _ _ _ _ us hl => match us, hl with | [_], _ => rfl) (fun q hq => by cases hq)
  rw [show (dd 40).B cf_check_size d_check_size.body = m_check_size from m_check_size_eq] at e
  exact e
theorem ok_check_pair (X : K.In h) (N : h.Ns mainGlobals mg) (sd : He.SaysD fa fn K) (ex : tupsB tups K = true) : GlT ⟨K, fun _ => none⟩ P w K mg base 3 "check_pair" (.fn 2 φ_check_pair []) := by
  have gs : GAll (GlT ⟨K, fun _ => none⟩ P w K mg base 2) gl_check_pair := ⟨He.free_ok X N (sd.fact 38 rfl), He.free_ok X N (sd.fact 40 rfl), He.free_ok X N (sd.fact 36 rfl), gl_int X N (sd.fact 28 rfl), He.free_ok X N (sd.fact 42 rfl), (ok_is_within X N sd ex).mono (by decide), gl_int X N (sd.fact 29 rfl), trivial⟩
  have e := def_ok (P := P) (w := w) (base := base) (G := ⟨K, fun _ => none⟩) (n := 40) (ps := ["pair", "size"]) (kws := []) rfl X N sd (i := 16) (j := 13) (x := "check_pair") (d := d_check_pair) rfl rfl rfl rfl rfl cf_check_pair rfl sc_check_pair gs.look (fun _ _ _ _ _ _ us hl => match us, hl with | [_, _], _ => rfl) (fun q hq => by cases hq)
  rw [show (dd 40).B cf_check_pair d_check_pair.body = m_check_pair from m_check_pair_eq] at e
  exact e
theorem ok_gap_of (X : K.In h) (N : h.Ns mainGlobals mg) (sd : He.SaysD fa fn K) (ex : tupsB tups K = true) : GlT ⟨K, fun _ => none⟩ P w K mg base 1 "gap_of" (.fn 1 φ_gap_of []) := by
  have gs : GAll (GlT ⟨K, fun _ => none⟩ P w K mg base 0) gl_gap_of := trivial
  have e := def_ok (P := P) (w := w) (base := base) (G := ⟨K, fun _ => none⟩) (n := 40) (ps := ["pair"]) (kws := []) rfl X N sd (i := 17) (j := 10) (x := "gap_of") (d := d_gap_of) rfl rfl rfl rfl rfl cf_gap_of rfl sc_gap_of gs.look (fun _ _ _ _ _ _ us hl => match us, hl with | [_], _ => rfl) (fun q hq => by cases hq)
  rw [show (dd 40).B cf_gap_of d_gap_of.body = m_gap_of from m_gap_of_eq] at e
  exact e
theorem ok_is_possible (X : K.In h) (N : h.Ns mainGlobals mg) (sd : He.SaysD fa fn K) (ex : tupsB tups K = true) : GlT ⟨K, fun _ => none⟩ P w K mg base 2 "is_possible" (.fn 2 φ_is_possible []) := by
  have gs : GAll (GlT ⟨K, fun _ => none⟩ P w K mg base 1) gl_is_possible := ⟨(ok_gap_of X N sd ex).mono (by decide), gl_str X N (sd.fact 30 rfl), gl_str X N (sd.fact 31 rfl), trivial⟩
  have e := def_ok (P := P) (w := w) (base := base) (G := ⟨K, fun _ => none⟩) (n := 40) (ps := ["service", "pair"]) (kws := []) rfl X N sd (i := 18) (j := 14) (x := "is_possible") (d := d_is_possible) rfl rfl rfl rfl rfl cf_is_possible rfl sc_is_possible gs.look (fun _ _ _ _ _ _ us hl => match us, hl with | [_, _], _ => rfl) (fun q hq => by cases hq)
  rw [show (dd 40).B cf_is_possible d_is_possible.body = m_is_possible from m_is_possible_eq] at e
  exact e
theorem ok_can_be (X : K.In h) (N : h.Ns mainGlobals mg) (sd : He.SaysD fa fn K) (ex : tupsB tups K = true) : GlT ⟨K, fun _ => none⟩ P w K mg base 5 "can_be" (.fn 3 φ_can_be [(0, ["pair", "service", "size"], [1, 2, 0])]) := by
  have gs : GAll (GlT ⟨K, fun _ => none⟩ P w K mg base 4) gl_can_be := ⟨(ok_check_service X N sd ex).mono (by decide), (ok_check_size X N sd ex).mono (by decide), (ok_check_pair X N sd ex).mono (by decide), (ok_is_possible X N sd ex).mono (by decide), trivial⟩
  have e := def_ok (P := P) (w := w) (base := base) (G := ⟨K, fun _ => none⟩) (n := 40) (ps := ["service", "size", "pair"]) (kws := [(0, ["pair", "service", "size"], [1, 2, 0])]) rfl X N sd (i := 19) (j := 18) (x := "can_be") (d := d_can_be) rfl rfl rfl rfl rfl cf_can_be rfl sc_can_be gs.look (fun _ _ _ _ _ _ us hl => match us, hl with | [_, _, _], _ => rfl) (by
    intro q hq
    simp only [List.mem_cons, List.mem_nil_iff, or_false] at hq
    rcases hq with rfl
    · intro kV doc pm an cdv ct us ws l1 l2
      match us, l1, ws, l2 with
      | [], _, [_, _, _], _ => rfl)
  rw [show (dd 40).B cf_can_be d_can_be.body = m_can_be from m_can_be_eq] at e
  exact e
theorem ok__law_can_be (X : K.In h) (N : h.Ns mainGlobals mg) (sd : He.SaysD fa fn K) (ex : tupsB tups K = true) : GlT ⟨K, fun _ => none⟩ P w K mg base 1 "_law_can_be" (.fn 3 φ__law_can_be []) := by
  have gs : GAll (GlT ⟨K, fun _ => none⟩ P w K mg base 0) gl__law_can_be := ⟨He.free_ok X N (sd.fact 34 rfl), trivial⟩
  have e := def_ok (P := P) (w := w) (base := base) (G := ⟨K, fun _ => none⟩) (n := 40) (ps := ["service", "size", "pair"]) (kws := []) rfl X N sd (i := 20) (j := 19) (x := "_law_can_be") (d := d__law_can_be) rfl rfl rfl rfl rfl cf__law_can_be rfl sc__law_can_be gs.look (fun _ _ _ _ _ _ us hl => match us, hl with | [_, _, _], _ => rfl) (fun q hq => by cases hq)
  rw [show (dd 40).B cf__law_can_be d__law_can_be.body = m__law_can_be from m__law_can_be_eq] at e
  exact e
theorem ok__law_right (X : K.In h) (N : h.Ns mainGlobals mg) (sd : He.SaysD fa fn K) (ex : tupsB tups K = true) : GlT ⟨K, fun _ => none⟩ P w K mg base 6 "_law_right" (.fn 1 φ__law_right []) := by
  have gs : GAll (GlT ⟨K, fun _ => none⟩ P w K mg base 5) gl__law_right := ⟨He.free_ok X N (sd.fact 33 rfl), (ok__law_small_world X N sd ex).mono (by decide), (ok__law_all_scripts X N sd ex).mono (by decide), (ok__law_pairs_in X N sd ex).mono (by decide), (ok__law_packets X N sd ex).mono (by decide), He.free_ok X N (sd.fact 46 rfl), (ok_can_be X N sd ex).mono (by decide), He.free_ok X N (sd.fact 37 rfl), (ok__law_take X N sd ex).mono (by decide), He.free_ok X N (sd.fact 34 rfl), He.free_ok X N (sd.fact 35 rfl), (ok__law_of X N sd ex).mono (by decide), (ok__law_can_be X N sd ex).mono (by decide), trivial⟩
  have e := def_ok (P := P) (w := w) (base := base) (G := ⟨K, fun _ => none⟩) (n := 40) (ps := ["pot"]) (kws := []) rfl X N sd (i := 21) (j := 21) (x := "_law_right") (d := d__law_right) rfl rfl rfl rfl rfl cf__law_right rfl sc__law_right gs.look (fun _ _ _ _ _ _ us hl => match us, hl with | [_], _ => rfl) (fun q hq => by cases hq)
  rw [show (dd 40).B cf__law_right d__law_right.body = m__law_right from m__law_right_eq] at e
  exact e
theorem ok__law_pot (X : K.In h) (N : h.Ns mainGlobals mg) (sd : He.SaysD fa fn K) (ex : tupsB tups K = true) : GlT ⟨K, fun _ => none⟩ P w K mg base 1 "_law_pot" (.fn 2 φ__law_pot []) := by
  have gs : GAll (GlT ⟨K, fun _ => none⟩ P w K mg base 0) gl__law_pot := ⟨He.free_ok X N (sd.fact 36 rfl), He.free_ok X N (sd.fact 47 rfl), He.free_ok X N (sd.fact 37 rfl), He.free_ok X N (sd.fact 48 rfl), trivial⟩
  have e := def_ok (P := P) (w := w) (base := base) (G := ⟨K, fun _ => none⟩) (n := 40) (ps := ["script", "place"]) (kws := []) rfl X N sd (i := 22) (j := 22) (x := "_law_pot") (d := d__law_pot) rfl rfl rfl rfl rfl cf__law_pot rfl sc__law_pot gs.look (fun _ _ _ _ _ _ us hl => match us, hl with | [_, _], _ => rfl) (fun q hq => by cases hq)
  rw [show (dd 40).B cf__law_pot d__law_pot.body = m__law_pot from m__law_pot_eq] at e
  exact e
theorem ok_law (X : K.In h) (N : h.Ns mainGlobals mg) (sd : He.SaysD fa fn K) (ex : tupsB tups K = true) : GlT ⟨K, fun _ => none⟩ P w K mg base 7 "law" (.fn 1 φ_law []) := by
  have gs : GAll (GlT ⟨K, fun _ => none⟩ P w K mg base 6) gl_law := ⟨He.free_ok X N (sd.fact 42 rfl), (ok__law_cells X N sd ex).mono (by decide), (ok__law_right X N sd ex).mono (by decide), (ok__law_pot X N sd ex).mono (by decide), trivial⟩
  have e := def_ok (P := P) (w := w) (base := base) (G := ⟨K, fun _ => none⟩) (n := 40) (ps := ["script"]) (kws := []) rfl X N sd (i := 23) (j := 23) (x := "law") (d := d_law) rfl rfl rfl rfl rfl cf_law rfl sc_law gs.look (fun _ _ _ _ _ _ us hl => match us, hl with | [_], _ => rfl) (fun q hq => by cases hq)
  rw [show (dd 40).B cf_law d_law.body = m_law from m_law_eq] at e
  exact e
end
abbrev hk : PySem.W.Hook := hookE 4 fa fn (tupsB tups)
def ob (s : PySem.W.SharedT) : He.AlD × Bool := obsE 4 fa fn (tupsB tups) (HandSHeadRun.getT s)
theorem ob_eq (s : PySem.W.SharedT) : ob s = hk.obs s.abs := obsE_eq (HandSHeadRun.getT_eq s)
def loose : List PySem.Str := (["LoopError", "BadService", "BadSize", "BadPair", "is_integer", "is_within", "QUEUE", "ORDER", "ANY", "WORDS", "PAIR", "MOST_COME", "MOST_SIZE", "is_service", "check_service", "check_size", "TRIPLE", "MOST_SLOTS_BEHIND", "check_pair", "gap_of", "is_possible", "can_be", "_law_pot", "_law_take", "_law_of", "_law_cells", "_law_is_int", "_law_slot_delays", "_law_can_stand", "_law_packets"] : List PySem.Str) ++ (["_law_can_be", "_law_all_scripts", "_law_slot_values", "_law_pairs_in", "_law_small_world", "_law_right"] : List PySem.Str)
theorem run (w : World) : HandSHeadRun.RunEq Rr (PySem.W.view Rr.prog [41]) hk ob 4000 loose w := by
  intro os
  kernel_rfl
theorem facts (hlaw : ∀ ns : List Int, ns.length ≤ 63 → ∃ s, φ_law [.fl (ns.map W.int)] st0 = .ok (.bl true) s) {P : Program} {w : World} {K : PySem.W.Frag} {h : Heap} {mg : Str → Option Value} {f : Addr} (X : K.In h) (N : h.Ns mainGlobals mg) (hfa : mg ("law" : Str) = some (.ref f)) (sd : He.SaysD fa fn K) (ex : tupsB tups K = true) :
    ∃ (fd : FuncData) (sp : Sp), (∀ (s : Shared) (v : Value), BindsTo s fd ⟨[v], []⟩ [("script", v)]) ∧ (∀ (H : Hp) (a : Addr) (ns : List Int), ns.length ≤ 63 → Only H → SqL K H a (ns.map V.int) → sp [.ref a] H (fun v _ => v = .bl true) fun _ _ _ => False) ∧ ∀ base : Heap, FnOk P w K mg base L2.CX0 7 f fd ["script"] sp := by
  obtain ⟨fd, F⟩ := sd.def_ 23 (d := d_law) rfl
  have b := FunD.bindsA (ps := ["script"]) F fun _ _ _ _ _ _ us hl => match us, hl with | [_], _ => rfl
  have e := hfa.symm.trans (He.glo_ok X N (sd.fact 23 rfl))
  cases e
  refine ⟨fd, fun vs H Q _ => SpI ⟨K, fun _ => none⟩ φ_law 1 vs H Q L2.E0, fun s v => b s [v] rfl, fun H a ns hn hO hS => sp_law hO hS (hlaw ns hn), fun base => ?_⟩
  have gs : GAll (GlT ⟨K, fun _ => none⟩ P w K mg base 6) gl_law := ⟨He.free_ok X N (sd.fact 42 rfl), (ok__law_cells X N sd ex).mono (by decide), (ok__law_right X N sd ex).mono (by decide), (ok__law_pot X N sd ex).mono (by decide), trivial⟩
  have q := fn_ok (P := P) (w := w) (base := base) (G := ⟨K, fun _ => none⟩) rfl F cf_law rfl sc_law gs.look 40
  rw [show (dd 40).B cf_law d_law.body = m_law from m_law_eq] at q
  exact quiet_ok q
end K16
section
open PySem PySem.W PySem.Calls PyProof.Rows
theorem holds_of (hlaw : ∀ ns : List Int, ns.length ≤ 63 → ∃ s, K16.φ_law [.fl (ns.map Q.W.int)] Q.st0 = .ok (.bl true) s) : PySem.Challenge.rw_queueloops_k16_whole_pairs_that_can_be.Holds := by
  w_on; o_law
  refine HandSHeadRun.head_any (r := OpenLaw.row PySem.Challenge.rw_queueloops_k16_whole_pairs_that_can_be) (q := view (OpenLaw.row PySem.Challenge.rw_queueloops_k16_whole_pairs_that_can_be).prog [41]) (H := K16.hk) (ob := K16.ob) (M := 4000) (loose := K16.loose) (d := HandSHeadRun.topDef (OpenLaw.row PySem.Challenge.rw_queueloops_k16_whole_pairs_that_can_be).prog 41) (kwd := []) K16.ob_eq
    (by kernel_rfl) (fun s => by kernel_rfl) K16.run (by kernel_rfl) (by kernel_rfl) (by kernel_rfl) (by rfl) (by first | assumption | decide +kernel) (by decide +kernel) ⟨rfl, rfl, rfl, rfl, rfl, by decide +kernel⟩ ?hw ?hc
  case hw => w_witness2
  case hc =>
    refine L2.walk_ofE (l := PySem.Challenge.rw_queueloops_k16_whole_pairs_that_can_be) (n := 63) (k := 7) (x := "script") (CX := L2.CX0) rfl (by decide) (by kernel_rfl) ⟨rfl, by decide, by decide⟩ ?F (fun _ _ _ _ z => z)
    case F =>
      intro w mg fa h Y G hmg0
      obtain ⟨K, KX, c, ex⟩ := Y
      have hmg : mg ("law" : PySem.Str) = some (.ref fa) := by
        have e : (HandSHeadRun.topDef (OpenLaw.row PySem.Challenge.rw_queueloops_k16_whole_pairs_that_can_be).prog 41).name = ("law" : PySem.Str) := by kernel_rfl
        rw [← e]
        exact hmg0
      obtain ⟨fd, sp, hb, hsp, hF⟩ := K16.facts (P := (PySem.Challenge.rw_queueloops_k16_whole_pairs_that_can_be).prog) (w := w) hlaw KX G hmg c ex
      exact ⟨K, fd, sp, KX, hb, hsp, fun base _ _ => hF base⟩
end
namespace K16
open PySem Q
theorem e_is_integer (i : Int) (s : Store) : φ_is_integer [.int i] s = .ok (.bl true) s := rfl
theorem e_is_within (i lo hi : Int) (s : Store) : φ_is_within [.int i, .int lo, .int hi] s = .ok (.bl (decide (lo ≤ i) && decide (i ≤ hi))) s := by
  by_cases h : lo ≤ i <;> simp [↓bind_T, ↓bindS_T, ↓thn_T, ↓wpr_T, ↓wps_T, runB_eq, seq_eq, sRet, sRetN, sNx, sBk, sCt, sIf, sAsg, sDrop, sSub, sPar, sPar3, sAug, eVar, eC, eOp1, eOp2, eNil, eCons, eTup, eLst, eIf, eAndV, eOrV, eNotV, eAndT, eOrT, eNotT, eTest, eTru, eChain, eCallF, eCallB, eCallK, eKws, eNewD, eMeth, vAdd, vSub, vMul, vMod, vDiv, vPow, vNeg, vCmp, vCmpI, vEq, vIsN, eqF, vIx', vIx, vSet, bInt, bAbs, bLen', bLen, bIsi, tyN, tyIx, isA, truW, mtF, tyM, tgE, tgsE, L2.atI, L2.ixN, bMM, bMax, bMin, Q.small64, flatW, eqW, int_beq, add_at, φ_is_within, m_is_within, e_is_integer, h]
theorem e_gap_of (x y d : Int) (s : Store) : φ_gap_of [.tup [.int x, .int y, .int d]] s = .ok (.int (d + y - x)) s := rfl
theorem e_is_service (w : Str) (n : Int) (s : Store) (hw : w = "queue" ∨ w = "order" ∨ w = "any") (h1 : 1 ≤ n) (h4 : n ≤ 4) : φ_is_service [.tup [.str w, .int n]] s = .ok (.bl true) s := by
  rcases hw with rfl | rfl | rfl <;> simp [↓bind_T, ↓bindS_T, ↓thn_T, ↓wpr_T, ↓wps_T, runB_eq, seq_eq, sRet, sRetN, sNx, sBk, sCt, sIf, sAsg, sDrop, sSub, sPar, sPar3, sAug, eVar, eC, eOp1, eOp2, eNil, eCons, eTup, eLst, eIf, eAndV, eOrV, eNotV, eAndT, eOrT, eNotT, eTest, eTru, eChain, eCallF, eCallB, eCallK, eKws, eNewD, eMeth, vAdd, vSub, vMul, vMod, vDiv, vPow, vNeg, vCmp, vCmpI, vEq, vIsN, eqF, vIx', vIx, vSet, bInt, bAbs, bLen', bLen, bIsi, tyN, tyIx, isA, truW, mtF, tyM, tgE, tgsE, L2.atI, L2.ixN, bMM, bMax, bMin, Q.small64, flatW, eqW, int_beq, add_at, φ_is_service, m_is_service, e_is_within, h1, h4, vIn', vIn, inW, eqW] 
theorem e_check_service (w : Str) (n : Int) (s : Store) (hw : w = "queue" ∨ w = "order" ∨ w = "any") (h1 : 1 ≤ n) (h4 : n ≤ 4) : φ_check_service [.tup [.str w, .int n]] s = .ok .non s := by
  simp [↓bind_T, ↓bindS_T, ↓thn_T, ↓wpr_T, ↓wps_T, runB_eq, seq_eq, sRet, sRetN, sNx, sBk, sCt, sIf, sAsg, sDrop, sSub, sPar, sPar3, sAug, eVar, eC, eOp1, eOp2, eNil, eCons, eTup, eLst, eIf, eAndV, eOrV, eNotV, eAndT, eOrT, eNotT, eTest, eTru, eChain, eCallF, eCallB, eCallK, eKws, eNewD, eMeth, vAdd, vSub, vMul, vMod, vDiv, vPow, vNeg, vCmp, vCmpI, vEq, vIsN, eqF, vIx', vIx, vSet, bInt, bAbs, bLen', bLen, bIsi, tyN, tyIx, isA, truW, mtF, tyM, tgE, tgsE, L2.atI, L2.ixN, bMM, bMax, bMin, Q.small64, flatW, eqW, int_beq, add_at, φ_check_service, m_check_service, e_is_service w n s hw h1 h4]
theorem e_check_size (n : Int) (s : Store) (h1 : 0 ≤ n) (h4 : n ≤ 400) : φ_check_size [.int n] s = .ok .non s := by
  simp [↓bind_T, ↓bindS_T, ↓thn_T, ↓wpr_T, ↓wps_T, runB_eq, seq_eq, sRet, sRetN, sNx, sBk, sCt, sIf, sAsg, sDrop, sSub, sPar, sPar3, sAug, eVar, eC, eOp1, eOp2, eNil, eCons, eTup, eLst, eIf, eAndV, eOrV, eNotV, eAndT, eOrT, eNotT, eTest, eTru, eChain, eCallF, eCallB, eCallK, eKws, eNewD, eMeth, vAdd, vSub, vMul, vMod, vDiv, vPow, vNeg, vCmp, vCmpI, vEq, vIsN, eqF, vIx', vIx, vSet, bInt, bAbs, bLen', bLen, bIsi, tyN, tyIx, isA, truW, mtF, tyM, tgE, tgsE, L2.atI, L2.ixN, bMM, bMax, bMin, Q.small64, flatW, eqW, int_beq, add_at, φ_check_size, m_check_size, e_is_within, h1, h4]
theorem e_check_pair (x y d z : Int) (s : Store) (hx : 0 ≤ x) (hx2 : x ≤ z) (hy : 0 ≤ y) (hy2 : y ≤ z) (hd : 0 ≤ d) (hd2 : d ≤ 400) : φ_check_pair [.tup [.int x, .int y, .int d], .int z] s = .ok .non (s.add (.lst [.bl true, .bl true])) := by
  have e : ∀ v, eLc (eIter (eSlice (eVar 0) none (some (eOp1 vNeg (eC (W.int 1)))))) [2] (.nm 2) eTrue (eCallF φ_is_within 3 (eCons (eVar 2) (eCons (eC (W.int 0)) (eCons (eVar 1) eNil)))) [some (.tup [.int x, .int y, .int d]), some (.int z), v] s = .ok (.ref s.n) (s.add (.lst [.bl true, .bl true])) := by
    intro v
    have := lc_eq (it := eIter (eSlice (eVar 0) none (some (eOp1 vNeg (eC (W.int 1)))))) (vs := [2]) (t := .nm 2) (c := eTrue) (x := eCallF φ_is_within 3 (eCons (eVar 2) (eCons (eC (W.int 0)) (eCons (eVar 1) eNil)))) (e := [some (.tup [.int x, .int y, .int d]), some (.int z), v]) (s := s) (s1 := s) (iv := .tup [.int x, .int y]) (ws := [.int x, .int y]) (fun _ => true) (fun _ => .bl true) rfl (by simp [itFuel]) (by simp [LIM]) (fun _ _ => rfl) (by
      intro w hw
      simp only [List.mem_cons, List.mem_nil_iff, or_false] at hw
      rcases hw with rfl | rfl
      · exact ⟨_, rfl, fun acc => ⟨rfl, fun _ => by simp [↓bind_T, ↓bindS_T, ↓thn_T, ↓wpr_T, ↓wps_T, runB_eq, seq_eq, sRet, sRetN, sNx, sBk, sCt, sIf, sAsg, sDrop, sSub, sPar, sPar3, sAug, eVar, eC, eOp1, eOp2, eNil, eCons, eTup, eLst, eIf, eAndV, eOrV, eNotV, eAndT, eOrT, eNotT, eTest, eTru, eChain, eCallF, eCallB, eCallK, eKws, eNewD, eMeth, vAdd, vSub, vMul, vMod, vDiv, vPow, vNeg, vCmp, vCmpI, vEq, vIsN, eqF, vIx', vIx, vSet, bInt, bAbs, bLen', bLen, bIsi, tyN, tyIx, isA, truW, mtF, tyM, tgE, tgsE, L2.atI, L2.ixN, bMM, bMax, bMin, Q.small64, flatW, eqW, int_beq, add_at, wipeE, e_is_within, hx, hx2]⟩⟩
      · exact ⟨_, rfl, fun acc => ⟨rfl, fun _ => by simp [↓bind_T, ↓bindS_T, ↓thn_T, ↓wpr_T, ↓wps_T, runB_eq, seq_eq, sRet, sRetN, sNx, sBk, sCt, sIf, sAsg, sDrop, sSub, sPar, sPar3, sAug, eVar, eC, eOp1, eOp2, eNil, eCons, eTup, eLst, eIf, eAndV, eOrV, eNotV, eAndT, eOrT, eNotT, eTest, eTru, eChain, eCallF, eCallB, eCallK, eKws, eNewD, eMeth, vAdd, vSub, vMul, vMod, vDiv, vPow, vNeg, vCmp, vCmpI, vEq, vIsN, eqF, vIx', vIx, vSet, bInt, bAbs, bLen', bLen, bIsi, tyN, tyIx, isA, truW, mtF, tyM, tgE, tgsE, L2.atI, L2.ixN, bMM, bMax, bMin, Q.small64, flatW, eqW, int_beq, add_at, wipeE, e_is_within, hy, hy2]⟩⟩)
    simpa using this
  simp [↓bind_T, ↓bindS_T, ↓thn_T, ↓wpr_T, ↓wps_T, runB_eq, seq_eq, sRet, sRetN, sNx, sBk, sCt, sIf, sAsg, sDrop, sSub, sPar, sPar3, sAug, eVar, eC, eOp1, eOp2, eNil, eCons, eTup, eLst, eIf, eAndV, eOrV, eNotV, eAndT, eOrT, eNotT, eTest, eTru, eChain, eCallF, eCallB, eCallK, eKws, eNewD, eMeth, vAdd, vSub, vMul, vMod, vDiv, vPow, vNeg, vCmp, vCmpI, vEq, vIsN, eqF, vIx', vIx, vSet, bInt, bAbs, bLen', bLen, bIsi, tyN, tyIx, isA, truW, mtF, tyM, tgE, tgsE, L2.atI, L2.ixN, bMM, bMax, bMin, Q.small64, flatW, eqW, int_beq, add_at, φ_check_pair, m_check_pair, e, bAA, blsW, e_is_within, hd, hd2]
def poss (w : Str) (n x y d : Int) : Bool :=
  if n = 1 ∧ d = 0 then false else if w = "order" then decide (1 ≤ d + y - x) else if w = "any" then decide (d + y - x ≠ 0) else if n = 1 then decide (x = 0 ∧ y = 0) else decide (1 ≤ d + y - x ∧ d + y - x ≤ n * d + n - 1)
theorem e_is_possible (w : Str) (n x y d : Int) (s : Store) (hw : w = "queue" ∨ w = "order" ∨ w = "any") (h1 : 1 ≤ n) (h4 : n ≤ 4) : φ_is_possible [.tup [.str w, .int n], .tup [.int x, .int y, .int d]] s = .ok (.bl (poss w n x y d)) s := by
  rcases hw with rfl | rfl | rfl
  · by_cases a : n = 1
    · subst a
      by_cases b : d = 0
      · simp [↓bind_T, ↓bindS_T, ↓thn_T, ↓wpr_T, ↓wps_T, runB_eq, seq_eq, sRet, sRetN, sNx, sBk, sCt, sIf, sAsg, sDrop, sSub, sPar, sPar3, sAug, eVar, eC, eOp1, eOp2, eNil, eCons, eTup, eLst, eIf, eAndV, eOrV, eNotV, eAndT, eOrT, eNotT, eTest, eTru, eChain, eCallF, eCallB, eCallK, eKws, eNewD, eMeth, vAdd, vSub, vMul, vMod, vDiv, vPow, vNeg, vCmp, vCmpI, vEq, vIsN, eqF, vIx', vIx, vSet, bInt, bAbs, bLen', bLen, bIsi, tyN, tyIx, isA, truW, mtF, tyM, tgE, tgsE, L2.atI, L2.ixN, bMM, bMax, bMin, Q.small64, flatW, eqW, int_beq, add_at, φ_is_possible, m_is_possible, e_gap_of, poss, b]
      · by_cases c : x = y
        · subst c
          simp [↓bind_T, ↓bindS_T, ↓thn_T, ↓wpr_T, ↓wps_T, runB_eq, seq_eq, sRet, sRetN, sNx, sBk, sCt, sIf, sAsg, sDrop, sSub, sPar, sPar3, sAug, eVar, eC, eOp1, eOp2, eNil, eCons, eTup, eLst, eIf, eAndV, eOrV, eNotV, eAndT, eOrT, eNotT, eTest, eTru, eChain, eCallF, eCallB, eCallK, eKws, eNewD, eMeth, vAdd, vSub, vMul, vMod, vDiv, vPow, vNeg, vCmp, vCmpI, vEq, vIsN, eqF, vIx', vIx, vSet, bInt, bAbs, bLen', bLen, bIsi, tyN, tyIx, isA, truW, mtF, tyM, tgE, tgsE, L2.atI, L2.ixN, bMM, bMax, bMin, Q.small64, flatW, eqW, int_beq, add_at, φ_is_possible, m_is_possible, e_gap_of, poss, b]
        · have c2 : ¬(x = 0 ∧ y = 0) := by omega
          simp [↓bind_T, ↓bindS_T, ↓thn_T, ↓wpr_T, ↓wps_T, runB_eq, seq_eq, sRet, sRetN, sNx, sBk, sCt, sIf, sAsg, sDrop, sSub, sPar, sPar3, sAug, eVar, eC, eOp1, eOp2, eNil, eCons, eTup, eLst, eIf, eAndV, eOrV, eNotV, eAndT, eOrT, eNotT, eTest, eTru, eChain, eCallF, eCallB, eCallK, eKws, eNewD, eMeth, vAdd, vSub, vMul, vMod, vDiv, vPow, vNeg, vCmp, vCmpI, vEq, vIsN, eqF, vIx', vIx, vSet, bInt, bAbs, bLen', bLen, bIsi, tyN, tyIx, isA, truW, mtF, tyM, tgE, tgsE, L2.atI, L2.ixN, bMM, bMax, bMin, Q.small64, flatW, eqW, int_beq, add_at, φ_is_possible, m_is_possible, e_gap_of, poss, b, c, c2]
    · have n64 : n.natAbs < 18446744073709551616 := by omega
      by_cases c : 1 ≤ d + y - x
      · simp [↓bind_T, ↓bindS_T, ↓thn_T, ↓wpr_T, ↓wps_T, runB_eq, seq_eq, sRet, sRetN, sNx, sBk, sCt, sIf, sAsg, sDrop, sSub, sPar, sPar3, sAug, eVar, eC, eOp1, eOp2, eNil, eCons, eTup, eLst, eIf, eAndV, eOrV, eNotV, eAndT, eOrT, eNotT, eTest, eTru, eChain, eCallF, eCallB, eCallK, eKws, eNewD, eMeth, vAdd, vSub, vMul, vMod, vDiv, vPow, vNeg, vCmp, vCmpI, vEq, vIsN, eqF, vIx', vIx, vSet, bInt, bAbs, bLen', bLen, bIsi, tyN, tyIx, isA, truW, mtF, tyM, tgE, tgsE, L2.atI, L2.ixN, bMM, bMax, bMin, Q.small64, flatW, eqW, int_beq, add_at, φ_is_possible, m_is_possible, e_gap_of, poss, a, c, n64]
      · simp [↓bind_T, ↓bindS_T, ↓thn_T, ↓wpr_T, ↓wps_T, runB_eq, seq_eq, sRet, sRetN, sNx, sBk, sCt, sIf, sAsg, sDrop, sSub, sPar, sPar3, sAug, eVar, eC, eOp1, eOp2, eNil, eCons, eTup, eLst, eIf, eAndV, eOrV, eNotV, eAndT, eOrT, eNotT, eTest, eTru, eChain, eCallF, eCallB, eCallK, eKws, eNewD, eMeth, vAdd, vSub, vMul, vMod, vDiv, vPow, vNeg, vCmp, vCmpI, vEq, vIsN, eqF, vIx', vIx, vSet, bInt, bAbs, bLen', bLen, bIsi, tyN, tyIx, isA, truW, mtF, tyM, tgE, tgsE, L2.atI, L2.ixN, bMM, bMax, bMin, Q.small64, flatW, eqW, int_beq, add_at, φ_is_possible, m_is_possible, e_gap_of, poss, a, c]
  · by_cases a : n = 1 <;> by_cases b : d = 0 <;> simp [↓bind_T, ↓bindS_T, ↓thn_T, ↓wpr_T, ↓wps_T, runB_eq, seq_eq, sRet, sRetN, sNx, sBk, sCt, sIf, sAsg, sDrop, sSub, sPar, sPar3, sAug, eVar, eC, eOp1, eOp2, eNil, eCons, eTup, eLst, eIf, eAndV, eOrV, eNotV, eAndT, eOrT, eNotT, eTest, eTru, eChain, eCallF, eCallB, eCallK, eKws, eNewD, eMeth, vAdd, vSub, vMul, vMod, vDiv, vPow, vNeg, vCmp, vCmpI, vEq, vIsN, eqF, vIx', vIx, vSet, bInt, bAbs, bLen', bLen, bIsi, tyN, tyIx, isA, truW, mtF, tyM, tgE, tgsE, L2.atI, L2.ixN, bMM, bMax, bMin, Q.small64, flatW, eqW, int_beq, add_at, φ_is_possible, m_is_possible, e_gap_of, poss, a, b]
  · by_cases a : n = 1 <;> by_cases b : d = 0 <;> simp [↓bind_T, ↓bindS_T, ↓thn_T, ↓wpr_T, ↓wps_T, runB_eq, seq_eq, sRet, sRetN, sNx, sBk, sCt, sIf, sAsg, sDrop, sSub, sPar, sPar3, sAug, eVar, eC, eOp1, eOp2, eNil, eCons, eTup, eLst, eIf, eAndV, eOrV, eNotV, eAndT, eOrT, eNotT, eTest, eTru, eChain, eCallF, eCallB, eCallK, eKws, eNewD, eMeth, vAdd, vSub, vMul, vMod, vDiv, vPow, vNeg, vCmp, vCmpI, vEq, vIsN, eqF, vIx', vIx, vSet, bInt, bAbs, bLen', bLen, bIsi, tyN, tyIx, isA, truW, mtF, tyM, tgE, tgsE, L2.atI, L2.ixN, bMM, bMax, bMin, Q.small64, flatW, eqW, int_beq, add_at, φ_is_possible, m_is_possible, e_gap_of, poss, a, b]
theorem e_can_be (w : Str) (n x y d z : Int) (s : Store) (hw : w = "queue" ∨ w = "order" ∨ w = "any") (h1 : 1 ≤ n) (h4 : n ≤ 4) (hz : 0 ≤ z) (hz4 : z ≤ 400) (hx : 0 ≤ x) (hx2 : x ≤ z) (hy : 0 ≤ y) (hy2 : y ≤ z) (hd : 0 ≤ d) (hd2 : d ≤ 400) :
    φ_can_be [.tup [.str w, .int n], .int z, .tup [.int x, .int y, .int d]] s = .ok (.bl (poss w n x y d)) (s.add (.lst [.bl true, .bl true])) := by
  simp [↓bind_T, ↓bindS_T, ↓thn_T, ↓wpr_T, ↓wps_T, runB_eq, seq_eq, sRet, sRetN, sNx, sBk, sCt, sIf, sAsg, sDrop, sSub, sPar, sPar3, sAug, eVar, eC, eOp1, eOp2, eNil, eCons, eTup, eLst, eIf, eAndV, eOrV, eNotV, eAndT, eOrT, eNotT, eTest, eTru, eChain, eCallF, eCallB, eCallK, eKws, eNewD, eMeth, vAdd, vSub, vMul, vMod, vDiv, vPow, vNeg, vCmp, vCmpI, vEq, vIsN, eqF, vIx', vIx, vSet, bInt, bAbs, bLen', bLen, bIsi, tyN, tyIx, isA, truW, mtF, tyM, tgE, tgsE, L2.atI, L2.ixN, bMM, bMax, bMin, Q.small64, flatW, eqW, int_beq, add_at, φ_can_be, m_can_be, e_check_service w n s hw h1 h4, e_check_size z s hz hz4, e_check_pair x y d z s hx hx2 hy hy2 hd hd2, e_is_possible w n x y d _ hw h1 h4]
theorem e_law_can_be (w : Str) (n x y d z : Int) (s : Store) (hw : w = "queue" ∨ w = "order" ∨ w = "any") (h1 : 1 ≤ n) (h4 : n ≤ 4) (hx2 : x ≤ z) (hy2 : y ≤ z) (hd : 0 ≤ d) :
    φ__law_can_be [.tup [.str w, .int n], .int z, .tup [.int x, .int y, .int d]] s = .ok (.bl (poss w n x y d)) s := by
  have mx : ¬ (z < if x < y then y else x) := by split <;> omega
  rcases hw with rfl | rfl | rfl
  · by_cases a : n = 1
    · subst a
      by_cases b : d = 0
      · simp [↓bind_T, ↓bindS_T, ↓thn_T, ↓wpr_T, ↓wps_T, runB_eq, seq_eq, sRet, sRetN, sNx, sBk, sCt, sIf, sAsg, sDrop, sSub, sPar, sPar3, sAug, eVar, eC, eOp1, eOp2, eNil, eCons, eTup, eLst, eIf, eAndV, eOrV, eNotV, eAndT, eOrT, eNotT, eTest, eTru, eChain, eCallF, eCallB, eCallK, eKws, eNewD, eMeth, vAdd, vSub, vMul, vMod, vDiv, vPow, vNeg, vCmp, vCmpI, vEq, vIsN, eqF, vIx', vIx, vSet, bInt, bAbs, bLen', bLen, bIsi, tyN, tyIx, isA, truW, mtF, tyM, tgE, tgsE, L2.atI, L2.ixN, bMM, bMax, bMin, Q.small64, flatW, eqW, int_beq, add_at, φ__law_can_be, m__law_can_be, poss, b, mx]
      · by_cases c : x = 0
        · subst c
          simp [↓bind_T, ↓bindS_T, ↓thn_T, ↓wpr_T, ↓wps_T, runB_eq, seq_eq, sRet, sRetN, sNx, sBk, sCt, sIf, sAsg, sDrop, sSub, sPar, sPar3, sAug, eVar, eC, eOp1, eOp2, eNil, eCons, eTup, eLst, eIf, eAndV, eOrV, eNotV, eAndT, eOrT, eNotT, eTest, eTru, eChain, eCallF, eCallB, eCallK, eKws, eNewD, eMeth, vAdd, vSub, vMul, vMod, vDiv, vPow, vNeg, vCmp, vCmpI, vEq, vIsN, eqF, vIx', vIx, vSet, bInt, bAbs, bLen', bLen, bIsi, tyN, tyIx, isA, truW, mtF, tyM, tgE, tgsE, L2.atI, L2.ixN, bMM, bMax, bMin, Q.small64, flatW, eqW, int_beq, add_at, φ__law_can_be, m__law_can_be, poss, b, mx]
        · simp [↓bind_T, ↓bindS_T, ↓thn_T, ↓wpr_T, ↓wps_T, runB_eq, seq_eq, sRet, sRetN, sNx, sBk, sCt, sIf, sAsg, sDrop, sSub, sPar, sPar3, sAug, eVar, eC, eOp1, eOp2, eNil, eCons, eTup, eLst, eIf, eAndV, eOrV, eNotV, eAndT, eOrT, eNotT, eTest, eTru, eChain, eCallF, eCallB, eCallK, eKws, eNewD, eMeth, vAdd, vSub, vMul, vMod, vDiv, vPow, vNeg, vCmp, vCmpI, vEq, vIsN, eqF, vIx', vIx, vSet, bInt, bAbs, bLen', bLen, bIsi, tyN, tyIx, isA, truW, mtF, tyM, tgE, tgsE, L2.atI, L2.ixN, bMM, bMax, bMin, Q.small64, flatW, eqW, int_beq, add_at, φ__law_can_be, m__law_can_be, poss, b, c, mx]
    · have n64 : n.natAbs < 18446744073709551616 := by omega
      by_cases c : 1 ≤ d + y - x
      · simp [↓bind_T, ↓bindS_T, ↓thn_T, ↓wpr_T, ↓wps_T, runB_eq, seq_eq, sRet, sRetN, sNx, sBk, sCt, sIf, sAsg, sDrop, sSub, sPar, sPar3, sAug, eVar, eC, eOp1, eOp2, eNil, eCons, eTup, eLst, eIf, eAndV, eOrV, eNotV, eAndT, eOrT, eNotT, eTest, eTru, eChain, eCallF, eCallB, eCallK, eKws, eNewD, eMeth, vAdd, vSub, vMul, vMod, vDiv, vPow, vNeg, vCmp, vCmpI, vEq, vIsN, eqF, vIx', vIx, vSet, bInt, bAbs, bLen', bLen, bIsi, tyN, tyIx, isA, truW, mtF, tyM, tgE, tgsE, L2.atI, L2.ixN, bMM, bMax, bMin, Q.small64, flatW, eqW, int_beq, add_at, φ__law_can_be, m__law_can_be, poss, a, c, mx, n64]
      · simp [↓bind_T, ↓bindS_T, ↓thn_T, ↓wpr_T, ↓wps_T, runB_eq, seq_eq, sRet, sRetN, sNx, sBk, sCt, sIf, sAsg, sDrop, sSub, sPar, sPar3, sAug, eVar, eC, eOp1, eOp2, eNil, eCons, eTup, eLst, eIf, eAndV, eOrV, eNotV, eAndT, eOrT, eNotT, eTest, eTru, eChain, eCallF, eCallB, eCallK, eKws, eNewD, eMeth, vAdd, vSub, vMul, vMod, vDiv, vPow, vNeg, vCmp, vCmpI, vEq, vIsN, eqF, vIx', vIx, vSet, bInt, bAbs, bLen', bLen, bIsi, tyN, tyIx, isA, truW, mtF, tyM, tgE, tgsE, L2.atI, L2.ixN, bMM, bMax, bMin, Q.small64, flatW, eqW, int_beq, add_at, φ__law_can_be, m__law_can_be, poss, a, c, mx]
  · by_cases a : n = 1 <;> by_cases b : d = 0 <;> simp [↓bind_T, ↓bindS_T, ↓thn_T, ↓wpr_T, ↓wps_T, runB_eq, seq_eq, sRet, sRetN, sNx, sBk, sCt, sIf, sAsg, sDrop, sSub, sPar, sPar3, sAug, eVar, eC, eOp1, eOp2, eNil, eCons, eTup, eLst, eIf, eAndV, eOrV, eNotV, eAndT, eOrT, eNotT, eTest, eTru, eChain, eCallF, eCallB, eCallK, eKws, eNewD, eMeth, vAdd, vSub, vMul, vMod, vDiv, vPow, vNeg, vCmp, vCmpI, vEq, vIsN, eqF, vIx', vIx, vSet, bInt, bAbs, bLen', bLen, bIsi, tyN, tyIx, isA, truW, mtF, tyM, tgE, tgsE, L2.atI, L2.ixN, bMM, bMax, bMin, Q.small64, flatW, eqW, int_beq, add_at, φ__law_can_be, m__law_can_be, poss, a, b, mx]
  · by_cases a : n = 1 <;> by_cases b : d = 0 <;> simp [↓bind_T, ↓bindS_T, ↓thn_T, ↓wpr_T, ↓wps_T, runB_eq, seq_eq, sRet, sRetN, sNx, sBk, sCt, sIf, sAsg, sDrop, sSub, sPar, sPar3, sAug, eVar, eC, eOp1, eOp2, eNil, eCons, eTup, eLst, eIf, eAndV, eOrV, eNotV, eAndT, eOrT, eNotT, eTest, eTru, eChain, eCallF, eCallB, eCallK, eKws, eNewD, eMeth, vAdd, vSub, vMul, vMod, vDiv, vPow, vNeg, vCmp, vCmpI, vEq, vIsN, eqF, vIx', vIx, vSet, bInt, bAbs, bLen', bLen, bIsi, tyN, tyIx, isA, truW, mtF, tyM, tgE, tgsE, L2.atI, L2.ixN, bMM, bMax, bMin, Q.small64, flatW, eqW, int_beq, add_at, φ__law_can_be, m__law_can_be, poss, a, b, mx]
end K16
namespace K16
open PySem Q
/-- a pot: b its seed, at most k draws behind -/
structure Pot (s : Store) (n : Nat) (b : Int) (k : Nat) : Prop where
  lt : n < s.n
  b0 : 0 ≤ b
  b1 : b < 2305843009213693951
  ex : ∃ a c : Int, s.f n = some (.lst [.int a, .int b, .int c]) ∧ 0 ≤ a ∧ 0 ≤ c ∧ c ≤ k
theorem log_lt {i : Int} {k : Nat} (h : i.natAbs < 2 ^ k) (hk : 0 < k) : i.natAbs.log2 < k := by
  by_cases z : i.natAbs = 0
  · rw [z]; simpa using hk
  · exact (Nat.log2_lt z).mpr h
theorem e_take {s : Store} {n k : Nat} {b u : Int} (hp : Pot s n b k) (hk : k < 100000) (hu : 0 < u) (hu2 : u < 100000) : ∃ (d : Int) (t : Store), φ__law_take [.ref n, .int u] s = .ok (.int d) t ∧ 0 ≤ d ∧ d < u ∧ Pot t n b (k + 1) ∧ Ext [n] s t := by
  obtain ⟨hn, b0, b1, a, c, hs, ha, hc, hck⟩ := hp
  by_cases h : 0 < a
  · have hl : u.natAbs.log2 < 9000 := by
      have : u.natAbs.log2 < 17 := log_lt (by omega) (by decide)
      omega
    have hl' : ¬ (9000 ≤ u.natAbs.log2) := by omega
    refine ⟨a % u, s.put n (.lst [.int (a / u), .int b, .int c]), ?_, Int.emod_nonneg _ (by omega), Int.emod_lt_of_pos _ hu, ⟨hn, b0, b1, a / u, c, put_f _ _ _, Int.ediv_nonneg ha (by omega), hc, by omega⟩, Ext.refl.put _ (.inl (by simp))⟩
    simp [↓bind_T, ↓bindS_T, ↓thn_T, ↓wpr_T, ↓wps_T, runB_eq, seq_eq, sRet, sRetN, sNx, sBk, sCt, sIf, sAsg, sDrop, sSub, sPar, sPar3, sAug, eVar, eC, eOp1, eOp2, eNil, eCons, eTup, eLst, eIf, eAndV, eOrV, eNotV, eAndT, eOrT, eNotT, eTest, eTru, eChain, eCallF, eCallB, eCallK, eKws, eNewD, eMeth, vAdd, vSub, vMul, vMod, vDiv, vPow, vNeg, vCmp, vCmpI, vEq, vIsN, eqF, vIx', vIx, vSet, bInt, bAbs, bLen', bLen, bIsi, tyN, tyIx, isA, truW, mtF, tyM, tgE, tgsE, L2.atI, L2.ixN, bMM, bMax, bMin, Q.small64, flatW, eqW, int_beq, add_at, φ__law_take, m__law_take, hs, h, hu, hl, hl']
  · have ha0 : a = 0 := by omega
    subst ha0
    have n1 : (c + 1).natAbs < 18446744073709551616 := by omega
    have n2 : (98257 * (c + 1)).natAbs < 18446744073709551616 := by omega
    have hb3 : (b + 98257 * (c + 1) * (c + 1) + 431).natAbs < 2 ^ 62 := by
      have : 0 ≤ 98257 * (c + 1) * (c + 1) := Int.mul_nonneg (by omega) (by omega)
      have : 98257 * (c + 1) * (c + 1) ≤ 98257 * (100001 * 100001) := by
        rw [Int.mul_assoc]
        exact Int.mul_le_mul_of_nonneg_left (Int.mul_le_mul (by omega) (by omega) (by omega) (by omega)) (by decide)
      omega
    have hl3 := log_lt hb3 (by decide)
    have hcp : powB (b + 98257 * (c + 1) * (c + 1) + 431) 3 = true := Nat.ble_eq_true_of_le (show ((b + 98257 * (c + 1) * (c + 1) + 431).natAbs.log2 + 1) * 3 ≤ 134217728 by omega)
    have fin : ∀ p : Int, 0 < p → φ__law_take [.ref n, .int u] s = .ok (.int (((b + 98257 * (c + 1) * (c + 1) + 431) ^ 3 % p * ((b + 98257 * (c + 1) * (c + 1) + 431) ^ 3 % p % 10009 + 89 * (c + 1)) % 2305843009213693907 / 173) % u)) ((s.put n (.lst [.int 0, .int b, .int (c + 1)])).add (.lst [.int 2147483647, .int 2147483629, .int 2147483587, .int 2147483579, .int 2147483563])) →
        ∃ (d : Int) (t : Store), φ__law_take [.ref n, .int u] s = .ok (.int d) t ∧ 0 ≤ d ∧ d < u ∧ Pot t n b (k + 1) ∧ Ext [n] s t := fun p hp e => by
      refine ⟨_, _, e, Int.emod_nonneg _ (by omega), Int.emod_lt_of_pos _ hu, ⟨?_, b0, b1, 0, c + 1, ?_, Int.le_refl _, by omega, by omega⟩, (Ext.refl.put _ (.inl (by simp))).add _⟩
      · exact Nat.lt_succ_of_lt hn
      · exact (add_old (s.put n _) _ hn).trans (put_f _ _ _)
    have n3 : ∀ x : Int, (x % 10009 + 89 * (c + 1)).natAbs < 18446744073709551616 := fun x => by omega
    have l173 : Nat.log2 173 < 9000 := by decide +kernel
    have hm : (c + 1) % 5 = 0 ∨ (c + 1) % 5 = 1 ∨ (c + 1) % 5 = 2 ∨ (c + 1) % 5 = 3 ∨ (c + 1) % 5 = 4 := by omega
    rcases hm with hm | hm | hm | hm | hm
    · exact fin 2147483647 (by decide) (by simp [↓bind_T, ↓bindS_T, ↓thn_T, ↓wpr_T, ↓wps_T, runB_eq, seq_eq, sRet, sRetN, sNx, sBk, sCt, sIf, sAsg, sDrop, sSub, sPar, sPar3, sAug, eVar, eC, eOp1, eOp2, eNil, eCons, eTup, eLst, eIf, eAndV, eOrV, eNotV, eAndT, eOrT, eNotT, eTest, eTru, eChain, eCallF, eCallB, eCallK, eKws, eNewD, eMeth, vAdd, vSub, vMul, vMod, vDiv, vPow, vNeg, vCmp, vCmpI, vEq, vIsN, eqF, vIx', vIx, vSet, bInt, bAbs, bLen', bLen, bIsi, tyN, tyIx, isA, truW, mtF, tyM, tgE, tgsE, L2.atI, L2.ixN, bMM, bMax, bMin, Q.small64, flatW, eqW, int_beq, add_at, φ__law_take, m__law_take, hs, hu, hm, n1, n2, n3, hcp, LIM, add_old, hn, l173])
    · exact fin 2147483629 (by decide) (by simp [↓bind_T, ↓bindS_T, ↓thn_T, ↓wpr_T, ↓wps_T, runB_eq, seq_eq, sRet, sRetN, sNx, sBk, sCt, sIf, sAsg, sDrop, sSub, sPar, sPar3, sAug, eVar, eC, eOp1, eOp2, eNil, eCons, eTup, eLst, eIf, eAndV, eOrV, eNotV, eAndT, eOrT, eNotT, eTest, eTru, eChain, eCallF, eCallB, eCallK, eKws, eNewD, eMeth, vAdd, vSub, vMul, vMod, vDiv, vPow, vNeg, vCmp, vCmpI, vEq, vIsN, eqF, vIx', vIx, vSet, bInt, bAbs, bLen', bLen, bIsi, tyN, tyIx, isA, truW, mtF, tyM, tgE, tgsE, L2.atI, L2.ixN, bMM, bMax, bMin, Q.small64, flatW, eqW, int_beq, add_at, φ__law_take, m__law_take, hs, hu, hm, n1, n2, n3, hcp, LIM, add_old, hn, l173])
    · exact fin 2147483587 (by decide) (by simp [↓bind_T, ↓bindS_T, ↓thn_T, ↓wpr_T, ↓wps_T, runB_eq, seq_eq, sRet, sRetN, sNx, sBk, sCt, sIf, sAsg, sDrop, sSub, sPar, sPar3, sAug, eVar, eC, eOp1, eOp2, eNil, eCons, eTup, eLst, eIf, eAndV, eOrV, eNotV, eAndT, eOrT, eNotT, eTest, eTru, eChain, eCallF, eCallB, eCallK, eKws, eNewD, eMeth, vAdd, vSub, vMul, vMod, vDiv, vPow, vNeg, vCmp, vCmpI, vEq, vIsN, eqF, vIx', vIx, vSet, bInt, bAbs, bLen', bLen, bIsi, tyN, tyIx, isA, truW, mtF, tyM, tgE, tgsE, L2.atI, L2.ixN, bMM, bMax, bMin, Q.small64, flatW, eqW, int_beq, add_at, φ__law_take, m__law_take, hs, hu, hm, n1, n2, n3, hcp, LIM, add_old, hn, l173])
    · exact fin 2147483579 (by decide) (by simp [↓bind_T, ↓bindS_T, ↓thn_T, ↓wpr_T, ↓wps_T, runB_eq, seq_eq, sRet, sRetN, sNx, sBk, sCt, sIf, sAsg, sDrop, sSub, sPar, sPar3, sAug, eVar, eC, eOp1, eOp2, eNil, eCons, eTup, eLst, eIf, eAndV, eOrV, eNotV, eAndT, eOrT, eNotT, eTest, eTru, eChain, eCallF, eCallB, eCallK, eKws, eNewD, eMeth, vAdd, vSub, vMul, vMod, vDiv, vPow, vNeg, vCmp, vCmpI, vEq, vIsN, eqF, vIx', vIx, vSet, bInt, bAbs, bLen', bLen, bIsi, tyN, tyIx, isA, truW, mtF, tyM, tgE, tgsE, L2.atI, L2.ixN, bMM, bMax, bMin, Q.small64, flatW, eqW, int_beq, add_at, φ__law_take, m__law_take, hs, hu, hm, n1, n2, n3, hcp, LIM, add_old, hn, l173])
    · exact fin 2147483563 (by decide) (by simp [↓bind_T, ↓bindS_T, ↓thn_T, ↓wpr_T, ↓wps_T, runB_eq, seq_eq, sRet, sRetN, sNx, sBk, sCt, sIf, sAsg, sDrop, sSub, sPar, sPar3, sAug, eVar, eC, eOp1, eOp2, eNil, eCons, eTup, eLst, eIf, eAndV, eOrV, eNotV, eAndT, eOrT, eNotT, eTest, eTru, eChain, eCallF, eCallB, eCallK, eKws, eNewD, eMeth, vAdd, vSub, vMul, vMod, vDiv, vPow, vNeg, vCmp, vCmpI, vEq, vIsN, eqF, vIx', vIx, vSet, bInt, bAbs, bLen', bLen, bIsi, tyN, tyIx, isA, truW, mtF, tyM, tgE, tgsE, L2.atI, L2.ixN, bMM, bMax, bMin, Q.small64, flatW, eqW, int_beq, add_at, φ__law_take, m__law_take, hs, hu, hm, n1, n2, n3, hcp, LIM, add_old, hn, l173])
end K16
namespace K16
open PySem Q
theorem e_is_int (i lo hi : Int) (s : Store) : φ__law_is_int [.int i, .int lo, .int hi] s = .ok (.bl (decide (lo ≤ i) && decide (i ≤ hi))) s := by
  by_cases h : lo ≤ i <;> simp [↓bind_T, ↓bindS_T, ↓thn_T, ↓wpr_T, ↓wps_T, runB_eq, seq_eq, sRet, sRetN, sNx, sBk, sCt, sIf, sAsg, sDrop, sSub, sPar, sPar3, sAug, eVar, eC, eOp1, eOp2, eNil, eCons, eTup, eLst, eIf, eAndV, eOrV, eNotV, eAndT, eOrT, eNotT, eTest, eTru, eChain, eCallF, eCallB, eCallK, eKws, eNewD, eMeth, vAdd, vSub, vMul, vMod, vDiv, vPow, vNeg, vCmp, vCmpI, vEq, vIsN, eqF, vIx', vIx, vSet, bInt, bAbs, bLen', bLen, bIsi, tyN, tyIx, isA, truW, mtF, tyM, tgE, tgsE, L2.atI, L2.ixN, bMM, bMax, bMin, Q.small64, flatW, eqW, int_beq, add_at, φ__law_is_int, m__law_is_int, h]
abbrev iW (ds : List Int) : List W := ds.map W.int
abbrev pW (p : Int × Int) : W := .tup [.int p.1, .int p.2]
abbrev pkW (pk : List (Int × Int)) : List W := pk.map pW
/-- where the next packet may leave, of a queue -/
def lastL (pk : List (Int × Int)) : List (Int × Int) := pk.drop (pk.length - 1)
def aheadP (pk : List (Int × Int)) (slot : Int) : Int := ((lastL pk).map fun p => p.1 + p.2 + 1 - slot).max?.elim 0 (max 0)
def sdQ (pk : List (Int × Int)) (slot : Int) (k : Nat) : List Int := (List.range k).map fun (i : Nat) => aheadP pk slot + (i : Int)
theorem last1 (pk : List (Int × Int)) : cutW (pkW pk) (some (-1)) none = pkW (lastL pk) := by
  unfold cutW lastL
  have e : HT.sIx (pkW pk).length 0 (some (-1)) = pk.length - 1 := by
    show (if (-1 : Int) < 0 then ((-1 : Int) + ((pkW pk).length : Int)).toNat else min (-1 : Int).toNat (pkW pk).length) = _
    rw [if_pos (by decide), List.length_map]
    omega
  have e2 : HT.sIx (pkW pk).length (pkW pk).length none = pk.length := by
    show (pkW pk).length = _
    rw [List.length_map]
  rw [e, e2, List.take_of_length_le (by simp)]
  exact List.map_drop.symm
theorem ahead_max (pk : List (Int × Int)) (slot : Int) : ((lastL pk).map fun p => p.1 + p.2 + 1 - slot).max?.elim 0 (max 0) = aheadP pk slot := rfl
theorem rg_map (k : Nat) (lo : Int) : ((List.range k).map fun (i : Nat) => W.int (lo + (i : Int))) = (List.range k).map fun (i : Nat) => W.int (lo + (i : Int)) := rfl
theorem e_sdQ (n slot : Int) (k : Nat) (pk : List (Int × Int)) (p : Nat) (s : Store) (hk : (k : Int) ≤ n) (h4 : n ≤ 4) (hp : s.f p = some (.lst (pkW pk))) (hpn : p < s.n) :
    Lst s (φ__law_slot_delays [.tup [.str "queue", .int n], .ref p, .int slot, .int k] s) (iW (sdQ pk slot k)) := by
  refine Lst.of ?_
  have hk4 : k ≤ 4 := by omega
  have hl : (lastL pk).length ≤ 1 := by unfold lastL; rw [List.length_drop]; omega
  have hp1 : (s.add (.lst [.int 0])).f p = some (.lst (pkW pk)) := by rw [add_old _ _ hpn, hp]
  simp [↓bind_T, ↓bindS_T, ↓thn_T, ↓wpr_T, ↓wps_T, wpsT_seq, wpsT_bndS, wprT_bnd, wprT_runB, sRet, sRetN, sNx, sBk, sCt, sIf, sAsg, sDrop, sSub, sPar, sPar3, sAug, eVar, eC, eOp1, eOp2, eNil, eCons, eTup, eLst, eIf, eAndV, eOrV, eNotV, eAndT, eOrT, eNotT, eTest, eTru, eChain, eCallF, eCallB, eCallK, eKws, eNewD, eMeth, vAdd, vSub, vMul, vMod, vDiv, vNeg, vCmp, vCmpI, vEq, vIsN, eqF, vIx', vIx, vSet, bInt, bAbs, bLen', bLen, bIsi, tyN, tyIx, isA, truW, mtF, tyM, tgE, tgsE, L2.atI, L2.ixN, bMM, bMax, bMin, Q.small64, flatW, eqW, int_beq, add_atT, eSlice, eOpt, vCut, eIter, eEnum, mkEnum, eZip, mkZip, mkRange1, mkRange2, mkRange, wipeE, eTrue, add_oldT, put_oldT, lt_addT, ne_addT, Nat.add_assoc, filt_true, φ__law_slot_delays, m__law_slot_delays, e_is_int, hk, LIM, hp1, last1]
  refine wpr_lc (lastL pk) pW (fun p => .int (p.1 + p.2 + 1 - slot)) (fun _ => true) (iv := .lst (s.n + 1)) (s1 := (s.add (.lst [.int 0])).add (.lst (pkW (lastL pk)))) (by simp [↓bind_T, ↓bindS_T, ↓thn_T, ↓wpr_T, ↓wps_T, wpsT_seq, wpsT_bndS, wprT_bnd, wprT_runB, sRet, sRetN, sNx, sBk, sCt, sIf, sAsg, sDrop, sSub, sPar, sPar3, sAug, eVar, eC, eOp1, eOp2, eNil, eCons, eTup, eLst, eIf, eAndV, eOrV, eNotV, eAndT, eOrT, eNotT, eTest, eTru, eChain, eCallF, eCallB, eCallK, eKws, eNewD, eMeth, vAdd, vSub, vMul, vMod, vDiv, vNeg, vCmp, vCmpI, vEq, vIsN, eqF, vIx', vIx, vSet, bInt, bAbs, bLen', bLen, bIsi, tyN, tyIx, isA, truW, mtF, tyM, tgE, tgsE, L2.atI, L2.ixN, bMM, bMax, bMin, Q.small64, flatW, eqW, int_beq, add_atT, eSlice, eOpt, vCut, eIter, eEnum, mkEnum, eZip, mkZip, mkRange1, mkRange2, mkRange, wipeE, eTrue, add_oldT, put_oldT, lt_addT, ne_addT, Nat.add_assoc, filt_true, hp1, last1]) (by simp [itFuel, add_at]) (by simp only [LIM]; omega) (fun j acc => at_lst (by simp [add_at]) (by simp))
    (fun a ha => ⟨_, by simp [tgE, tgsE, wipeE]; rfl, fun acc => ⟨rfl, fun _ => by simp [↓bind_T, ↓bindS_T, ↓thn_T, ↓wpr_T, ↓wps_T, wpsT_seq, wpsT_bndS, wprT_bnd, wprT_runB, sRet, sRetN, sNx, sBk, sCt, sIf, sAsg, sDrop, sSub, sPar, sPar3, sAug, eVar, eC, eOp1, eOp2, eNil, eCons, eTup, eLst, eIf, eAndV, eOrV, eNotV, eAndT, eOrT, eNotT, eTest, eTru, eChain, eCallF, eCallB, eCallK, eKws, eNewD, eMeth, vAdd, vSub, vMul, vMod, vDiv, vNeg, vCmp, vCmpI, vEq, vIsN, eqF, vIx', vIx, vSet, bInt, bAbs, bLen', bLen, bIsi, tyN, tyIx, isA, truW, mtF, tyM, tgE, tgsE, L2.atI, L2.ixN, bMM, bMax, bMin, Q.small64, flatW, eqW, int_beq, add_atT, eSlice, eOpt, vCut, eIter, eEnum, mkEnum, eZip, mkZip, mkRange1, mkRange2, mkRange, wipeE, eTrue, add_oldT, put_oldT, lt_addT, ne_addT, Nat.add_assoc, filt_true]⟩⟩) ?_
  have h24 : 1 + (lastL pk).length ≤ 16777216 := by omega
  have hk62 : rgOk (k : Int) = true := Nat.ble_eq_true_of_le (by omega)
  have hk60 : rgOk 0 = true := rfl
  simp [↓bind_T, ↓bindS_T, ↓thn_T, ↓wpr_T, ↓wps_T, wpsT_seq, wpsT_bndS, wprT_bnd, wprT_runB, sRet, sRetN, sNx, sBk, sCt, sIf, sAsg, sDrop, sSub, sPar, sPar3, sAug, eVar, eC, eOp1, eOp2, eNil, eCons, eTup, eLst, eIf, eAndV, eOrV, eNotV, eAndT, eOrT, eNotT, eTest, eTru, eChain, eCallF, eCallB, eCallK, eKws, eNewD, eMeth, vAdd, vSub, vMul, vMod, vDiv, vNeg, vCmp, vCmpI, vEq, vIsN, eqF, vIx', vIx, vSet, bInt, bAbs, bLen', bLen, bIsi, tyN, tyIx, isA, truW, mtF, tyM, tgE, tgsE, L2.atI, L2.ixN, bMM, bMax, bMin, Q.small64, flatW, eqW, int_beq, add_atT, eSlice, eOpt, vCut, eIter, eEnum, mkEnum, eZip, mkZip, mkRange1, mkRange2, mkRange, wipeE, eTrue, add_oldT, put_oldT, lt_addT, ne_addT, Nat.add_assoc, filt_true, bMaxL, bFold, intsW, LIM, h24, intsW_fn, ahead_max]
  refine wpr_lc (List.range k) (fun i => W.int (0 + (i : Nat))) (fun i => .int (aheadP pk slot + (i : Nat))) (fun _ => true) (iv := .rng 0 1 k) (by simp [↓bind_T, ↓bindS_T, ↓thn_T, ↓wpr_T, ↓wps_T, wpsT_seq, wpsT_bndS, wprT_bnd, wprT_runB, sRet, sRetN, sNx, sBk, sCt, sIf, sAsg, sDrop, sSub, sPar, sPar3, sAug, eVar, eC, eOp1, eOp2, eNil, eCons, eTup, eLst, eIf, eAndV, eOrV, eNotV, eAndT, eOrT, eNotT, eTest, eTru, eChain, eCallF, eCallB, eCallK, eKws, eNewD, eMeth, vAdd, vSub, vMul, vMod, vDiv, vNeg, vCmp, vCmpI, vEq, vIsN, eqF, vIx', vIx, vSet, bInt, bAbs, bLen', bLen, bIsi, tyN, tyIx, isA, truW, mtF, tyM, tgE, tgsE, L2.atI, L2.ixN, bMM, bMax, bMin, Q.small64, flatW, eqW, int_beq, add_atT, eSlice, eOpt, vCut, eIter, eEnum, mkEnum, eZip, mkZip, mkRange1, mkRange2, mkRange, wipeE, eTrue, add_oldT, put_oldT, lt_addT, ne_addT, Nat.add_assoc, filt_true, hk62]; rfl) (by simp [itFuel]) (by simp [LIM]; omega) (fun j acc => at_rng)
    (fun a ha => ⟨_, by simp [tgE, tgsE, wipeE]; rfl, fun acc => ⟨rfl, fun _ => by simp [↓bind_T, ↓bindS_T, ↓thn_T, ↓wpr_T, ↓wps_T, wpsT_seq, wpsT_bndS, wprT_bnd, wprT_runB, sRet, sRetN, sNx, sBk, sCt, sIf, sAsg, sDrop, sSub, sPar, sPar3, sAug, eVar, eC, eOp1, eOp2, eNil, eCons, eTup, eLst, eIf, eAndV, eOrV, eNotV, eAndT, eOrT, eNotT, eTest, eTru, eChain, eCallF, eCallB, eCallK, eKws, eNewD, eMeth, vAdd, vSub, vMul, vMod, vDiv, vNeg, vCmp, vCmpI, vEq, vIsN, eqF, vIx', vIx, vSet, bInt, bAbs, bLen', bLen, bIsi, tyN, tyIx, isA, truW, mtF, tyM, tgE, tgsE, L2.atI, L2.ixN, bMM, bMax, bMin, Q.small64, flatW, eqW, int_beq, add_atT, eSlice, eOpt, vCut, eIter, eEnum, mkEnum, eZip, mkZip, mkRange1, mkRange2, mkRange, wipeE, eTrue, add_oldT, put_oldT, lt_addT, ne_addT, Nat.add_assoc, filt_true, ahead_max]⟩⟩) ?_
  simp [↓bind_T, ↓bindS_T, ↓thn_T, ↓wpr_T, ↓wps_T, wpsT_seq, wpsT_bndS, wprT_bnd, wprT_runB, sRet, sRetN, sNx, sBk, sCt, sIf, sAsg, sDrop, sSub, sPar, sPar3, sAug, eVar, eC, eOp1, eOp2, eNil, eCons, eTup, eLst, eIf, eAndV, eOrV, eNotV, eAndT, eOrT, eNotT, eTest, eTru, eChain, eCallF, eCallB, eCallK, eKws, eNewD, eMeth, vAdd, vSub, vMul, vMod, vDiv, vNeg, vCmp, vCmpI, vEq, vIsN, eqF, vIx', vIx, vSet, bInt, bAbs, bLen', bLen, bIsi, tyN, tyIx, isA, truW, mtF, tyM, tgE, tgsE, L2.atI, L2.ixN, bMM, bMax, bMin, Q.small64, flatW, eqW, int_beq, add_atT, eSlice, eOpt, vCut, eIter, eEnum, mkEnum, eZip, mkZip, mkRange1, mkRange2, mkRange, wipeE, eTrue, add_oldT, put_oldT, lt_addT, ne_addT, Nat.add_assoc, filt_true, sdQ]
  (repeat (first | assumption | exact Ext.refl | refine Ext.add ?_ _))
def sdOf (q : Bool) (pk : List (Int × Int)) (slot : Int) : List Int ⊕ Nat → List Int
  | .inl ds => ds
  | .inr k => sdQ pk slot k
theorem e_sdT (w : Str) (n slot : Int) (ds : List Int) (p : Nat) (s : Store) (hw : w = "order" ∨ w = "any") (hl : (ds.length : Int) ≤ n) : Lst s (φ__law_slot_delays [.tup [.str w, .int n], .ref p, .int slot, .tup (iW ds)] s) (iW ds) := by
  refine Lst.of ?_
  have hl' : ¬ (n < (ds.length : Int)) := by omega
  rcases hw with rfl | rfl
  · simp [↓bind_T, ↓bindS_T, ↓thn_T, ↓wpr_T, ↓wps_T, wpsT_seq, wpsT_bndS, wprT_bnd, wprT_runB, sRet, sRetN, sNx, sBk, sCt, sIf, sAsg, sDrop, sSub, sPar, sPar3, sAug, eVar, eC, eOp1, eOp2, eNil, eCons, eTup, eLst, eIf, eAndV, eOrV, eNotV, eAndT, eOrT, eNotT, eTest, eTru, eChain, eCallF, eCallB, eCallK, eKws, eNewD, eMeth, vAdd, vSub, vMul, vMod, vDiv, vNeg, vCmp, vCmpI, vEq, vIsN, eqF, vIx', vIx, vSet, bInt, bAbs, bLen', bLen, bIsi, tyN, tyIx, isA, truW, mtF, tyM, tgE, tgsE, L2.atI, L2.ixN, bMM, bMax, bMin, Q.small64, flatW, eqW, int_beq, add_atT, eSlice, eOpt, vCut, eIter, eEnum, mkEnum, eZip, mkZip, mkRange1, mkRange2, mkRange, wipeE, eTrue, add_oldT, put_oldT, lt_addT, ne_addT, Nat.add_assoc, filt_true, φ__law_slot_delays, m__law_slot_delays, hl', bList]
    (repeat (first | assumption | exact Ext.refl | refine Ext.add ?_ _))
  · simp [↓bind_T, ↓bindS_T, ↓thn_T, ↓wpr_T, ↓wps_T, wpsT_seq, wpsT_bndS, wprT_bnd, wprT_runB, sRet, sRetN, sNx, sBk, sCt, sIf, sAsg, sDrop, sSub, sPar, sPar3, sAug, eVar, eC, eOp1, eOp2, eNil, eCons, eTup, eLst, eIf, eAndV, eOrV, eNotV, eAndT, eOrT, eNotT, eTest, eTru, eChain, eCallF, eCallB, eCallK, eKws, eNewD, eMeth, vAdd, vSub, vMul, vMod, vDiv, vNeg, vCmp, vCmpI, vEq, vIsN, eqF, vIx', vIx, vSet, bInt, bAbs, bLen', bLen, bIsi, tyN, tyIx, isA, truW, mtF, tyM, tgE, tgsE, L2.atI, L2.ixN, bMM, bMax, bMin, Q.small64, flatW, eqW, int_beq, add_atT, eSlice, eOpt, vCut, eIter, eEnum, mkEnum, eZip, mkZip, mkRange1, mkRange2, mkRange, wipeE, eTrue, add_oldT, put_oldT, lt_addT, ne_addT, Nat.add_assoc, filt_true, φ__law_slot_delays, m__law_slot_delays, hl', bList]
    (repeat (first | assumption | exact Ext.refl | refine Ext.add ?_ _))
end K16
namespace K16
open PySem Q
inductive Vl where
  | c (k : Nat)
  | t (ds : List Int)
  deriving DecidableEq
def vW : Vl → W
  | .c k => .int k
  | .t ds => .tup (iW ds)
/-- a service, a value of its kind -/
structure Sv (w : Str) (n : Int) : Prop where
  w : w = "queue" ∨ w = "order" ∨ w = "any"
  n1 : 1 ≤ n
  n4 : n ≤ 4
def vOk (w : Str) (n : Int) : Vl → Prop
  | .c k => w = "queue" ∧ (k : Int) ≤ n
  | .t ds => (w = "order" ∨ w = "any") ∧ (ds.length : Int) ≤ n
def sd (pk : List (Int × Int)) (slot : Int) : Vl → List Int
  | .c k => sdQ pk slot k
  | .t ds => ds
theorem sd_len {w : Str} {n : Int} (S : Sv w n) {pk : List (Int × Int)} {slot : Int} {v : Vl} (h : vOk w n v) : (sd pk slot v).length ≤ 4 := by
  have := S.n4
  cases v with
  | c k => have := h.2; simp [sd, sdQ]; omega
  | t ds => have := h.2; simp only [sd]; omega
theorem e_sd {w : Str} {n : Int} (S : Sv w n) {v : Vl} (h : vOk w n v) (slot : Int) (pk : List (Int × Int)) (p : Nat) (s : Store) (hp : s.f p = some (.lst (pkW pk))) (hpn : p < s.n) :
    Lst s (φ__law_slot_delays [.tup [.str w, .int n], .ref p, .int slot, vW v] s) (iW (sd pk slot v)) := by
  cases v with
  | c k =>
    obtain ⟨rfl, hk⟩ := h
    exact e_sdQ n slot k pk p s hk S.n4 hp hpn
  | t ds => exact e_sdT w n slot ds p s h.1 h.2
def addS (pk : List (Int × Int)) (slot : Int) (v : Vl) : List (Int × Int) := pk ++ (sd pk slot v).map fun d => (slot, d)
def pkN (sc : List Vl) : Nat → List (Int × Int)
  | 0 => []
  | j + 1 => match sc[j]? with
    | some v => addS (pkN sc j) j v
    | none => pkN sc j
def pkOf (sc : List Vl) : List (Int × Int) := pkN sc sc.length
theorem pkN_len {w : Str} {n : Int} (S : Sv w n) {sc : List Vl} (h : ∀ v ∈ sc, vOk w n v) : ∀ j, (pkN sc j).length ≤ 4 * j
  | 0 => Nat.le_refl _
  | j + 1 => by
    have ih := pkN_len S h j
    unfold pkN
    cases q : sc[j]? with
    | none => dsimp only; omega
    | some v =>
      have := sd_len S (pk := pkN sc j) (slot := j) (h v (List.mem_of_getElem? q))
      simp only [addS, List.length_append, List.length_map]
      omega
theorem at_enT {ys : List W} {j : Nat} {s : Store} : itAt (.enT ys) j s = some ((ys.zipIdx.map fun p => W.tup [.int (p.2 : Nat), p.1])[j]?) := by
  simp only [itAt, List.getElem?_map, List.getElem?_zipIdx]
  cases ys[j]? <;> simp
theorem e_packets {w : Str} {n : Int} (S : Sv w n) {sc : List Vl} (h : ∀ v ∈ sc, vOk w n v) (hl : sc.length ≤ 100) (s : Store) : Lst s (φ__law_packets [.tup [.str w, .int n], .tup (sc.map vW)] s) (pkW (pkOf sc)) := by
  refine Lst.of ?_
  simp [↓bind_T, ↓bindS_T, ↓thn_T, ↓wpr_T, ↓wps_T, wpsT_seq, wpsT_bndS, wprT_bnd, wprT_runB, sRet, sRetN, sNx, sBk, sCt, sIf, sAsg, sDrop, sSub, sPar, sPar3, sAug, eVar, eC, eOp1, eOp2, eNil, eCons, eTup, eLst, eIf, eAndV, eOrV, eNotV, eAndT, eOrT, eNotT, eTest, eTru, eChain, eCallF, eCallB, eCallK, eKws, eNewD, eMeth, vAdd, vSub, vMul, vMod, vDiv, vNeg, vCmp, vCmpI, vEq, vIsN, eqF, vIx', vIx, vSet, bInt, bAbs, bLen', bLen, bIsi, tyN, tyIx, isA, truW, mtF, tyM, tgE, tgsE, L2.atI, L2.ixN, bMM, bMax, bMin, Q.small64, flatW, eqW, int_beq, add_atT, eSlice, eOpt, vCut, eIter, eEnum, mkEnum, eZip, mkZip, mkRange1, mkRange2, mkRange, wipeE, eTrue, add_oldT, put_oldT, lt_addT, ne_addT, Nat.add_assoc, filt_true, φ__law_packets, m__law_packets]
  refine wps_for (iv := .enT (sc.map vW)) (s1 := s.add (.lst [])) (ws := (sc.map vW).zipIdx.map fun p => W.tup [.int (p.2 : Nat), p.1]) (by simp [↓bind_T, ↓bindS_T, ↓thn_T, ↓wpr_T, ↓wps_T, wpsT_seq, wpsT_bndS, wprT_bnd, wprT_runB, sRet, sRetN, sNx, sBk, sCt, sIf, sAsg, sDrop, sSub, sPar, sPar3, sAug, eVar, eC, eOp1, eOp2, eNil, eCons, eTup, eLst, eIf, eAndV, eOrV, eNotV, eAndT, eOrT, eNotT, eTest, eTru, eChain, eCallF, eCallB, eCallK, eKws, eNewD, eMeth, vAdd, vSub, vMul, vMod, vDiv, vNeg, vCmp, vCmpI, vEq, vIsN, eqF, vIx', vIx, vSet, bInt, bAbs, bLen', bLen, bIsi, tyN, tyIx, isA, truW, mtF, tyM, tgE, tgsE, L2.atI, L2.ixN, bMM, bMax, bMin, Q.small64, flatW, eqW, int_beq, add_atT, eSlice, eOpt, vCut, eIter, eEnum, mkEnum, eZip, mkZip, mkRange1, mkRange2, mkRange, wipeE, eTrue, add_oldT, put_oldT, lt_addT, ne_addT, Nat.add_assoc, filt_true]) (by simp [itFuel])
    (fun j e t => (∃ a b, e = [some (.tup [.str w, .int n]), some (.tup (sc.map vW)), none, some (.ref s.n), a, b]) ∧ t.f s.n = some (.lst (pkW (pkN sc j))) ∧ s.n < t.n ∧ Ext [] s t) (fun j e t _ => at_enT) ?_ ?_ ?_
  · refine ⟨⟨_, _, rfl⟩, by simp [pkN], by simp, by (repeat (first | assumption | exact Ext.refl | refine Ext.add ?_ _))⟩
  · rintro j x e t ⟨⟨a, b, rfl⟩, h1, h2, h3⟩ hw
    simp only [List.getElem?_map, List.getElem?_zipIdx] at hw
    cases q : sc[j]? with
    | none => rw [q] at hw; cases hw
    | some v =>
      rw [q] at hw
      simp at hw
      subst hw
      have hv := h v (List.mem_of_getElem? q)
      refine ⟨_, by simp [tgE, tgsE]; rfl, ?_⟩
      obtain ⟨m, t1, eq, hm, m1, m2, x1⟩ := e_sd S hv (j : Int) (pkN sc j) s.n t h1 h2
      have g1 : t1.f s.n = some (.lst (pkW (pkN sc j))) := x1.at h2 h1
      have n1 : s.n < t1.n := Nat.lt_of_lt_of_le h2 x1.n
      have l1 := pkN_len S h j
      have l2 := sd_len S (pk := pkN sc j) (slot := j) hv
      have hj : j < sc.length := (List.getElem?_eq_some_iff.mp q).1
      simp [↓bind_T, ↓bindS_T, ↓thn_T, ↓wpr_T, ↓wps_T, wpsT_seq, wpsT_bndS, wprT_bnd, wprT_runB, sRet, sRetN, sNx, sBk, sCt, sIf, sAsg, sDrop, sSub, sPar, sPar3, sAug, eVar, eC, eOp1, eOp2, eNil, eCons, eTup, eLst, eIf, eAndV, eOrV, eNotV, eAndT, eOrT, eNotT, eTest, eTru, eChain, eCallF, eCallB, eCallK, eKws, eNewD, eMeth, vAdd, vSub, vMul, vMod, vDiv, vNeg, vCmp, vCmpI, vEq, vIsN, eqF, vIx', vIx, vSet, bInt, bAbs, bLen', bLen, bIsi, tyN, tyIx, isA, truW, mtF, tyM, tgE, tgsE, L2.atI, L2.ixN, bMM, bMax, bMin, Q.small64, flatW, eqW, int_beq, add_atT, eSlice, eOpt, vCut, eIter, eEnum, mkEnum, eZip, mkZip, mkRange1, mkRange2, mkRange, wipeE, eTrue, add_oldT, put_oldT, lt_addT, ne_addT, Nat.add_assoc, filt_true, h1]
      refine wpr_lc (sd (pkN sc j) j v) W.int (fun d => pW ((j : Int), d)) (fun _ => true) (iv := .lst m) (s1 := t1) (by simp [↓bind_T, ↓bindS_T, ↓thn_T, ↓wpr_T, ↓wps_T, wpsT_seq, wpsT_bndS, wprT_bnd, wprT_runB, sRet, sRetN, sNx, sBk, sCt, sIf, sAsg, sDrop, sSub, sPar, sPar3, sAug, eVar, eC, eOp1, eOp2, eNil, eCons, eTup, eLst, eIf, eAndV, eOrV, eNotV, eAndT, eOrT, eNotT, eTest, eTru, eChain, eCallF, eCallB, eCallK, eKws, eNewD, eMeth, vAdd, vSub, vMul, vMod, vDiv, vNeg, vCmp, vCmpI, vEq, vIsN, eqF, vIx', vIx, vSet, bInt, bAbs, bLen', bLen, bIsi, tyN, tyIx, isA, truW, mtF, tyM, tgE, tgsE, L2.atI, L2.ixN, bMM, bMax, bMin, Q.small64, flatW, eqW, int_beq, add_atT, eSlice, eOpt, vCut, eIter, eEnum, mkEnum, eZip, mkZip, mkRange1, mkRange2, mkRange, wipeE, eTrue, add_oldT, put_oldT, lt_addT, ne_addT, Nat.add_assoc, filt_true, eq, hm]) (by simp [itFuel, hm]) (by simp only [LIM]; omega) (fun i acc => at_lst hm m2)
        (fun a ha => ⟨_, by simp [tgE, tgsE, wipeE]; rfl, fun acc => ⟨rfl, fun _ => by simp [↓bind_T, ↓bindS_T, ↓thn_T, ↓wpr_T, ↓wps_T, wpsT_seq, wpsT_bndS, wprT_bnd, wprT_runB, sRet, sRetN, sNx, sBk, sCt, sIf, sAsg, sDrop, sSub, sPar, sPar3, sAug, eVar, eC, eOp1, eOp2, eNil, eCons, eTup, eLst, eIf, eAndV, eOrV, eNotV, eAndT, eOrT, eNotT, eTest, eTru, eChain, eCallF, eCallB, eCallK, eKws, eNewD, eMeth, vAdd, vSub, vMul, vMod, vDiv, vNeg, vCmp, vCmpI, vEq, vIsN, eqF, vIx', vIx, vSet, bInt, bAbs, bLen', bLen, bIsi, tyN, tyIx, isA, truW, mtF, tyM, tgE, tgsE, L2.atI, L2.ixN, bMM, bMax, bMin, Q.small64, flatW, eqW, int_beq, add_atT, eSlice, eOpt, vCut, eIter, eEnum, mkEnum, eZip, mkZip, mkRange1, mkRange2, mkRange, wipeE, eTrue, add_oldT, put_oldT, lt_addT, ne_addT, Nat.add_assoc, filt_true, LIM]⟩⟩) ?_
      have l3 : (pkN sc j).length + (sd (pkN sc j) j v).length ≤ 16777216 := by omega
      have ne : (s.n = t1.n) = False := eq_false (by omega)
      simp [↓bind_T, ↓bindS_T, ↓thn_T, ↓wpr_T, ↓wps_T, wpsT_seq, wpsT_bndS, wprT_bnd, wprT_runB, sRet, sRetN, sNx, sBk, sCt, sIf, sAsg, sDrop, sSub, sPar, sPar3, sAug, eVar, eC, eOp1, eOp2, eNil, eCons, eTup, eLst, eIf, eAndV, eOrV, eNotV, eAndT, eOrT, eNotT, eTest, eTru, eChain, eCallF, eCallB, eCallK, eKws, eNewD, eMeth, vAdd, vSub, vMul, vMod, vDiv, vNeg, vCmp, vCmpI, vEq, vIsN, eqF, vIx', vIx, vSet, bInt, bAbs, bLen', bLen, bIsi, tyN, tyIx, isA, truW, mtF, tyM, tgE, tgsE, L2.atI, L2.ixN, bMM, bMax, bMin, Q.small64, flatW, eqW, int_beq, add_atT, eSlice, eOpt, vCut, eIter, eEnum, mkEnum, eZip, mkZip, mkRange1, mkRange2, mkRange, wipeE, eTrue, add_oldT, put_oldT, lt_addT, ne_addT, Nat.add_assoc, filt_true, mExtend, g1, n1, LIM, l3, ne]
      have fe : Ext [] s ((t1.add (.lst ((sd (pkN sc j) j v).map fun d => pW ((j : Int), d)))).put s.n (.lst (pkW (pkN sc j) ++ (sd (pkN sc j) j v).map fun d => pW ((j : Int), d)))) := ((h3.trans x1).add _).put _ (.inr (Nat.le_refl _))
      and_intros <;> first | exact fe | omega | simp [pkN, q, addS]
  · rintro e t ⟨⟨a, b, rfl⟩, h1, h2, h3⟩
    simp [↓bind_T, ↓bindS_T, ↓thn_T, ↓wpr_T, ↓wps_T, wpsT_seq, wpsT_bndS, wprT_bnd, wprT_runB, sRet, sRetN, sNx, sBk, sCt, sIf, sAsg, sDrop, sSub, sPar, sPar3, sAug, eVar, eC, eOp1, eOp2, eNil, eCons, eTup, eLst, eIf, eAndV, eOrV, eNotV, eAndT, eOrT, eNotT, eTest, eTru, eChain, eCallF, eCallB, eCallK, eKws, eNewD, eMeth, vAdd, vSub, vMul, vMod, vDiv, vNeg, vCmp, vCmpI, vEq, vIsN, eqF, vIx', vIx, vSet, bInt, bAbs, bLen', bLen, bIsi, tyN, tyIx, isA, truW, mtF, tyM, tgE, tgsE, L2.atI, L2.ixN, bMM, bMax, bMin, Q.small64, flatW, eqW, int_beq, add_atT, eSlice, eOpt, vCut, eIter, eEnum, mkEnum, eZip, mkZip, mkRange1, mkRange2, mkRange, wipeE, eTrue, add_oldT, put_oldT, lt_addT, ne_addT, Nat.add_assoc, filt_true]
    refine ⟨?_, h2, h3⟩
    rw [h1]
    simp [pkOf]
end K16
namespace K16
open PySem Q
abbrev plus (p : Int × Int) : Int := p.1 + p.2
def lastP (pk : List (Int × Int)) : Int := (pk.map plus).max?.elim (-1) (max (-1))
def leavesOf (pk : List (Int × Int)) (slot : Int) (v : Vl) : List Int := (sd pk slot v).map fun d => slot + d
def inZ (z d : Int) : Bool := decide (0 ≤ d) && decide (d ≤ z)
def ltP (p : Int × Int) : Bool := decide (p.1 < p.2)
def stand (w : Str) (z : Int) (pk : List (Int × Int)) (slot : Int) (v : Vl) : Bool :=
  if allF (inZ z) (sd pk slot v) = true then
    (if w = "any" then decide ((distinct (pk.map plus ++ leavesOf pk slot v) : Int) = ((pk.length : Nat) : Int) + (((sd pk slot v).length : Nat) : Int))
     else allF ltP ((lastP pk :: leavesOf pk slot v).zip (leavesOf pk slot v))) else false
theorem at_zLL {n m : Nat} {s : Store} {xs ys acc : List W} {j : Nat} (h : s.f n = some (.lst xs)) (h2 : s.f m = some (.lst ys)) (hn : n < s.n) (hm : m < s.n) : itAt (.zLL n m) j (s.add (.lst acc)) = some (((xs.zip ys).map fun p => W.tup [p.1, p.2])[j]?) := by
  simp only [itAt]
  rw [add_old _ _ hn, h, add_old _ _ hm, h2]
  simp only [List.getElem?_map, List.getElem?_zip_eq_some, List.zip, List.getElem?_zipWith]
  cases xs[j]? <;> cases ys[j]? <;> simp
theorem e_stand {w : Str} {n : Int} (S : Sv w n) {v : Vl} (h : vOk w n v) (z slot : Int) (pk : List (Int × Int)) (hpk : pk.length ≤ 1000) (p : Nat) (s : Store) (hp : s.f p = some (.lst (pkW pk))) (hpn : p < s.n) :
    ∃ t, φ__law_can_stand [.tup [.str w, .int n], .int z, .ref p, .int slot, vW v] s = .ok (.bl (stand w z pk slot v)) t ∧ Ext [] s t := by
  obtain ⟨m, t1, eq, hm, m1, m2, x1⟩ := e_sd S h slot pk p s hp hpn
  have l2 := sd_len S (pk := pk) (slot := slot) h
  suffices hs : wpr (φ__law_can_stand [.tup [.str w, .int n], .int z, .ref p, .int slot, vW v] s) (fun x t => x = .bl (stand w z pk slot v) ∧ Ext [] s t) by
    obtain ⟨a, t, e, rfl, e2⟩ := wpr_iff.mp hs
    exact ⟨t, e, e2⟩
  have g1 : t1.f p = some (.lst (pkW pk)) := x1.at hpn hp
  have n1 : p < t1.n := Nat.lt_of_lt_of_le hpn x1.n
  simp [↓bind_T, ↓bindS_T, ↓thn_T, ↓wpr_T, ↓wps_T, wpsT_seq, wpsT_bndS, wprT_bnd, wprT_runB, sRet, sRetN, sNx, sBk, sCt, sIf, sAsg, sDrop, sSub, sPar, sPar3, sAug, eVar, eC, eOp1, eOp2, eNil, eCons, eTup, eLst, eIf, eAndV, eOrV, eNotV, eAndT, eOrT, eNotT, eTest, eTru, eChain, eCallF, eCallB, eCallK, eKws, eNewD, eMeth, vAdd, vSub, vMul, vMod, vDiv, vNeg, vCmp, vCmpI, vEq, vIsN, eqF, vIx', vIx, vSet, bInt, bAbs, bLen', bLen, bIsi, tyN, tyIx, isA, truW, mtF, tyM, tgE, tgsE, L2.atI, L2.ixN, bMM, bMax, bMin, Q.small64, flatW, eqW, int_beq, add_atT, eSlice, eOpt, vCut, eIter, eEnum, mkEnum, eZip, mkZip, mkRange1, mkRange2, mkRange, wipeE, eTrue, add_oldT, put_oldT, lt_addT, ne_addT, Nat.add_assoc, filt_true, φ__law_can_stand, m__law_can_stand, eq]
  refine wpr_lc (sd pk slot v) W.int (fun d => .bl (inZ z d)) (fun _ => true) (iv := .lst m) (s1 := t1) (by simp [↓bind_T, ↓bindS_T, ↓thn_T, ↓wpr_T, ↓wps_T, wpsT_seq, wpsT_bndS, wprT_bnd, wprT_runB, sRet, sRetN, sNx, sBk, sCt, sIf, sAsg, sDrop, sSub, sPar, sPar3, sAug, eVar, eC, eOp1, eOp2, eNil, eCons, eTup, eLst, eIf, eAndV, eOrV, eNotV, eAndT, eOrT, eNotT, eTest, eTru, eChain, eCallF, eCallB, eCallK, eKws, eNewD, eMeth, vAdd, vSub, vMul, vMod, vDiv, vNeg, vCmp, vCmpI, vEq, vIsN, eqF, vIx', vIx, vSet, bInt, bAbs, bLen', bLen, bIsi, tyN, tyIx, isA, truW, mtF, tyM, tgE, tgsE, L2.atI, L2.ixN, bMM, bMax, bMin, Q.small64, flatW, eqW, int_beq, add_atT, eSlice, eOpt, vCut, eIter, eEnum, mkEnum, eZip, mkZip, mkRange1, mkRange2, mkRange, wipeE, eTrue, add_oldT, put_oldT, lt_addT, ne_addT, Nat.add_assoc, filt_true, hm]) (by simp [itFuel, hm]) (by simp only [LIM]; omega) (fun i acc => at_lst hm m2)
    (fun a ha => ⟨_, by simp [tgE, tgsE, wipeE]; rfl, fun acc => ⟨rfl, fun _ => by simp [↓bind_T, ↓bindS_T, ↓thn_T, ↓wpr_T, ↓wps_T, wpsT_seq, wpsT_bndS, wprT_bnd, wprT_runB, sRet, sRetN, sNx, sBk, sCt, sIf, sAsg, sDrop, sSub, sPar, sPar3, sAug, eVar, eC, eOp1, eOp2, eNil, eCons, eTup, eLst, eIf, eAndV, eOrV, eNotV, eAndT, eOrT, eNotT, eTest, eTru, eChain, eCallF, eCallB, eCallK, eKws, eNewD, eMeth, vAdd, vSub, vMul, vMod, vDiv, vNeg, vCmp, vCmpI, vEq, vIsN, eqF, vIx', vIx, vSet, bInt, bAbs, bLen', bLen, bIsi, tyN, tyIx, isA, truW, mtF, tyM, tgE, tgsE, L2.atI, L2.ixN, bMM, bMax, bMin, Q.small64, flatW, eqW, int_beq, add_atT, eSlice, eOpt, vCut, eIter, eEnum, mkEnum, eZip, mkZip, mkRange1, mkRange2, mkRange, wipeE, eTrue, add_oldT, put_oldT, lt_addT, ne_addT, Nat.add_assoc, filt_true, e_is_int, inZ]⟩⟩) ?_
  simp [↓bind_T, ↓bindS_T, ↓thn_T, ↓wpr_T, ↓wps_T, wpsT_seq, wpsT_bndS, wprT_bnd, wprT_runB, sRet, sRetN, sNx, sBk, sCt, sIf, sAsg, sDrop, sSub, sPar, sPar3, sAug, eVar, eC, eOp1, eOp2, eNil, eCons, eTup, eLst, eIf, eAndV, eOrV, eNotV, eAndT, eOrT, eNotT, eTest, eTru, eChain, eCallF, eCallB, eCallK, eKws, eNewD, eMeth, vAdd, vSub, vMul, vMod, vDiv, vNeg, vCmp, vCmpI, vEq, vIsN, eqF, vIx', vIx, vSet, bInt, bAbs, bLen', bLen, bIsi, tyN, tyIx, isA, truW, mtF, tyM, tgE, tgsE, L2.atI, L2.ixN, bMM, bMax, bMin, Q.small64, flatW, eqW, int_beq, add_atT, eSlice, eOpt, vCut, eIter, eEnum, mkEnum, eZip, mkZip, mkRange1, mkRange2, mkRange, wipeE, eTrue, add_oldT, put_oldT, lt_addT, ne_addT, Nat.add_assoc, filt_true]
  refine wpr_eq (bAA_all (f := inZ z) (l := sd pk slot v) (by simp [↓bind_T, ↓bindS_T, ↓thn_T, ↓wpr_T, ↓wps_T, wpsT_seq, wpsT_bndS, wprT_bnd, wprT_runB, sRet, sRetN, sNx, sBk, sCt, sIf, sAsg, sDrop, sSub, sPar, sPar3, sAug, eVar, eC, eOp1, eOp2, eNil, eCons, eTup, eLst, eIf, eAndV, eOrV, eNotV, eAndT, eOrT, eNotT, eTest, eTru, eChain, eCallF, eCallB, eCallK, eKws, eNewD, eMeth, vAdd, vSub, vMul, vMod, vDiv, vNeg, vCmp, vCmpI, vEq, vIsN, eqF, vIx', vIx, vSet, bInt, bAbs, bLen', bLen, bIsi, tyN, tyIx, isA, truW, mtF, tyM, tgE, tgsE, L2.atI, L2.ixN, bMM, bMax, bMin, Q.small64, flatW, eqW, int_beq, add_atT, eSlice, eOpt, vCut, eIter, eEnum, mkEnum, eZip, mkZip, mkRange1, mkRange2, mkRange, wipeE, eTrue, add_oldT, put_oldT, lt_addT, ne_addT, Nat.add_assoc, filt_true])) ?_
  cases hall : allF (inZ z) (sd pk slot v) with
  | false =>
    simp [↓bind_T, ↓bindS_T, ↓thn_T, ↓wpr_T, ↓wps_T, wpsT_seq, wpsT_bndS, wprT_bnd, wprT_runB, sRet, sRetN, sNx, sBk, sCt, sIf, sAsg, sDrop, sSub, sPar, sPar3, sAug, eVar, eC, eOp1, eOp2, eNil, eCons, eTup, eLst, eIf, eAndV, eOrV, eNotV, eAndT, eOrT, eNotT, eTest, eTru, eChain, eCallF, eCallB, eCallK, eKws, eNewD, eMeth, vAdd, vSub, vMul, vMod, vDiv, vNeg, vCmp, vCmpI, vEq, vIsN, eqF, vIx', vIx, vSet, bInt, bAbs, bLen', bLen, bIsi, tyN, tyIx, isA, truW, mtF, tyM, tgE, tgsE, L2.atI, L2.ixN, bMM, bMax, bMin, Q.small64, flatW, eqW, int_beq, add_atT, eSlice, eOpt, vCut, eIter, eEnum, mkEnum, eZip, mkZip, mkRange1, mkRange2, mkRange, wipeE, eTrue, add_oldT, put_oldT, lt_addT, ne_addT, Nat.add_assoc, filt_true, stand, hall]
    (repeat (first | assumption | exact Ext.refl | refine Ext.add ?_ _))
  | true =>
    simp [↓bind_T, ↓bindS_T, ↓thn_T, ↓wpr_T, ↓wps_T, wpsT_seq, wpsT_bndS, wprT_bnd, wprT_runB, sRet, sRetN, sNx, sBk, sCt, sIf, sAsg, sDrop, sSub, sPar, sPar3, sAug, eVar, eC, eOp1, eOp2, eNil, eCons, eTup, eLst, eIf, eAndV, eOrV, eNotV, eAndT, eOrT, eNotT, eTest, eTru, eChain, eCallF, eCallB, eCallK, eKws, eNewD, eMeth, vAdd, vSub, vMul, vMod, vDiv, vNeg, vCmp, vCmpI, vEq, vIsN, eqF, vIx', vIx, vSet, bInt, bAbs, bLen', bLen, bIsi, tyN, tyIx, isA, truW, mtF, tyM, tgE, tgsE, L2.atI, L2.ixN, bMM, bMax, bMin, Q.small64, flatW, eqW, int_beq, add_atT, eSlice, eOpt, vCut, eIter, eEnum, mkEnum, eZip, mkZip, mkRange1, mkRange2, mkRange, wipeE, eTrue, add_oldT, put_oldT, lt_addT, ne_addT, Nat.add_assoc, filt_true]
    have g2 : ∀ o, (t1.add o).f p = some (.lst (pkW pk)) := fun o => by rw [add_old _ _ n1, g1]
    have g3 : ∀ o, (t1.add o).f m = some (.lst (iW (sd pk slot v))) := fun o => by rw [add_old _ _ m2, hm]
    refine wpr_lc pk pW (fun q => .int (plus q)) (fun _ => true) (iv := .lst p) (s1 := t1.add (.lst ((sd pk slot v).map fun d => W.bl (inZ z d)))) (by simp [↓bind_T, ↓bindS_T, ↓thn_T, ↓wpr_T, ↓wps_T, wpsT_seq, wpsT_bndS, wprT_bnd, wprT_runB, sRet, sRetN, sNx, sBk, sCt, sIf, sAsg, sDrop, sSub, sPar, sPar3, sAug, eVar, eC, eOp1, eOp2, eNil, eCons, eTup, eLst, eIf, eAndV, eOrV, eNotV, eAndT, eOrT, eNotT, eTest, eTru, eChain, eCallF, eCallB, eCallK, eKws, eNewD, eMeth, vAdd, vSub, vMul, vMod, vDiv, vNeg, vCmp, vCmpI, vEq, vIsN, eqF, vIx', vIx, vSet, bInt, bAbs, bLen', bLen, bIsi, tyN, tyIx, isA, truW, mtF, tyM, tgE, tgsE, L2.atI, L2.ixN, bMM, bMax, bMin, Q.small64, flatW, eqW, int_beq, add_atT, eSlice, eOpt, vCut, eIter, eEnum, mkEnum, eZip, mkZip, mkRange1, mkRange2, mkRange, wipeE, eTrue, add_oldT, put_oldT, lt_addT, ne_addT, Nat.add_assoc, filt_true, g2]) (by simp [itFuel, g2]) (by simp only [LIM]; omega) (fun i acc => at_lst (g2 _) (by simp; omega))
      (fun a ha => ⟨_, by simp [tgE, tgsE, wipeE]; rfl, fun acc => ⟨rfl, fun _ => by simp [↓bind_T, ↓bindS_T, ↓thn_T, ↓wpr_T, ↓wps_T, wpsT_seq, wpsT_bndS, wprT_bnd, wprT_runB, sRet, sRetN, sNx, sBk, sCt, sIf, sAsg, sDrop, sSub, sPar, sPar3, sAug, eVar, eC, eOp1, eOp2, eNil, eCons, eTup, eLst, eIf, eAndV, eOrV, eNotV, eAndT, eOrT, eNotT, eTest, eTru, eChain, eCallF, eCallB, eCallK, eKws, eNewD, eMeth, vAdd, vSub, vMul, vMod, vDiv, vNeg, vCmp, vCmpI, vEq, vIsN, eqF, vIx', vIx, vSet, bInt, bAbs, bLen', bLen, bIsi, tyN, tyIx, isA, truW, mtF, tyM, tgE, tgsE, L2.atI, L2.ixN, bMM, bMax, bMin, Q.small64, flatW, eqW, int_beq, add_atT, eSlice, eOpt, vCut, eIter, eEnum, mkEnum, eZip, mkZip, mkRange1, mkRange2, mkRange, wipeE, eTrue, add_oldT, put_oldT, lt_addT, ne_addT, Nat.add_assoc, filt_true]⟩⟩) ?_
    simp [↓bind_T, ↓bindS_T, ↓thn_T, ↓wpr_T, ↓wps_T, wpsT_seq, wpsT_bndS, wprT_bnd, wprT_runB, sRet, sRetN, sNx, sBk, sCt, sIf, sAsg, sDrop, sSub, sPar, sPar3, sAug, eVar, eC, eOp1, eOp2, eNil, eCons, eTup, eLst, eIf, eAndV, eOrV, eNotV, eAndT, eOrT, eNotT, eTest, eTru, eChain, eCallF, eCallB, eCallK, eKws, eNewD, eMeth, vAdd, vSub, vMul, vMod, vDiv, vNeg, vCmp, vCmpI, vEq, vIsN, eqF, vIx', vIx, vSet, bInt, bAbs, bLen', bLen, bIsi, tyN, tyIx, isA, truW, mtF, tyM, tgE, tgsE, L2.atI, L2.ixN, bMM, bMax, bMin, Q.small64, flatW, eqW, int_beq, add_atT, eSlice, eOpt, vCut, eIter, eEnum, mkEnum, eZip, mkZip, mkRange1, mkRange2, mkRange, wipeE, eTrue, add_oldT, put_oldT, lt_addT, ne_addT, Nat.add_assoc, filt_true]
    refine wpr_lc (sd pk slot v) W.int (fun d => .int (slot + d)) (fun _ => true) (iv := .lst m) (s1 := (t1.add (.lst ((sd pk slot v).map fun d => W.bl (inZ z d)))).add (.lst (pk.map fun q => W.int (plus q)))) (by simp [↓bind_T, ↓bindS_T, ↓thn_T, ↓wpr_T, ↓wps_T, wpsT_seq, wpsT_bndS, wprT_bnd, wprT_runB, sRet, sRetN, sNx, sBk, sCt, sIf, sAsg, sDrop, sSub, sPar, sPar3, sAug, eVar, eC, eOp1, eOp2, eNil, eCons, eTup, eLst, eIf, eAndV, eOrV, eNotV, eAndT, eOrT, eNotT, eTest, eTru, eChain, eCallF, eCallB, eCallK, eKws, eNewD, eMeth, vAdd, vSub, vMul, vMod, vDiv, vNeg, vCmp, vCmpI, vEq, vIsN, eqF, vIx', vIx, vSet, bInt, bAbs, bLen', bLen, bIsi, tyN, tyIx, isA, truW, mtF, tyM, tgE, tgsE, L2.atI, L2.ixN, bMM, bMax, bMin, Q.small64, flatW, eqW, int_beq, add_atT, eSlice, eOpt, vCut, eIter, eEnum, mkEnum, eZip, mkZip, mkRange1, mkRange2, mkRange, wipeE, eTrue, add_oldT, put_oldT, lt_addT, ne_addT, Nat.add_assoc, filt_true, hm, m2]) (by simp [itFuel]; simp [↓bind_T, ↓bindS_T, ↓thn_T, ↓wpr_T, ↓wps_T, wpsT_seq, wpsT_bndS, wprT_bnd, wprT_runB, sRet, sRetN, sNx, sBk, sCt, sIf, sAsg, sDrop, sSub, sPar, sPar3, sAug, eVar, eC, eOp1, eOp2, eNil, eCons, eTup, eLst, eIf, eAndV, eOrV, eNotV, eAndT, eOrT, eNotT, eTest, eTru, eChain, eCallF, eCallB, eCallK, eKws, eNewD, eMeth, vAdd, vSub, vMul, vMod, vDiv, vNeg, vCmp, vCmpI, vEq, vIsN, eqF, vIx', vIx, vSet, bInt, bAbs, bLen', bLen, bIsi, tyN, tyIx, isA, truW, mtF, tyM, tgE, tgsE, L2.atI, L2.ixN, bMM, bMax, bMin, Q.small64, flatW, eqW, int_beq, add_atT, eSlice, eOpt, vCut, eIter, eEnum, mkEnum, eZip, mkZip, mkRange1, mkRange2, mkRange, wipeE, eTrue, add_oldT, put_oldT, lt_addT, ne_addT, Nat.add_assoc, filt_true, hm, m2]) (by simp only [LIM]; omega) (fun i acc => at_lst (by simp [↓bind_T, ↓bindS_T, ↓thn_T, ↓wpr_T, ↓wps_T, wpsT_seq, wpsT_bndS, wprT_bnd, wprT_runB, sRet, sRetN, sNx, sBk, sCt, sIf, sAsg, sDrop, sSub, sPar, sPar3, sAug, eVar, eC, eOp1, eOp2, eNil, eCons, eTup, eLst, eIf, eAndV, eOrV, eNotV, eAndT, eOrT, eNotT, eTest, eTru, eChain, eCallF, eCallB, eCallK, eKws, eNewD, eMeth, vAdd, vSub, vMul, vMod, vDiv, vNeg, vCmp, vCmpI, vEq, vIsN, eqF, vIx', vIx, vSet, bInt, bAbs, bLen', bLen, bIsi, tyN, tyIx, isA, truW, mtF, tyM, tgE, tgsE, L2.atI, L2.ixN, bMM, bMax, bMin, Q.small64, flatW, eqW, int_beq, add_atT, eSlice, eOpt, vCut, eIter, eEnum, mkEnum, eZip, mkZip, mkRange1, mkRange2, mkRange, wipeE, eTrue, add_oldT, put_oldT, lt_addT, ne_addT, Nat.add_assoc, filt_true, hm, m2]) (by simp; omega))
      (fun a ha => ⟨_, by simp [tgE, tgsE, wipeE]; rfl, fun acc => ⟨rfl, fun _ => by simp [↓bind_T, ↓bindS_T, ↓thn_T, ↓wpr_T, ↓wps_T, wpsT_seq, wpsT_bndS, wprT_bnd, wprT_runB, sRet, sRetN, sNx, sBk, sCt, sIf, sAsg, sDrop, sSub, sPar, sPar3, sAug, eVar, eC, eOp1, eOp2, eNil, eCons, eTup, eLst, eIf, eAndV, eOrV, eNotV, eAndT, eOrT, eNotT, eTest, eTru, eChain, eCallF, eCallB, eCallK, eKws, eNewD, eMeth, vAdd, vSub, vMul, vMod, vDiv, vNeg, vCmp, vCmpI, vEq, vIsN, eqF, vIx', vIx, vSet, bInt, bAbs, bLen', bLen, bIsi, tyN, tyIx, isA, truW, mtF, tyM, tgE, tgsE, L2.atI, L2.ixN, bMM, bMax, bMin, Q.small64, flatW, eqW, int_beq, add_atT, eSlice, eOpt, vCut, eIter, eEnum, mkEnum, eZip, mkZip, mkRange1, mkRange2, mkRange, wipeE, eTrue, add_oldT, put_oldT, lt_addT, ne_addT, Nat.add_assoc, filt_true]⟩⟩) ?_
    have l4 : pk.length + (sd pk slot v).length ≤ 16777216 := by omega
    have l5 : 1 + pk.length ≤ 16777216 := by omega
    have l6 : 1 + (sd pk slot v).length ≤ 16777216 := by omega
    have l7 : pk.length + (sd pk slot v).length ≤ 4000 := by omega
    have key : w ≠ "any" → ∀ X : Store, X.f (t1.n + 2) = some (.lst ((sd pk slot v).map fun d => W.int (slot + d))) → t1.n + 2 < X.n → Ext [] s X →
        wpr (eLc (eZip (eCons (eOp2 vAdd (eLst (eCons (eVar 11) eNil)) (eVar 10)) (eCons (eVar 10) eNil))) [6, 7] (.tup [.nm 6, .nm 7]) eTrue (eOp2 (vCmpI fun i j => decide (i < j)) (eVar 6) (eVar 7))
          [some (.tup [.str w, .int n]), some (.int z), some (.ref p), some (.int slot), some (vW v), none, none, none, some (.ref m), some (.ref (t1.n + 1)), some (.ref (t1.n + 2)), some (.int (lastP pk))] X) fun a s_1 =>
          wpr (bAA (fun bs => bs.all id) [a] s_1) fun x t => x = .bl (stand w z pk slot v) ∧ Ext [] s t := fun hw X f2 nX eX => by
      have ne : (t1.n + 2 = X.n) = False := eq_false (by omega)
      refine wpr_lc ((lastP pk :: leavesOf pk slot v).zip (leavesOf pk slot v)) pW (fun q => .bl (ltP q)) (fun _ => true) (iv := .zLL (X.n + 1) (t1.n + 2)) (s1 := (X.add (.lst [.int (lastP pk)])).add (.lst (W.int (lastP pk) :: (sd pk slot v).map fun d => W.int (slot + d)))) (by simp [↓bind_T, ↓bindS_T, ↓thn_T, ↓wpr_T, ↓wps_T, wpsT_seq, wpsT_bndS, wprT_bnd, wprT_runB, sRet, sRetN, sNx, sBk, sCt, sIf, sAsg, sDrop, sSub, sPar, sPar3, sAug, eVar, eC, eOp1, eOp2, eNil, eCons, eTup, eLst, eIf, eAndV, eOrV, eNotV, eAndT, eOrT, eNotT, eTest, eTru, eChain, eCallF, eCallB, eCallK, eKws, eNewD, eMeth, vAdd, vSub, vMul, vMod, vDiv, vNeg, vCmp, vCmpI, vEq, vIsN, eqF, vIx', vIx, vSet, bInt, bAbs, bLen', bLen, bIsi, tyN, tyIx, isA, truW, mtF, tyM, tgE, tgsE, L2.atI, L2.ixN, bMM, bMax, bMin, Q.small64, flatW, eqW, int_beq, add_atT, eSlice, eOpt, vCut, eIter, eEnum, mkEnum, eZip, mkZip, mkRange1, mkRange2, mkRange, wipeE, eTrue, add_oldT, put_oldT, lt_addT, ne_addT, Nat.add_assoc, filt_true, f2, nX, LIM, l6]) (by simp [itFuel, add_at, leavesOf]; omega) (by simp [LIM, leavesOf]; omega)
        (fun i acc => ?_) (fun a ha => ⟨_, by simp [tgE, tgsE, wipeE]; rfl, fun acc => ⟨rfl, fun _ => by simp [↓bind_T, ↓bindS_T, ↓thn_T, ↓wpr_T, ↓wps_T, wpsT_seq, wpsT_bndS, wprT_bnd, wprT_runB, sRet, sRetN, sNx, sBk, sCt, sIf, sAsg, sDrop, sSub, sPar, sPar3, sAug, eVar, eC, eOp1, eOp2, eNil, eCons, eTup, eLst, eIf, eAndV, eOrV, eNotV, eAndT, eOrT, eNotT, eTest, eTru, eChain, eCallF, eCallB, eCallK, eKws, eNewD, eMeth, vAdd, vSub, vMul, vMod, vDiv, vNeg, vCmp, vCmpI, vEq, vIsN, eqF, vIx', vIx, vSet, bInt, bAbs, bLen', bLen, bIsi, tyN, tyIx, isA, truW, mtF, tyM, tgE, tgsE, L2.atI, L2.ixN, bMM, bMax, bMin, Q.small64, flatW, eqW, int_beq, add_atT, eSlice, eOpt, vCut, eIter, eEnum, mkEnum, eZip, mkZip, mkRange1, mkRange2, mkRange, wipeE, eTrue, add_oldT, put_oldT, lt_addT, ne_addT, Nat.add_assoc, filt_true, ltP]⟩⟩) ?_
      · rw [at_zLL (xs := W.int (lastP pk) :: (sd pk slot v).map fun d => W.int (slot + d)) (ys := (sd pk slot v).map fun d => W.int (slot + d)) (by simp [↓bind_T, ↓bindS_T, ↓thn_T, ↓wpr_T, ↓wps_T, wpsT_seq, wpsT_bndS, wprT_bnd, wprT_runB, sRet, sRetN, sNx, sBk, sCt, sIf, sAsg, sDrop, sSub, sPar, sPar3, sAug, eVar, eC, eOp1, eOp2, eNil, eCons, eTup, eLst, eIf, eAndV, eOrV, eNotV, eAndT, eOrT, eNotT, eTest, eTru, eChain, eCallF, eCallB, eCallK, eKws, eNewD, eMeth, vAdd, vSub, vMul, vMod, vDiv, vNeg, vCmp, vCmpI, vEq, vIsN, eqF, vIx', vIx, vSet, bInt, bAbs, bLen', bLen, bIsi, tyN, tyIx, isA, truW, mtF, tyM, tgE, tgsE, L2.atI, L2.ixN, bMM, bMax, bMin, Q.small64, flatW, eqW, int_beq, add_atT, eSlice, eOpt, vCut, eIter, eEnum, mkEnum, eZip, mkZip, mkRange1, mkRange2, mkRange, wipeE, eTrue, add_oldT, put_oldT, lt_addT, ne_addT, Nat.add_assoc, filt_true]) (by simp [↓bind_T, ↓bindS_T, ↓thn_T, ↓wpr_T, ↓wps_T, wpsT_seq, wpsT_bndS, wprT_bnd, wprT_runB, sRet, sRetN, sNx, sBk, sCt, sIf, sAsg, sDrop, sSub, sPar, sPar3, sAug, eVar, eC, eOp1, eOp2, eNil, eCons, eTup, eLst, eIf, eAndV, eOrV, eNotV, eAndT, eOrT, eNotT, eTest, eTru, eChain, eCallF, eCallB, eCallK, eKws, eNewD, eMeth, vAdd, vSub, vMul, vMod, vDiv, vNeg, vCmp, vCmpI, vEq, vIsN, eqF, vIx', vIx, vSet, bInt, bAbs, bLen', bLen, bIsi, tyN, tyIx, isA, truW, mtF, tyM, tgE, tgsE, L2.atI, L2.ixN, bMM, bMax, bMin, Q.small64, flatW, eqW, int_beq, add_atT, eSlice, eOpt, vCut, eIter, eEnum, mkEnum, eZip, mkZip, mkRange1, mkRange2, mkRange, wipeE, eTrue, add_oldT, put_oldT, lt_addT, ne_addT, Nat.add_assoc, filt_true, f2, nX]) (by simp) (by simp; omega)]
        congr 2
        have : (W.int (lastP pk) :: (sd pk slot v).map fun d => W.int (slot + d)) = (lastP pk :: leavesOf pk slot v).map W.int := by simp [leavesOf]
        rw [this]
        have : ((sd pk slot v).map fun d => W.int (slot + d)) = (leavesOf pk slot v).map W.int := by simp [leavesOf]
        rw [this, List.zip_map, List.map_map]
        rfl
      · simp [↓bind_T, ↓bindS_T, ↓thn_T, ↓wpr_T, ↓wps_T, wpsT_seq, wpsT_bndS, wprT_bnd, wprT_runB, sRet, sRetN, sNx, sBk, sCt, sIf, sAsg, sDrop, sSub, sPar, sPar3, sAug, eVar, eC, eOp1, eOp2, eNil, eCons, eTup, eLst, eIf, eAndV, eOrV, eNotV, eAndT, eOrT, eNotT, eTest, eTru, eChain, eCallF, eCallB, eCallK, eKws, eNewD, eMeth, vAdd, vSub, vMul, vMod, vDiv, vNeg, vCmp, vCmpI, vEq, vIsN, eqF, vIx', vIx, vSet, bInt, bAbs, bLen', bLen, bIsi, tyN, tyIx, isA, truW, mtF, tyM, tgE, tgsE, L2.atI, L2.ixN, bMM, bMax, bMin, Q.small64, flatW, eqW, int_beq, add_atT, eSlice, eOpt, vCut, eIter, eEnum, mkEnum, eZip, mkZip, mkRange1, mkRange2, mkRange, wipeE, eTrue, add_oldT, put_oldT, lt_addT, ne_addT, Nat.add_assoc, filt_true]
        refine wpr_eq (bAA_all (f := ltP) (l := (lastP pk :: leavesOf pk slot v).zip (leavesOf pk slot v)) (by simp [↓bind_T, ↓bindS_T, ↓thn_T, ↓wpr_T, ↓wps_T, wpsT_seq, wpsT_bndS, wprT_bnd, wprT_runB, sRet, sRetN, sNx, sBk, sCt, sIf, sAsg, sDrop, sSub, sPar, sPar3, sAug, eVar, eC, eOp1, eOp2, eNil, eCons, eTup, eLst, eIf, eAndV, eOrV, eNotV, eAndT, eOrT, eNotT, eTest, eTru, eChain, eCallF, eCallB, eCallK, eKws, eNewD, eMeth, vAdd, vSub, vMul, vMod, vDiv, vNeg, vCmp, vCmpI, vEq, vIsN, eqF, vIx', vIx, vSet, bInt, bAbs, bLen', bLen, bIsi, tyN, tyIx, isA, truW, mtF, tyM, tgE, tgsE, L2.atI, L2.ixN, bMM, bMax, bMin, Q.small64, flatW, eqW, int_beq, add_atT, eSlice, eOpt, vCut, eIter, eEnum, mkEnum, eZip, mkZip, mkRange1, mkRange2, mkRange, wipeE, eTrue, add_oldT, put_oldT, lt_addT, ne_addT, Nat.add_assoc, filt_true])) ?_
        have hw' : (w = Str.ofString "any") = False := eq_false hw
        simp only [stand, hall, hw', if_true, if_false]
        exact ⟨trivial, by (repeat (first | assumption | exact Ext.refl | refine Ext.add ?_ _))⟩
    rcases S.w with rfl | rfl | rfl
    · simp [↓bind_T, ↓bindS_T, ↓thn_T, ↓wpr_T, ↓wps_T, wpsT_seq, wpsT_bndS, wprT_bnd, wprT_runB, sRet, sRetN, sNx, sBk, sCt, sIf, sAsg, sDrop, sSub, sPar, sPar3, sAug, eVar, eC, eOp1, eOp2, eNil, eCons, eTup, eLst, eIf, eAndV, eOrV, eNotV, eAndT, eOrT, eNotT, eTest, eTru, eChain, eCallF, eCallB, eCallK, eKws, eNewD, eMeth, vAdd, vSub, vMul, vMod, vDiv, vNeg, vCmp, vCmpI, vEq, vIsN, eqF, vIx', vIx, vSet, bInt, bAbs, bLen', bLen, bIsi, tyN, tyIx, isA, truW, mtF, tyM, tgE, tgsE, L2.atI, L2.ixN, bMM, bMax, bMin, Q.small64, flatW, eqW, int_beq, add_atT, eSlice, eOpt, vCut, eIter, eEnum, mkEnum, eZip, mkZip, mkRange1, mkRange2, mkRange, wipeE, eTrue, add_oldT, put_oldT, lt_addT, ne_addT, Nat.add_assoc, filt_true, LIM, l4, l5, l6]
      simp [↓bind_T, ↓bindS_T, ↓thn_T, ↓wpr_T, ↓wps_T, wpsT_seq, wpsT_bndS, wprT_bnd, wprT_runB, sRet, sRetN, sNx, sBk, sCt, sIf, sAsg, sDrop, sSub, sPar, sPar3, sAug, eVar, eC, eOp1, eOp2, eNil, eCons, eTup, eLst, eIf, eAndV, eOrV, eNotV, eAndT, eOrT, eNotT, eTest, eTru, eChain, eCallF, eCallB, eCallK, eKws, eNewD, eMeth, vAdd, vSub, vMul, vMod, vDiv, vNeg, vCmp, vCmpI, vEq, vIsN, eqF, vIx', vIx, vSet, bInt, bAbs, bLen', bLen, bIsi, tyN, tyIx, isA, truW, mtF, tyM, tgE, tgsE, L2.atI, L2.ixN, bMM, bMax, bMin, Q.small64, flatW, eqW, int_beq, add_atT, eSlice, eOpt, vCut, eIter, eEnum, mkEnum, eZip, mkZip, mkRange1, mkRange2, mkRange, wipeE, eTrue, add_oldT, put_oldT, lt_addT, ne_addT, Nat.add_assoc, filt_true, bMaxL, bFold, intsW, intsW_fn]
      exact key (by decide +kernel) _ (by simp [↓bind_T, ↓bindS_T, ↓thn_T, ↓wpr_T, ↓wps_T, wpsT_seq, wpsT_bndS, wprT_bnd, wprT_runB, sRet, sRetN, sNx, sBk, sCt, sIf, sAsg, sDrop, sSub, sPar, sPar3, sAug, eVar, eC, eOp1, eOp2, eNil, eCons, eTup, eLst, eIf, eAndV, eOrV, eNotV, eAndT, eOrT, eNotT, eTest, eTru, eChain, eCallF, eCallB, eCallK, eKws, eNewD, eMeth, vAdd, vSub, vMul, vMod, vDiv, vNeg, vCmp, vCmpI, vEq, vIsN, eqF, vIx', vIx, vSet, bInt, bAbs, bLen', bLen, bIsi, tyN, tyIx, isA, truW, mtF, tyM, tgE, tgsE, L2.atI, L2.ixN, bMM, bMax, bMin, Q.small64, flatW, eqW, int_beq, add_atT, eSlice, eOpt, vCut, eIter, eEnum, mkEnum, eZip, mkZip, mkRange1, mkRange2, mkRange, wipeE, eTrue, add_oldT, put_oldT, lt_addT, ne_addT, Nat.add_assoc, filt_true]) (by simp) (by (repeat (first | assumption | exact Ext.refl | refine Ext.add ?_ _)))
    · simp [↓bind_T, ↓bindS_T, ↓thn_T, ↓wpr_T, ↓wps_T, wpsT_seq, wpsT_bndS, wprT_bnd, wprT_runB, sRet, sRetN, sNx, sBk, sCt, sIf, sAsg, sDrop, sSub, sPar, sPar3, sAug, eVar, eC, eOp1, eOp2, eNil, eCons, eTup, eLst, eIf, eAndV, eOrV, eNotV, eAndT, eOrT, eNotT, eTest, eTru, eChain, eCallF, eCallB, eCallK, eKws, eNewD, eMeth, vAdd, vSub, vMul, vMod, vDiv, vNeg, vCmp, vCmpI, vEq, vIsN, eqF, vIx', vIx, vSet, bInt, bAbs, bLen', bLen, bIsi, tyN, tyIx, isA, truW, mtF, tyM, tgE, tgsE, L2.atI, L2.ixN, bMM, bMax, bMin, Q.small64, flatW, eqW, int_beq, add_atT, eSlice, eOpt, vCut, eIter, eEnum, mkEnum, eZip, mkZip, mkRange1, mkRange2, mkRange, wipeE, eTrue, add_oldT, put_oldT, lt_addT, ne_addT, Nat.add_assoc, filt_true, LIM, l4, l5, l6]
      simp [↓bind_T, ↓bindS_T, ↓thn_T, ↓wpr_T, ↓wps_T, wpsT_seq, wpsT_bndS, wprT_bnd, wprT_runB, sRet, sRetN, sNx, sBk, sCt, sIf, sAsg, sDrop, sSub, sPar, sPar3, sAug, eVar, eC, eOp1, eOp2, eNil, eCons, eTup, eLst, eIf, eAndV, eOrV, eNotV, eAndT, eOrT, eNotT, eTest, eTru, eChain, eCallF, eCallB, eCallK, eKws, eNewD, eMeth, vAdd, vSub, vMul, vMod, vDiv, vNeg, vCmp, vCmpI, vEq, vIsN, eqF, vIx', vIx, vSet, bInt, bAbs, bLen', bLen, bIsi, tyN, tyIx, isA, truW, mtF, tyM, tgE, tgsE, L2.atI, L2.ixN, bMM, bMax, bMin, Q.small64, flatW, eqW, int_beq, add_atT, eSlice, eOpt, vCut, eIter, eEnum, mkEnum, eZip, mkZip, mkRange1, mkRange2, mkRange, wipeE, eTrue, add_oldT, put_oldT, lt_addT, ne_addT, Nat.add_assoc, filt_true, bMaxL, bFold, intsW, intsW_fn]
      exact key (by decide +kernel) _ (by simp [↓bind_T, ↓bindS_T, ↓thn_T, ↓wpr_T, ↓wps_T, wpsT_seq, wpsT_bndS, wprT_bnd, wprT_runB, sRet, sRetN, sNx, sBk, sCt, sIf, sAsg, sDrop, sSub, sPar, sPar3, sAug, eVar, eC, eOp1, eOp2, eNil, eCons, eTup, eLst, eIf, eAndV, eOrV, eNotV, eAndT, eOrT, eNotT, eTest, eTru, eChain, eCallF, eCallB, eCallK, eKws, eNewD, eMeth, vAdd, vSub, vMul, vMod, vDiv, vNeg, vCmp, vCmpI, vEq, vIsN, eqF, vIx', vIx, vSet, bInt, bAbs, bLen', bLen, bIsi, tyN, tyIx, isA, truW, mtF, tyM, tgE, tgsE, L2.atI, L2.ixN, bMM, bMax, bMin, Q.small64, flatW, eqW, int_beq, add_atT, eSlice, eOpt, vCut, eIter, eEnum, mkEnum, eZip, mkZip, mkRange1, mkRange2, mkRange, wipeE, eTrue, add_oldT, put_oldT, lt_addT, ne_addT, Nat.add_assoc, filt_true]) (by simp) (by (repeat (first | assumption | exact Ext.refl | refine Ext.add ?_ _)))
    · simp [↓bind_T, ↓bindS_T, ↓thn_T, ↓wpr_T, ↓wps_T, wpsT_seq, wpsT_bndS, wprT_bnd, wprT_runB, sRet, sRetN, sNx, sBk, sCt, sIf, sAsg, sDrop, sSub, sPar, sPar3, sAug, eVar, eC, eOp1, eOp2, eNil, eCons, eTup, eLst, eIf, eAndV, eOrV, eNotV, eAndT, eOrT, eNotT, eTest, eTru, eChain, eCallF, eCallB, eCallK, eKws, eNewD, eMeth, vAdd, vSub, vMul, vMod, vDiv, vNeg, vCmp, vCmpI, vEq, vIsN, eqF, vIx', vIx, vSet, bInt, bAbs, bLen', bLen, bIsi, tyN, tyIx, isA, truW, mtF, tyM, tgE, tgsE, L2.atI, L2.ixN, bMM, bMax, bMin, Q.small64, flatW, eqW, int_beq, add_atT, eSlice, eOpt, vCut, eIter, eEnum, mkEnum, eZip, mkZip, mkRange1, mkRange2, mkRange, wipeE, eTrue, add_oldT, put_oldT, lt_addT, ne_addT, Nat.add_assoc, filt_true, LIM, l4, l5, l6, eLenSet]
      refine wpr_eq (mkLenSet_eq (ns := pk.map plus ++ (sd pk slot v).map fun d => slot + d) (by simp [↓bind_T, ↓bindS_T, ↓thn_T, ↓wpr_T, ↓wps_T, wpsT_seq, wpsT_bndS, wprT_bnd, wprT_runB, sRet, sRetN, sNx, sBk, sCt, sIf, sAsg, sDrop, sSub, sPar, sPar3, sAug, eVar, eC, eOp1, eOp2, eNil, eCons, eTup, eLst, eIf, eAndV, eOrV, eNotV, eAndT, eOrT, eNotT, eTest, eTru, eChain, eCallF, eCallB, eCallK, eKws, eNewD, eMeth, vAdd, vSub, vMul, vMod, vDiv, vNeg, vCmp, vCmpI, vEq, vIsN, eqF, vIx', vIx, vSet, bInt, bAbs, bLen', bLen, bIsi, tyN, tyIx, isA, truW, mtF, tyM, tgE, tgsE, L2.atI, L2.ixN, bMM, bMax, bMin, Q.small64, flatW, eqW, int_beq, add_atT, eSlice, eOpt, vCut, eIter, eEnum, mkEnum, eZip, mkZip, mkRange1, mkRange2, mkRange, wipeE, eTrue, add_oldT, put_oldT, lt_addT, ne_addT, Nat.add_assoc, filt_true]) (intsW_two _ _ _ _) (by simp; exact l7)) ?_
      simp [↓bind_T, ↓bindS_T, ↓thn_T, ↓wpr_T, ↓wps_T, wpsT_seq, wpsT_bndS, wprT_bnd, wprT_runB, sRet, sRetN, sNx, sBk, sCt, sIf, sAsg, sDrop, sSub, sPar, sPar3, sAug, eVar, eC, eOp1, eOp2, eNil, eCons, eTup, eLst, eIf, eAndV, eOrV, eNotV, eAndT, eOrT, eNotT, eTest, eTru, eChain, eCallF, eCallB, eCallK, eKws, eNewD, eMeth, vAdd, vSub, vMul, vMod, vDiv, vNeg, vCmp, vCmpI, vEq, vIsN, eqF, vIx', vIx, vSet, bInt, bAbs, bLen', bLen, bIsi, tyN, tyIx, isA, truW, mtF, tyM, tgE, tgsE, L2.atI, L2.ixN, bMM, bMax, bMin, Q.small64, flatW, eqW, int_beq, add_atT, eSlice, eOpt, vCut, eIter, eEnum, mkEnum, eZip, mkZip, mkRange1, mkRange2, mkRange, wipeE, eTrue, add_oldT, put_oldT, lt_addT, ne_addT, Nat.add_assoc, filt_true, stand, hall, leavesOf]
      exact ⟨rfl, by (repeat (first | assumption | exact Ext.refl | refine Ext.add ?_ _))⟩
end K16
namespace K16
open PySem Q
abbrev rW (rows : List (List Int)) : List W := rows.map fun r => W.tup (iW r)
def moreOf (z : Nat) (row : List Int) : List (List Int) := ((List.range (z + 1)).filter fun (d : Nat) => !row.contains (d : Int)).map fun (d : Nat) => row ++ [(d : Int)]
def vals2 (z : Nat) : Nat → List (List Int) × List (List Int)
  | 0 => ([[]], [[]])
  | k + 1 => ((vals2 z k).1 ++ fm (moreOf z) (vals2 z k).2, fm (moreOf z) (vals2 z k).2)
theorem flat_iW (ds : List Int) : (iW ds).all flatW = true := by
  rw [List.all_map, List.all_eq_true]
  exact fun _ _ => rfl
theorem in_iW (ds : List Int) (d : Int) : inW (.int d) (iW ds) = ds.contains d := by
  unfold inW
  induction ds with
  | nil => rfl
  | cons x r ih =>
    simp only [List.map_cons, List.any_cons, ih, List.contains_cons]
    congr 1
    by_cases h : x = d
    · subst h; simp [eqW]
    · have h2 : ¬ d = x := fun z => h z.symm
      simp [eqW, int_beq, h, h2]
theorem vin_iW (ds : List Int) (d : Int) (s : Store) : vIn' true (.int d) (.tup (iW ds)) s = .ok (.bl (!ds.contains d)) s := by
  show (if (flatW (.int d) && (iW ds).all flatW) = true then Res.ok (W.bl (if true = true then !inW (.int d) (iW ds) else inW (.int d) (iW ds))) s else .err) = _
  rw [in_iW, flat_iW]
  rfl
theorem small_v : ∀ z, z < 4 → ∀ k, k < 5 → (vals2 z k).1.length ≤ 200 ∧ (vals2 z k).2.length ≤ 200 := by decide +kernel
theorem small_r : ∀ z, z < 4 → ∀ k, k < 5 → ∀ r ∈ (vals2 z k).2, r.length ≤ 4 := by decide +kernel
theorem e_more (w : Str) (n : Int) (z : Nat) (hz : z < 4) (row : List Int) (hrow : row.length ≤ 16777215) (x y v : Option W) (A B L : Nat) (t : Store) : wpr (eLc (mkRange1 (eCons (eOp2 vAdd (eVar 1) (eC (W.int 1))) eNil)) [3] (.nm 3) (eTest (eOp2 (vCmp .NotIn) (eVar 3) (eVar 8))) (eOp2 vAdd (eVar 8) (eTup (eCons (eCallB bInt (eCons (eVar 3) eNil)) eNil)))
    [some (.tup [.str w, .int n]), some (.int z), none, none, some (.ref A), some (.ref B), x, some (.ref L), some (.tup (iW row))] t) fun a s => a = .ref t.n ∧ s = t.add (.lst (rW (moreOf z row))) := by
  have hr : rgOk ((z : Int) + 1) = true := Nat.ble_eq_true_of_le (by omega)
  have hr0 : ((z : Int) + 1).toNat = z + 1 := by omega
  refine wpr_lc (List.range (z + 1)) (fun i => W.int (0 + (i : Nat))) (fun i => .tup (iW (row ++ [(i : Int)]))) (fun i => !row.contains (i : Int)) (iv := .rng 0 1 (z + 1)) (s1 := t) (by simp [↓bind_T, ↓bindS_T, ↓thn_T, ↓wpr_T, ↓wps_T, wpsT_seq, wpsT_bndS, wprT_bnd, wprT_runB, sRet, sRetN, sNx, sBk, sCt, sIf, sAsg, sDrop, sSub, sPar, sPar3, sAug, eVar, eC, eOp1, eOp2, eNil, eCons, eTup, eLst, eIf, eAndV, eOrV, eNotV, eAndT, eOrT, eNotT, eTest, eTru, eChain, eCallF, eCallB, eCallK, eKws, eNewD, eMeth, vAdd, vSub, vMul, vMod, vDiv, vNeg, vCmp, vCmpI, vEq, vIsN, eqF, vIx', vIx, vSet, bInt, bAbs, bLen', bLen, bIsi, tyN, tyIx, isA, truW, mtF, tyM, tgE, tgsE, L2.atI, L2.ixN, bMM, bMax, bMin, Q.small64, flatW, eqW, int_beq, add_atT, eSlice, eOpt, vCut, eIter, eEnum, mkEnum, eZip, mkZip, mkRange1, mkRange2, mkRange, wipeE, eTrue, add_oldT, put_oldT, lt_addT, ne_addT, Nat.add_assoc, filt_true, hr, hr0]) (by simp [itFuel]) (by simp [LIM]; omega) (fun i acc => at_rng)
    (fun a ha => ⟨_, by simp [tgE, tgsE, wipeE]; rfl, fun acc => ⟨by simp [↓bind_T, ↓bindS_T, ↓thn_T, ↓wpr_T, ↓wps_T, wpsT_seq, wpsT_bndS, wprT_bnd, wprT_runB, sRet, sRetN, sNx, sBk, sCt, sIf, sAsg, sDrop, sSub, sPar, sPar3, sAug, eVar, eC, eOp1, eOp2, eNil, eCons, eTup, eLst, eIf, eAndV, eOrV, eNotV, eAndT, eOrT, eNotT, eTest, eTru, eChain, eCallF, eCallB, eCallK, eKws, eNewD, eMeth, vAdd, vSub, vMul, vMod, vDiv, vNeg, vCmp, vCmpI, vEq, vIsN, eqF, vIx', vIx, vSet, bInt, bAbs, bLen', bLen, bIsi, tyN, tyIx, isA, truW, mtF, tyM, tgE, tgsE, L2.atI, L2.ixN, bMM, bMax, bMin, Q.small64, flatW, eqW, int_beq, add_atT, eSlice, eOpt, vCut, eIter, eEnum, mkEnum, eZip, mkZip, mkRange1, mkRange2, mkRange, wipeE, eTrue, add_oldT, put_oldT, lt_addT, ne_addT, Nat.add_assoc, filt_true, vin_iW], fun _ => by simp [↓bind_T, ↓bindS_T, ↓thn_T, ↓wpr_T, ↓wps_T, wpsT_seq, wpsT_bndS, wprT_bnd, wprT_runB, sRet, sRetN, sNx, sBk, sCt, sIf, sAsg, sDrop, sSub, sPar, sPar3, sAug, eVar, eC, eOp1, eOp2, eNil, eCons, eTup, eLst, eIf, eAndV, eOrV, eNotV, eAndT, eOrT, eNotT, eTest, eTru, eChain, eCallF, eCallB, eCallK, eKws, eNewD, eMeth, vAdd, vSub, vMul, vMod, vDiv, vNeg, vCmp, vCmpI, vEq, vIsN, eqF, vIx', vIx, vSet, bInt, bAbs, bLen', bLen, bIsi, tyN, tyIx, isA, truW, mtF, tyM, tgE, tgsE, L2.atI, L2.ixN, bMM, bMax, bMin, Q.small64, flatW, eqW, int_beq, add_atT, eSlice, eOpt, vCut, eIter, eEnum, mkEnum, eZip, mkZip, mkRange1, mkRange2, mkRange, wipeE, eTrue, add_oldT, put_oldT, lt_addT, ne_addT, Nat.add_assoc, filt_true, LIM, hrow]⟩⟩) ?_
  exact ⟨rfl, by simp [moreOf, List.map_map, Function.comp_def]⟩
theorem e_values2 {w : Str} {k z : Nat} (hw : w = "order" ∨ w = "any") (hk : k < 5) (hz : z < 4) (s : Store) : Lst s (φ__law_slot_values [.tup [.str w, .int (k : Int)], .int (z : Int)] s) (rW (vals2 z k).1) := by
  refine Lst.of ?_
  have hq : (w = Str.ofString "queue") = False := by rcases hw with rfl | rfl <;> simp
  have hr : rgOk (k : Int) = true := Nat.ble_eq_true_of_le (by omega)
  simp [↓bind_T, ↓bindS_T, ↓thn_T, ↓wpr_T, ↓wps_T, wpsT_seq, wpsT_bndS, wprT_bnd, wprT_runB, sRet, sRetN, sNx, sBk, sCt, sIf, sAsg, sDrop, sSub, sPar, sPar3, sAug, eVar, eC, eOp1, eOp2, eNil, eCons, eTup, eLst, eIf, eAndV, eOrV, eNotV, eAndT, eOrT, eNotT, eTest, eTru, eChain, eCallF, eCallB, eCallK, eKws, eNewD, eMeth, vAdd, vSub, vMul, vMod, vDiv, vNeg, vCmp, vCmpI, vEq, vIsN, eqF, vIx', vIx, vSet, bInt, bAbs, bLen', bLen, bIsi, tyN, tyIx, isA, truW, mtF, tyM, tgE, tgsE, L2.atI, L2.ixN, bMM, bMax, bMin, Q.small64, flatW, eqW, int_beq, add_atT, eSlice, eOpt, vCut, eIter, eEnum, mkEnum, eZip, mkZip, mkRange1, mkRange2, mkRange, wipeE, eTrue, add_oldT, put_oldT, lt_addT, ne_addT, Nat.add_assoc, filt_true, φ__law_slot_values, m__law_slot_values, LIM, hq]
  refine wps_for (iv := .rng 0 1 k) (s1 := (s.add (.lst [.tup []])).add (.lst [.tup []])) (ws := (List.range k).map fun i => W.int (0 + (i : Nat))) (by simp [↓bind_T, ↓bindS_T, ↓thn_T, ↓wpr_T, ↓wps_T, wpsT_seq, wpsT_bndS, wprT_bnd, wprT_runB, sRet, sRetN, sNx, sBk, sCt, sIf, sAsg, sDrop, sSub, sPar, sPar3, sAug, eVar, eC, eOp1, eOp2, eNil, eCons, eTup, eLst, eIf, eAndV, eOrV, eNotV, eAndT, eOrT, eNotT, eTest, eTru, eChain, eCallF, eCallB, eCallK, eKws, eNewD, eMeth, vAdd, vSub, vMul, vMod, vDiv, vNeg, vCmp, vCmpI, vEq, vIsN, eqF, vIx', vIx, vSet, bInt, bAbs, bLen', bLen, bIsi, tyN, tyIx, isA, truW, mtF, tyM, tgE, tgsE, L2.atI, L2.ixN, bMM, bMax, bMin, Q.small64, flatW, eqW, int_beq, add_atT, eSlice, eOpt, vCut, eIter, eEnum, mkEnum, eZip, mkZip, mkRange1, mkRange2, mkRange, wipeE, eTrue, add_oldT, put_oldT, lt_addT, ne_addT, Nat.add_assoc, filt_true, hr]) (by simp [itFuel])
    (fun j e t => ∃ A B x y v, e = [some (.tup [.str w, .int (k : Int)]), some (.int (z : Int)), none, none, some (.ref A), some (.ref B), x, y, v] ∧ t.f A = some (.lst (rW (vals2 z j).1)) ∧ t.f B = some (.lst (rW (vals2 z j).2)) ∧ s.n ≤ A ∧ A < t.n ∧ s.n ≤ B ∧ B < t.n ∧ Ext [] s t ∧ j ≤ k) (fun j e t _ => at_rng) ?_ ?_ ?_
  · exact ⟨_, _, _, _, _, rfl, by simp [↓bind_T, ↓bindS_T, ↓thn_T, ↓wpr_T, ↓wps_T, wpsT_seq, wpsT_bndS, wprT_bnd, wprT_runB, sRet, sRetN, sNx, sBk, sCt, sIf, sAsg, sDrop, sSub, sPar, sPar3, sAug, eVar, eC, eOp1, eOp2, eNil, eCons, eTup, eLst, eIf, eAndV, eOrV, eNotV, eAndT, eOrT, eNotT, eTest, eTru, eChain, eCallF, eCallB, eCallK, eKws, eNewD, eMeth, vAdd, vSub, vMul, vMod, vDiv, vNeg, vCmp, vCmpI, vEq, vIsN, eqF, vIx', vIx, vSet, bInt, bAbs, bLen', bLen, bIsi, tyN, tyIx, isA, truW, mtF, tyM, tgE, tgsE, L2.atI, L2.ixN, bMM, bMax, bMin, Q.small64, flatW, eqW, int_beq, add_atT, eSlice, eOpt, vCut, eIter, eEnum, mkEnum, eZip, mkZip, mkRange1, mkRange2, mkRange, wipeE, eTrue, add_oldT, put_oldT, lt_addT, ne_addT, Nat.add_assoc, filt_true, vals2], by simp [↓bind_T, ↓bindS_T, ↓thn_T, ↓wpr_T, ↓wps_T, wpsT_seq, wpsT_bndS, wprT_bnd, wprT_runB, sRet, sRetN, sNx, sBk, sCt, sIf, sAsg, sDrop, sSub, sPar, sPar3, sAug, eVar, eC, eOp1, eOp2, eNil, eCons, eTup, eLst, eIf, eAndV, eOrV, eNotV, eAndT, eOrT, eNotT, eTest, eTru, eChain, eCallF, eCallB, eCallK, eKws, eNewD, eMeth, vAdd, vSub, vMul, vMod, vDiv, vNeg, vCmp, vCmpI, vEq, vIsN, eqF, vIx', vIx, vSet, bInt, bAbs, bLen', bLen, bIsi, tyN, tyIx, isA, truW, mtF, tyM, tgE, tgsE, L2.atI, L2.ixN, bMM, bMax, bMin, Q.small64, flatW, eqW, int_beq, add_atT, eSlice, eOpt, vCut, eIter, eEnum, mkEnum, eZip, mkZip, mkRange1, mkRange2, mkRange, wipeE, eTrue, add_oldT, put_oldT, lt_addT, ne_addT, Nat.add_assoc, filt_true, vals2], by omega, by simp only [add_n]; omega, by simp, by simp, by (repeat (first | assumption | exact Ext.refl | refine Ext.add ?_ _)), by omega⟩
  · rintro j x e t ⟨A, B, x0, y0, v0, rfl, hA, hB, a1, a2, b1, b2, x1, hj⟩ hw'
    have hjk : j < k := by
      have := (List.getElem?_eq_some_iff.mp hw').1
      simpa using this
    refine ⟨_, by simp [tgE]; rfl, ?_⟩
    have sv := small_v z hz j (by omega)
    have sv2 := small_v z hz (j + 1) (by omega)
    have nA : (A = t.n) = False := eq_false (by omega)
    have nB : (B = t.n) = False := eq_false (by omega)
    simp [↓bind_T, ↓bindS_T, ↓thn_T, ↓wpr_T, ↓wps_T, wpsT_seq, wpsT_bndS, wprT_bnd, wprT_runB, sRet, sRetN, sNx, sBk, sCt, sIf, sAsg, sDrop, sSub, sPar, sPar3, sAug, eVar, eC, eOp1, eOp2, eNil, eCons, eTup, eLst, eIf, eAndV, eOrV, eNotV, eAndT, eOrT, eNotT, eTest, eTru, eChain, eCallF, eCallB, eCallK, eKws, eNewD, eMeth, vAdd, vSub, vMul, vMod, vDiv, vNeg, vCmp, vCmpI, vEq, vIsN, eqF, vIx', vIx, vSet, bInt, bAbs, bLen', bLen, bIsi, tyN, tyIx, isA, truW, mtF, tyM, tgE, tgsE, L2.atI, L2.ixN, bMM, bMax, bMin, Q.small64, flatW, eqW, int_beq, add_atT, eSlice, eOpt, vCut, eIter, eEnum, mkEnum, eZip, mkZip, mkRange1, mkRange2, mkRange, wipeE, eTrue, add_oldT, put_oldT, lt_addT, ne_addT, Nat.add_assoc, filt_true]
    refine wps_for (iv := .lst B) (s1 := t.add (.lst [])) (ws := rW (vals2 z j).2) (by simp [↓bind_T, ↓bindS_T, ↓thn_T, ↓wpr_T, ↓wps_T, wpsT_seq, wpsT_bndS, wprT_bnd, wprT_runB, sRet, sRetN, sNx, sBk, sCt, sIf, sAsg, sDrop, sSub, sPar, sPar3, sAug, eVar, eC, eOp1, eOp2, eNil, eCons, eTup, eLst, eIf, eAndV, eOrV, eNotV, eAndT, eOrT, eNotT, eTest, eTru, eChain, eCallF, eCallB, eCallK, eKws, eNewD, eMeth, vAdd, vSub, vMul, vMod, vDiv, vNeg, vCmp, vCmpI, vEq, vIsN, eqF, vIx', vIx, vSet, bInt, bAbs, bLen', bLen, bIsi, tyN, tyIx, isA, truW, mtF, tyM, tgE, tgsE, L2.atI, L2.ixN, bMM, bMax, bMin, Q.small64, flatW, eqW, int_beq, add_atT, eSlice, eOpt, vCut, eIter, eEnum, mkEnum, eZip, mkZip, mkRange1, mkRange2, mkRange, wipeE, eTrue, add_oldT, put_oldT, lt_addT, ne_addT, Nat.add_assoc, filt_true, hB, b2]) (by simp [↓bind_T, ↓bindS_T, ↓thn_T, ↓wpr_T, ↓wps_T, wpsT_seq, wpsT_bndS, wprT_bnd, wprT_runB, sRet, sRetN, sNx, sBk, sCt, sIf, sAsg, sDrop, sSub, sPar, sPar3, sAug, eVar, eC, eOp1, eOp2, eNil, eCons, eTup, eLst, eIf, eAndV, eOrV, eNotV, eAndT, eOrT, eNotT, eTest, eTru, eChain, eCallF, eCallB, eCallK, eKws, eNewD, eMeth, vAdd, vSub, vMul, vMod, vDiv, vNeg, vCmp, vCmpI, vEq, vIsN, eqF, vIx', vIx, vSet, bInt, bAbs, bLen', bLen, bIsi, tyN, tyIx, isA, truW, mtF, tyM, tgE, tgsE, L2.atI, L2.ixN, bMM, bMax, bMin, Q.small64, flatW, eqW, int_beq, add_atT, eSlice, eOpt, vCut, eIter, eEnum, mkEnum, eZip, mkZip, mkRange1, mkRange2, mkRange, wipeE, eTrue, add_oldT, put_oldT, lt_addT, ne_addT, Nat.add_assoc, filt_true, itFuel, hB, b2])
      (fun i e u => ∃ v, e = [some (.tup [.str w, .int (k : Int)]), some (.int (z : Int)), none, none, some (.ref A), some (.ref B), some x, some (.ref t.n), v] ∧ u.f A = some (.lst (rW (vals2 z j).1)) ∧ u.f B = some (.lst (rW (vals2 z j).2)) ∧ u.f t.n = some (.lst (rW (fm (moreOf z) ((vals2 z j).2.take i)))) ∧ t.n < u.n ∧ Ext [] s u) (fun i e u ⟨_, _, _, h, _⟩ => by simp only [itAt, h]) ?_ ?_ ?_
    · exact ⟨_, rfl, by simp [↓bind_T, ↓bindS_T, ↓thn_T, ↓wpr_T, ↓wps_T, wpsT_seq, wpsT_bndS, wprT_bnd, wprT_runB, sRet, sRetN, sNx, sBk, sCt, sIf, sAsg, sDrop, sSub, sPar, sPar3, sAug, eVar, eC, eOp1, eOp2, eNil, eCons, eTup, eLst, eIf, eAndV, eOrV, eNotV, eAndT, eOrT, eNotT, eTest, eTru, eChain, eCallF, eCallB, eCallK, eKws, eNewD, eMeth, vAdd, vSub, vMul, vMod, vDiv, vNeg, vCmp, vCmpI, vEq, vIsN, eqF, vIx', vIx, vSet, bInt, bAbs, bLen', bLen, bIsi, tyN, tyIx, isA, truW, mtF, tyM, tgE, tgsE, L2.atI, L2.ixN, bMM, bMax, bMin, Q.small64, flatW, eqW, int_beq, add_atT, eSlice, eOpt, vCut, eIter, eEnum, mkEnum, eZip, mkZip, mkRange1, mkRange2, mkRange, wipeE, eTrue, add_oldT, put_oldT, lt_addT, ne_addT, Nat.add_assoc, filt_true, hA, a2], by simp [↓bind_T, ↓bindS_T, ↓thn_T, ↓wpr_T, ↓wps_T, wpsT_seq, wpsT_bndS, wprT_bnd, wprT_runB, sRet, sRetN, sNx, sBk, sCt, sIf, sAsg, sDrop, sSub, sPar, sPar3, sAug, eVar, eC, eOp1, eOp2, eNil, eCons, eTup, eLst, eIf, eAndV, eOrV, eNotV, eAndT, eOrT, eNotT, eTest, eTru, eChain, eCallF, eCallB, eCallK, eKws, eNewD, eMeth, vAdd, vSub, vMul, vMod, vDiv, vNeg, vCmp, vCmpI, vEq, vIsN, eqF, vIx', vIx, vSet, bInt, bAbs, bLen', bLen, bIsi, tyN, tyIx, isA, truW, mtF, tyM, tgE, tgsE, L2.atI, L2.ixN, bMM, bMax, bMin, Q.small64, flatW, eqW, int_beq, add_atT, eSlice, eOpt, vCut, eIter, eEnum, mkEnum, eZip, mkZip, mkRange1, mkRange2, mkRange, wipeE, eTrue, add_oldT, put_oldT, lt_addT, ne_addT, Nat.add_assoc, filt_true, hB, b2], by simp [↓bind_T, ↓bindS_T, ↓thn_T, ↓wpr_T, ↓wps_T, wpsT_seq, wpsT_bndS, wprT_bnd, wprT_runB, sRet, sRetN, sNx, sBk, sCt, sIf, sAsg, sDrop, sSub, sPar, sPar3, sAug, eVar, eC, eOp1, eOp2, eNil, eCons, eTup, eLst, eIf, eAndV, eOrV, eNotV, eAndT, eOrT, eNotT, eTest, eTru, eChain, eCallF, eCallB, eCallK, eKws, eNewD, eMeth, vAdd, vSub, vMul, vMod, vDiv, vNeg, vCmp, vCmpI, vEq, vIsN, eqF, vIx', vIx, vSet, bInt, bAbs, bLen', bLen, bIsi, tyN, tyIx, isA, truW, mtF, tyM, tgE, tgsE, L2.atI, L2.ixN, bMM, bMax, bMin, Q.small64, flatW, eqW, int_beq, add_atT, eSlice, eOpt, vCut, eIter, eEnum, mkEnum, eZip, mkZip, mkRange1, mkRange2, mkRange, wipeE, eTrue, add_oldT, put_oldT, lt_addT, ne_addT, Nat.add_assoc, filt_true, fm_nil], by simp, by (repeat (first | assumption | exact Ext.refl | refine Ext.add ?_ _))⟩
    · rintro i r e u ⟨v, rfl, h1, h2, h3, h4, h5⟩ hr'
      rw [List.getElem?_map] at hr'
      cases q : (vals2 z j).2[i]? with
      | none => rw [q] at hr'; cases hr'
      | some row =>
        rw [q] at hr'
        cases hr'
        refine ⟨_, by simp [tgE]; rfl, ?_⟩
        simp [↓bind_T, ↓bindS_T, ↓thn_T, ↓wpr_T, ↓wps_T, wpsT_seq, wpsT_bndS, wprT_bnd, wprT_runB, sRet, sRetN, sNx, sBk, sCt, sIf, sAsg, sDrop, sSub, sPar, sPar3, sAug, eVar, eC, eOp1, eOp2, eNil, eCons, eTup, eLst, eIf, eAndV, eOrV, eNotV, eAndT, eOrT, eNotT, eTest, eTru, eChain, eCallF, eCallB, eCallK, eKws, eNewD, eMeth, vAdd, vSub, vMul, vMod, vDiv, vNeg, vCmp, vCmpI, vEq, vIsN, eqF, vIx', vIx, vSet, bInt, bAbs, bLen', bLen, bIsi, tyN, tyIx, isA, truW, mtF, tyM, tgE, tgsE, L2.atI, L2.ixN, bMM, bMax, bMin, Q.small64, flatW, eqW, int_beq, add_atT, eSlice, eOpt, vCut, eIter, eEnum, mkEnum, eZip, mkZip, mkRange1, mkRange2, mkRange, wipeE, eTrue, add_oldT, put_oldT, lt_addT, ne_addT, Nat.add_assoc, filt_true, h3]
        refine wpr_mono (e_more w k z hz row (by have := small_r z hz j (by omega) row (List.mem_of_getElem? q); omega) _ none none A B t.n u) ?_
        rintro a u' ⟨rfl, rfl⟩
        have ft := fm_le (moreOf z) (vals2 z j).2 (i + 1)
        have fs := fm_succ (moreOf z) q
        have l1 : (fm (moreOf z) (vals2 z j).2).length ≤ 200 := sv2.2
        have l2 : (fm (moreOf z) ((vals2 z j).2.take i)).length + (moreOf z row).length ≤ 16777216 := by
          rw [fs, List.length_append] at ft
          omega
        have n1 : (t.n = u.n) = False := eq_false (by omega)
        have nA' : (A = u.n) = False := eq_false (by omega)
        have nB' : (B = u.n) = False := eq_false (by omega)
        have A2 : (A < u.n) = True := eq_true (by omega)
        have B2 : (B < u.n) = True := eq_true (by omega)
        have fe : Ext [] s ((u.add (.lst (rW (moreOf z row)))).put t.n (.lst (rW (fm (moreOf z) ((vals2 z j).2.take i)) ++ rW (moreOf z row)))) := (h5.add _).put _ (.inr (by have := x1.n; omega))
        simp [↓bind_T, ↓bindS_T, ↓thn_T, ↓wpr_T, ↓wps_T, wpsT_seq, wpsT_bndS, wprT_bnd, wprT_runB, sRet, sRetN, sNx, sBk, sCt, sIf, sAsg, sDrop, sSub, sPar, sPar3, sAug, eVar, eC, eOp1, eOp2, eNil, eCons, eTup, eLst, eIf, eAndV, eOrV, eNotV, eAndT, eOrT, eNotT, eTest, eTru, eChain, eCallF, eCallB, eCallK, eKws, eNewD, eMeth, vAdd, vSub, vMul, vMod, vDiv, vNeg, vCmp, vCmpI, vEq, vIsN, eqF, vIx', vIx, vSet, bInt, bAbs, bLen', bLen, bIsi, tyN, tyIx, isA, truW, mtF, tyM, tgE, tgsE, L2.atI, L2.ixN, bMM, bMax, bMin, Q.small64, flatW, eqW, int_beq, add_atT, eSlice, eOpt, vCut, eIter, eEnum, mkEnum, eZip, mkZip, mkRange1, mkRange2, mkRange, wipeE, eTrue, add_oldT, put_oldT, lt_addT, ne_addT, Nat.add_assoc, filt_true, mExtend, n1, h4, h3, LIM, l2, nA, nB, A2, B2, h1, h2]
        rw [fs]
        and_intros <;> first | exact fe | omega | simp
    · rintro e u ⟨v, rfl, h1, h2, h3, h4, h5⟩
      have l1 : (fm (moreOf z) (vals2 z j).2).length ≤ 200 := sv2.2
      have l3 : (vals2 z j).1.length + (fm (moreOf z) (vals2 z j).2).length ≤ 16777216 := by omega
      simp only [List.length_map, List.take_length] at h3
      simp [↓bind_T, ↓bindS_T, ↓thn_T, ↓wpr_T, ↓wps_T, wpsT_seq, wpsT_bndS, wprT_bnd, wprT_runB, sRet, sRetN, sNx, sBk, sCt, sIf, sAsg, sDrop, sSub, sPar, sPar3, sAug, eVar, eC, eOp1, eOp2, eNil, eCons, eTup, eLst, eIf, eAndV, eOrV, eNotV, eAndT, eOrT, eNotT, eTest, eTru, eChain, eCallF, eCallB, eCallK, eKws, eNewD, eMeth, vAdd, vSub, vMul, vMod, vDiv, vNeg, vCmp, vCmpI, vEq, vIsN, eqF, vIx', vIx, vSet, bInt, bAbs, bLen', bLen, bIsi, tyN, tyIx, isA, truW, mtF, tyM, tgE, tgsE, L2.atI, L2.ixN, bMM, bMax, bMin, Q.small64, flatW, eqW, int_beq, add_atT, eSlice, eOpt, vCut, eIter, eEnum, mkEnum, eZip, mkZip, mkRange1, mkRange2, mkRange, wipeE, eTrue, add_oldT, put_oldT, lt_addT, ne_addT, Nat.add_assoc, filt_true, h1, h3, LIM, l3]
      have sn := x1.n
      exact ⟨_, _, ⟨rfl, rfl⟩, by simp [↓bind_T, ↓bindS_T, ↓thn_T, ↓wpr_T, ↓wps_T, wpsT_seq, wpsT_bndS, wprT_bnd, wprT_runB, sRet, sRetN, sNx, sBk, sCt, sIf, sAsg, sDrop, sSub, sPar, sPar3, sAug, eVar, eC, eOp1, eOp2, eNil, eCons, eTup, eLst, eIf, eAndV, eOrV, eNotV, eAndT, eOrT, eNotT, eTest, eTru, eChain, eCallF, eCallB, eCallK, eKws, eNewD, eMeth, vAdd, vSub, vMul, vMod, vDiv, vNeg, vCmp, vCmpI, vEq, vIsN, eqF, vIx', vIx, vSet, bInt, bAbs, bLen', bLen, bIsi, tyN, tyIx, isA, truW, mtF, tyM, tgE, tgsE, L2.atI, L2.ixN, bMM, bMax, bMin, Q.small64, flatW, eqW, int_beq, add_atT, eSlice, eOpt, vCut, eIter, eEnum, mkEnum, eZip, mkZip, mkRange1, mkRange2, mkRange, wipeE, eTrue, add_oldT, put_oldT, lt_addT, ne_addT, Nat.add_assoc, filt_true, vals2], by simp [↓bind_T, ↓bindS_T, ↓thn_T, ↓wpr_T, ↓wps_T, wpsT_seq, wpsT_bndS, wprT_bnd, wprT_runB, sRet, sRetN, sNx, sBk, sCt, sIf, sAsg, sDrop, sSub, sPar, sPar3, sAug, eVar, eC, eOp1, eOp2, eNil, eCons, eTup, eLst, eIf, eAndV, eOrV, eNotV, eAndT, eOrT, eNotT, eTest, eTru, eChain, eCallF, eCallB, eCallK, eKws, eNewD, eMeth, vAdd, vSub, vMul, vMod, vDiv, vNeg, vCmp, vCmpI, vEq, vIsN, eqF, vIx', vIx, vSet, bInt, bAbs, bLen', bLen, bIsi, tyN, tyIx, isA, truW, mtF, tyM, tgE, tgsE, L2.atI, L2.ixN, bMM, bMax, bMin, Q.small64, flatW, eqW, int_beq, add_atT, eSlice, eOpt, vCut, eIter, eEnum, mkEnum, eZip, mkZip, mkRange1, mkRange2, mkRange, wipeE, eTrue, add_oldT, put_oldT, lt_addT, ne_addT, Nat.add_assoc, filt_true, vals2, h3, h4], by omega, by omega, by omega, by omega, by (repeat (first | assumption | exact Ext.refl | refine Ext.add ?_ _)), by omega⟩
  · rintro e t ⟨A, B, x0, y0, v0, rfl, hA, hB, a1, a2, b1, b2, x1, hj⟩
    simp [↓bind_T, ↓bindS_T, ↓thn_T, ↓wpr_T, ↓wps_T, wpsT_seq, wpsT_bndS, wprT_bnd, wprT_runB, sRet, sRetN, sNx, sBk, sCt, sIf, sAsg, sDrop, sSub, sPar, sPar3, sAug, eVar, eC, eOp1, eOp2, eNil, eCons, eTup, eLst, eIf, eAndV, eOrV, eNotV, eAndT, eOrT, eNotT, eTest, eTru, eChain, eCallF, eCallB, eCallK, eKws, eNewD, eMeth, vAdd, vSub, vMul, vMod, vDiv, vNeg, vCmp, vCmpI, vEq, vIsN, eqF, vIx', vIx, vSet, bInt, bAbs, bLen', bLen, bIsi, tyN, tyIx, isA, truW, mtF, tyM, tgE, tgsE, L2.atI, L2.ixN, bMM, bMax, bMin, Q.small64, flatW, eqW, int_beq, add_atT, eSlice, eOpt, vCut, eIter, eEnum, mkEnum, eZip, mkZip, mkRange1, mkRange2, mkRange, wipeE, eTrue, add_oldT, put_oldT, lt_addT, ne_addT, Nat.add_assoc, filt_true]
    simp at hA
    exact ⟨hA, a1, a2, x1⟩
end K16
namespace K16
open PySem Q
theorem e_valuesQ {k z : Nat} (hk : k < 5) (s : Store) : Lst s (φ__law_slot_values [.tup [.str "queue", .int (k : Int)], .int (z : Int)] s) ((List.range (k + 1)).map fun (i : Nat) => W.int (i : Int)) := by
  refine Lst.of ?_
  have hr : rgOk ((k : Int) + 1) = true := Nat.ble_eq_true_of_le (by omega)
  have hr0 : ((k : Int) + 1).toNat = k + 1 := by omega
  simp [↓bind_T, ↓bindS_T, ↓thn_T, ↓wpr_T, ↓wps_T, wpsT_seq, wpsT_bndS, wprT_bnd, wprT_runB, sRet, sRetN, sNx, sBk, sCt, sIf, sAsg, sDrop, sSub, sPar, sPar3, sAug, eVar, eC, eOp1, eOp2, eNil, eCons, eTup, eLst, eIf, eAndV, eOrV, eNotV, eAndT, eOrT, eNotT, eTest, eTru, eChain, eCallF, eCallB, eCallK, eKws, eNewD, eMeth, vAdd, vSub, vMul, vMod, vDiv, vNeg, vCmp, vCmpI, vEq, vIsN, eqF, vIx', vIx, vSet, bInt, bAbs, bLen', bLen, bIsi, tyN, tyIx, isA, truW, mtF, tyM, tgE, tgsE, L2.atI, L2.ixN, bMM, bMax, bMin, Q.small64, flatW, eqW, int_beq, add_atT, eSlice, eOpt, vCut, eIter, eEnum, mkEnum, eZip, mkZip, mkRange1, mkRange2, mkRange, wipeE, eTrue, add_oldT, put_oldT, lt_addT, ne_addT, Nat.add_assoc, filt_true, φ__law_slot_values, m__law_slot_values]
  refine wpr_lc (List.range (k + 1)) (fun i => W.int (0 + (i : Nat))) (fun i => .int (i : Nat)) (fun _ => true) (iv := .rng 0 1 (k + 1)) (s1 := s) (by simp [↓bind_T, ↓bindS_T, ↓thn_T, ↓wpr_T, ↓wps_T, wpsT_seq, wpsT_bndS, wprT_bnd, wprT_runB, sRet, sRetN, sNx, sBk, sCt, sIf, sAsg, sDrop, sSub, sPar, sPar3, sAug, eVar, eC, eOp1, eOp2, eNil, eCons, eTup, eLst, eIf, eAndV, eOrV, eNotV, eAndT, eOrT, eNotT, eTest, eTru, eChain, eCallF, eCallB, eCallK, eKws, eNewD, eMeth, vAdd, vSub, vMul, vMod, vDiv, vNeg, vCmp, vCmpI, vEq, vIsN, eqF, vIx', vIx, vSet, bInt, bAbs, bLen', bLen, bIsi, tyN, tyIx, isA, truW, mtF, tyM, tgE, tgsE, L2.atI, L2.ixN, bMM, bMax, bMin, Q.small64, flatW, eqW, int_beq, add_atT, eSlice, eOpt, vCut, eIter, eEnum, mkEnum, eZip, mkZip, mkRange1, mkRange2, mkRange, wipeE, eTrue, add_oldT, put_oldT, lt_addT, ne_addT, Nat.add_assoc, filt_true, hr, hr0]) (by simp [itFuel]) (by simp [LIM]; omega) (fun i acc => at_rng)
    (fun a ha => ⟨_, by simp [tgE, tgsE, wipeE]; rfl, fun acc => ⟨rfl, fun _ => by simp [↓bind_T, ↓bindS_T, ↓thn_T, ↓wpr_T, ↓wps_T, wpsT_seq, wpsT_bndS, wprT_bnd, wprT_runB, sRet, sRetN, sNx, sBk, sCt, sIf, sAsg, sDrop, sSub, sPar, sPar3, sAug, eVar, eC, eOp1, eOp2, eNil, eCons, eTup, eLst, eIf, eAndV, eOrV, eNotV, eAndT, eOrT, eNotT, eTest, eTru, eChain, eCallF, eCallB, eCallK, eKws, eNewD, eMeth, vAdd, vSub, vMul, vMod, vDiv, vNeg, vCmp, vCmpI, vEq, vIsN, eqF, vIx', vIx, vSet, bInt, bAbs, bLen', bLen, bIsi, tyN, tyIx, isA, truW, mtF, tyM, tgE, tgsE, L2.atI, L2.ixN, bMM, bMax, bMin, Q.small64, flatW, eqW, int_beq, add_atT, eSlice, eOpt, vCut, eIter, eEnum, mkEnum, eZip, mkZip, mkRange1, mkRange2, mkRange, wipeE, eTrue, add_oldT, put_oldT, lt_addT, ne_addT, Nat.add_assoc, filt_true]⟩⟩) ?_
  simp [↓bind_T, ↓bindS_T, ↓thn_T, ↓wpr_T, ↓wps_T, wpsT_seq, wpsT_bndS, wprT_bnd, wprT_runB, sRet, sRetN, sNx, sBk, sCt, sIf, sAsg, sDrop, sSub, sPar, sPar3, sAug, eVar, eC, eOp1, eOp2, eNil, eCons, eTup, eLst, eIf, eAndV, eOrV, eNotV, eAndT, eOrT, eNotT, eTest, eTru, eChain, eCallF, eCallB, eCallK, eKws, eNewD, eMeth, vAdd, vSub, vMul, vMod, vDiv, vNeg, vCmp, vCmpI, vEq, vIsN, eqF, vIx', vIx, vSet, bInt, bAbs, bLen', bLen, bIsi, tyN, tyIx, isA, truW, mtF, tyM, tgE, tgsE, L2.atI, L2.ixN, bMM, bMax, bMin, Q.small64, flatW, eqW, int_beq, add_atT, eSlice, eOpt, vCut, eIter, eEnum, mkEnum, eZip, mkZip, mkRange1, mkRange2, mkRange, wipeE, eTrue, add_oldT, put_oldT, lt_addT, ne_addT, Nat.add_assoc, filt_true]
  (repeat (first | assumption | exact Ext.refl | refine Ext.add ?_ _))
def isQ (w : Str) : Bool := decide (w = "queue")
def values (q : Bool) (k z : Nat) : List Vl := if q then (List.range (k + 1)).map .c else (vals2 z k).1.map .t
theorem small_f : ∀ z, z < 4 → ∀ k, k < 5 → ∀ r ∈ (vals2 z k).1, r.length ≤ k := by decide +kernel
/-- a world's bounds -/
structure Wd (w : Str) (k z : Nat) : Prop where
  w : w = "queue" ∨ w = "order" ∨ w = "any"
  k1 : 1 ≤ k
  k5 : k < 5
  z4 : z < 4
theorem Wd.sv {w : Str} {k z : Nat} (h : Wd w k z) : Sv w (k : Int) := ⟨h.w, by have := h.k1; omega, by have := h.k5; omega⟩
theorem Wd.vOk {w : Str} {k z : Nat} (h : Wd w k z) : ∀ v ∈ values (isQ w) k z, K16.vOk w (k : Int) v := by
  intro v hv
  unfold values isQ at hv
  by_cases q : w = "queue"
  · rw [decide_eq_true q, if_pos rfl, List.mem_map] at hv
    obtain ⟨i, hi, rfl⟩ := hv
    rw [List.mem_range] at hi
    exact ⟨q, by omega⟩
  · rw [decide_eq_false q, if_neg (by decide), List.mem_map] at hv
    obtain ⟨r, hr, rfl⟩ := hv
    have := small_f z h.z4 k h.k5 r hr
    exact ⟨h.w.resolve_left q, by omega⟩
theorem e_values {w : Str} {k z : Nat} (h : Wd w k z) (s : Store) : Lst s (φ__law_slot_values [.tup [.str w, .int (k : Int)], .int (z : Int)] s) ((values (isQ w) k z).map vW) := by
  unfold values isQ
  by_cases q : w = "queue"
  · rw [decide_eq_true q, if_pos rfl, List.map_map]
    subst q
    exact e_valuesQ h.k5 s
  · rw [decide_eq_false q, if_neg (by decide), List.map_map]
    exact e_values2 (h.w.resolve_left q) h.k5 h.z4 s
/-- the scripts of a slot more -/
def moreS (w : Str) (k z slot : Nat) (sc : List Vl) : List (List Vl) := ((values (isQ w) k z).filter fun v => stand w z (pkOf sc) slot v).map fun v => sc ++ [v]
def allS (w : Str) (k z : Nat) : Nat → List (List Vl)
  | 0 => [[]]
  | j + 1 => fm (moreS w k z j) (allS w k z j)
abbrev scW (sc : List Vl) : W := .tup (sc.map vW)
theorem mem_fm {α β : Type} {f : α → List β} {l : List α} {b : β} (h : b ∈ fm f l) : ∃ a ∈ l, b ∈ f a := List.mem_flatMap.mp h
theorem allS_ok {w : Str} {k z : Nat} (h : Wd w k z) : ∀ (j : Nat) (sc : List Vl), sc ∈ allS w k z j → sc.length = j ∧ ∀ v ∈ sc, vOk w (k : Int) v
  | 0, sc, hs => by
    simp [allS] at hs
    subst hs
    exact ⟨rfl, fun _ z => by cases z⟩
  | j + 1, sc, hs => by
    obtain ⟨sc0, h0, h1⟩ := mem_fm hs
    obtain ⟨l0, v0⟩ := allS_ok h j sc0 h0
    unfold moreS at h1
    rw [List.mem_map] at h1
    obtain ⟨v, hv, rfl⟩ := h1
    refine ⟨by simp [l0], fun u hu => ?_⟩
    rw [List.mem_append] at hu
    rcases hu with hu | hu
    · exact v0 u hu
    · simp at hu
      subst hu
      exact h.vOk u (List.mem_filter.mp hv).1
theorem e_all {w : Str} {k z sl : Nat} (h : Wd w k z) (hsl : sl < 6) (hb : ∀ j, j ≤ sl → (allS w k z j).length ≤ 10000) (s : Store) : Lst s (φ__law_all_scripts [.tup [.str w, .int (k : Int)], .int (z : Int), .int (sl : Int)] s) ((allS w k z sl).map scW) := by
  refine Lst.of ?_
  have hr : rgOk (sl : Int) = true := Nat.ble_eq_true_of_le (by omega)
  simp [↓bind_T, ↓bindS_T, ↓thn_T, ↓wpr_T, ↓wps_T, wpsT_seq, wpsT_bndS, wprT_bnd, wprT_runB, sRet, sRetN, sNx, sBk, sCt, sIf, sAsg, sDrop, sSub, sPar, sPar3, sAug, eVar, eC, eOp1, eOp2, eNil, eCons, eTup, eLst, eIf, eAndV, eOrV, eNotV, eAndT, eOrT, eNotT, eTest, eTru, eChain, eCallF, eCallB, eCallK, eKws, eNewD, eMeth, vAdd, vSub, vMul, vMod, vDiv, vNeg, vCmp, vCmpI, vEq, vIsN, eqF, vIx', vIx, vSet, bInt, bAbs, bLen', bLen, bIsi, tyN, tyIx, isA, truW, mtF, tyM, tgE, tgsE, L2.atI, L2.ixN, bMM, bMax, bMin, Q.small64, flatW, eqW, int_beq, add_atT, eSlice, eOpt, vCut, eIter, eEnum, mkEnum, eZip, mkZip, mkRange1, mkRange2, mkRange, wipeE, eTrue, add_oldT, put_oldT, lt_addT, ne_addT, Nat.add_assoc, filt_true, φ__law_all_scripts, m__law_all_scripts, LIM]
  refine wps_for (iv := .rng 0 1 sl) (s1 := s.add (.lst [.tup []])) (ws := (List.range sl).map fun i => W.int (0 + (i : Nat))) (by simp [↓bind_T, ↓bindS_T, ↓thn_T, ↓wpr_T, ↓wps_T, wpsT_seq, wpsT_bndS, wprT_bnd, wprT_runB, sRet, sRetN, sNx, sBk, sCt, sIf, sAsg, sDrop, sSub, sPar, sPar3, sAug, eVar, eC, eOp1, eOp2, eNil, eCons, eTup, eLst, eIf, eAndV, eOrV, eNotV, eAndT, eOrT, eNotT, eTest, eTru, eChain, eCallF, eCallB, eCallK, eKws, eNewD, eMeth, vAdd, vSub, vMul, vMod, vDiv, vNeg, vCmp, vCmpI, vEq, vIsN, eqF, vIx', vIx, vSet, bInt, bAbs, bLen', bLen, bIsi, tyN, tyIx, isA, truW, mtF, tyM, tgE, tgsE, L2.atI, L2.ixN, bMM, bMax, bMin, Q.small64, flatW, eqW, int_beq, add_atT, eSlice, eOpt, vCut, eIter, eEnum, mkEnum, eZip, mkZip, mkRange1, mkRange2, mkRange, wipeE, eTrue, add_oldT, put_oldT, lt_addT, ne_addT, Nat.add_assoc, filt_true, hr]) (by simp [itFuel])
    (fun j e t => ∃ R x5 x6 x7 x8 x4, e = [some (.tup [.str w, .int (k : Int)]), some (.int (z : Int)), some (.int (sl : Int)), some (.ref R), x4, x5, x6, x7, x8] ∧ t.f R = some (.lst ((allS w k z j).map scW)) ∧ s.n ≤ R ∧ R < t.n ∧ Ext [] s t ∧ j ≤ sl) (fun j e t _ => at_rng) ?_ ?_ ?_
  · exact ⟨_, _, _, _, _, _, rfl, by simp [↓bind_T, ↓bindS_T, ↓thn_T, ↓wpr_T, ↓wps_T, wpsT_seq, wpsT_bndS, wprT_bnd, wprT_runB, sRet, sRetN, sNx, sBk, sCt, sIf, sAsg, sDrop, sSub, sPar, sPar3, sAug, eVar, eC, eOp1, eOp2, eNil, eCons, eTup, eLst, eIf, eAndV, eOrV, eNotV, eAndT, eOrT, eNotT, eTest, eTru, eChain, eCallF, eCallB, eCallK, eKws, eNewD, eMeth, vAdd, vSub, vMul, vMod, vDiv, vNeg, vCmp, vCmpI, vEq, vIsN, eqF, vIx', vIx, vSet, bInt, bAbs, bLen', bLen, bIsi, tyN, tyIx, isA, truW, mtF, tyM, tgE, tgsE, L2.atI, L2.ixN, bMM, bMax, bMin, Q.small64, flatW, eqW, int_beq, add_atT, eSlice, eOpt, vCut, eIter, eEnum, mkEnum, eZip, mkZip, mkRange1, mkRange2, mkRange, wipeE, eTrue, add_oldT, put_oldT, lt_addT, ne_addT, Nat.add_assoc, filt_true, allS], by omega, by simp, by (repeat (first | assumption | exact Ext.refl | refine Ext.add ?_ _)), by omega⟩
  · rintro j x e t ⟨R, x5, x6, x7, x8, x4, rfl, hR, r1, r2, x1, hj⟩ hw'
    have hjk : j < sl := by
      have := (List.getElem?_eq_some_iff.mp hw').1
      simpa using this
    have hx : x = .int (j : Int) := by
      rw [List.getElem?_map, List.getElem?_range hjk] at hw'
      simp at hw'
      exact hw'.symm
    subst hx
    refine ⟨_, by simp [tgE]; rfl, ?_⟩
    have b1 := hb (j + 1) (by omega)
    have sn := x1.n
    simp [↓bind_T, ↓bindS_T, ↓thn_T, ↓wpr_T, ↓wps_T, wpsT_seq, wpsT_bndS, wprT_bnd, wprT_runB, sRet, sRetN, sNx, sBk, sCt, sIf, sAsg, sDrop, sSub, sPar, sPar3, sAug, eVar, eC, eOp1, eOp2, eNil, eCons, eTup, eLst, eIf, eAndV, eOrV, eNotV, eAndT, eOrT, eNotT, eTest, eTru, eChain, eCallF, eCallB, eCallK, eKws, eNewD, eMeth, vAdd, vSub, vMul, vMod, vDiv, vNeg, vCmp, vCmpI, vEq, vIsN, eqF, vIx', vIx, vSet, bInt, bAbs, bLen', bLen, bIsi, tyN, tyIx, isA, truW, mtF, tyM, tgE, tgsE, L2.atI, L2.ixN, bMM, bMax, bMin, Q.small64, flatW, eqW, int_beq, add_atT, eSlice, eOpt, vCut, eIter, eEnum, mkEnum, eZip, mkZip, mkRange1, mkRange2, mkRange, wipeE, eTrue, add_oldT, put_oldT, lt_addT, ne_addT, Nat.add_assoc, filt_true]
    refine wps_for (iv := .lst R) (s1 := t.add (.lst [])) (ws := (allS w k z j).map scW) (by simp [↓bind_T, ↓bindS_T, ↓thn_T, ↓wpr_T, ↓wps_T, wpsT_seq, wpsT_bndS, wprT_bnd, wprT_runB, sRet, sRetN, sNx, sBk, sCt, sIf, sAsg, sDrop, sSub, sPar, sPar3, sAug, eVar, eC, eOp1, eOp2, eNil, eCons, eTup, eLst, eIf, eAndV, eOrV, eNotV, eAndT, eOrT, eNotT, eTest, eTru, eChain, eCallF, eCallB, eCallK, eKws, eNewD, eMeth, vAdd, vSub, vMul, vMod, vDiv, vNeg, vCmp, vCmpI, vEq, vIsN, eqF, vIx', vIx, vSet, bInt, bAbs, bLen', bLen, bIsi, tyN, tyIx, isA, truW, mtF, tyM, tgE, tgsE, L2.atI, L2.ixN, bMM, bMax, bMin, Q.small64, flatW, eqW, int_beq, add_atT, eSlice, eOpt, vCut, eIter, eEnum, mkEnum, eZip, mkZip, mkRange1, mkRange2, mkRange, wipeE, eTrue, add_oldT, put_oldT, lt_addT, ne_addT, Nat.add_assoc, filt_true, hR, r2]) (by simp [↓bind_T, ↓bindS_T, ↓thn_T, ↓wpr_T, ↓wps_T, wpsT_seq, wpsT_bndS, wprT_bnd, wprT_runB, sRet, sRetN, sNx, sBk, sCt, sIf, sAsg, sDrop, sSub, sPar, sPar3, sAug, eVar, eC, eOp1, eOp2, eNil, eCons, eTup, eLst, eIf, eAndV, eOrV, eNotV, eAndT, eOrT, eNotT, eTest, eTru, eChain, eCallF, eCallB, eCallK, eKws, eNewD, eMeth, vAdd, vSub, vMul, vMod, vDiv, vNeg, vCmp, vCmpI, vEq, vIsN, eqF, vIx', vIx, vSet, bInt, bAbs, bLen', bLen, bIsi, tyN, tyIx, isA, truW, mtF, tyM, tgE, tgsE, L2.atI, L2.ixN, bMM, bMax, bMin, Q.small64, flatW, eqW, int_beq, add_atT, eSlice, eOpt, vCut, eIter, eEnum, mkEnum, eZip, mkZip, mkRange1, mkRange2, mkRange, wipeE, eTrue, add_oldT, put_oldT, lt_addT, ne_addT, Nat.add_assoc, filt_true, itFuel, hR, r2])
      (fun i e u => ∃ x6 x7 x8, e = [some (.tup [.str w, .int (k : Int)]), some (.int (z : Int)), some (.int (sl : Int)), some (.ref R), some (.int (j : Int)), some (.ref t.n), x6, x7, x8] ∧ u.f R = some (.lst ((allS w k z j).map scW)) ∧ u.f t.n = some (.lst ((fm (moreS w k z j) ((allS w k z j).take i)).map scW)) ∧ t.n < u.n ∧ Ext [] s u) (fun i e u ⟨_, _, _, _, h, _⟩ => by simp only [itAt, h]) ?_ ?_ ?_
    · exact ⟨_, _, _, rfl, by simp [↓bind_T, ↓bindS_T, ↓thn_T, ↓wpr_T, ↓wps_T, wpsT_seq, wpsT_bndS, wprT_bnd, wprT_runB, sRet, sRetN, sNx, sBk, sCt, sIf, sAsg, sDrop, sSub, sPar, sPar3, sAug, eVar, eC, eOp1, eOp2, eNil, eCons, eTup, eLst, eIf, eAndV, eOrV, eNotV, eAndT, eOrT, eNotT, eTest, eTru, eChain, eCallF, eCallB, eCallK, eKws, eNewD, eMeth, vAdd, vSub, vMul, vMod, vDiv, vNeg, vCmp, vCmpI, vEq, vIsN, eqF, vIx', vIx, vSet, bInt, bAbs, bLen', bLen, bIsi, tyN, tyIx, isA, truW, mtF, tyM, tgE, tgsE, L2.atI, L2.ixN, bMM, bMax, bMin, Q.small64, flatW, eqW, int_beq, add_atT, eSlice, eOpt, vCut, eIter, eEnum, mkEnum, eZip, mkZip, mkRange1, mkRange2, mkRange, wipeE, eTrue, add_oldT, put_oldT, lt_addT, ne_addT, Nat.add_assoc, filt_true, hR, r2], by simp [↓bind_T, ↓bindS_T, ↓thn_T, ↓wpr_T, ↓wps_T, wpsT_seq, wpsT_bndS, wprT_bnd, wprT_runB, sRet, sRetN, sNx, sBk, sCt, sIf, sAsg, sDrop, sSub, sPar, sPar3, sAug, eVar, eC, eOp1, eOp2, eNil, eCons, eTup, eLst, eIf, eAndV, eOrV, eNotV, eAndT, eOrT, eNotT, eTest, eTru, eChain, eCallF, eCallB, eCallK, eKws, eNewD, eMeth, vAdd, vSub, vMul, vMod, vDiv, vNeg, vCmp, vCmpI, vEq, vIsN, eqF, vIx', vIx, vSet, bInt, bAbs, bLen', bLen, bIsi, tyN, tyIx, isA, truW, mtF, tyM, tgE, tgsE, L2.atI, L2.ixN, bMM, bMax, bMin, Q.small64, flatW, eqW, int_beq, add_atT, eSlice, eOpt, vCut, eIter, eEnum, mkEnum, eZip, mkZip, mkRange1, mkRange2, mkRange, wipeE, eTrue, add_oldT, put_oldT, lt_addT, ne_addT, Nat.add_assoc, filt_true, fm_nil], by simp, by (repeat (first | assumption | exact Ext.refl | refine Ext.add ?_ _))⟩
    · rintro i r e u ⟨x6, x7, x8, rfl, h1, h2, h3, h4⟩ hr'
      rw [List.getElem?_map] at hr'
      cases q : (allS w k z j)[i]? with
      | none => rw [q] at hr'; cases hr'
      | some sc =>
        rw [q] at hr'
        cases hr'
        refine ⟨_, by simp [tgE]; rfl, ?_⟩
        obtain ⟨lsc, vsc⟩ := allS_ok h j sc (List.mem_of_getElem? q)
        obtain ⟨P, u1, eq1, p1, p2, p3, p4⟩ := e_packets h.sv vsc (by omega) u
        obtain ⟨V, u2, eq2, v1, v2, v3, v4⟩ := e_values h u1
        have fl := fm_le (moreS w k z j) (allS w k z j) (i + 1)
        have fs := fm_succ (moreS w k z j) q
        have hpk := pkN_len h.sv vsc sc.length
        simp [↓bind_T, ↓bindS_T, ↓thn_T, ↓wpr_T, ↓wps_T, wpsT_seq, wpsT_bndS, wprT_bnd, wprT_runB, sRet, sRetN, sNx, sBk, sCt, sIf, sAsg, sDrop, sSub, sPar, sPar3, sAug, eVar, eC, eOp1, eOp2, eNil, eCons, eTup, eLst, eIf, eAndV, eOrV, eNotV, eAndT, eOrT, eNotT, eTest, eTru, eChain, eCallF, eCallB, eCallK, eKws, eNewD, eMeth, vAdd, vSub, vMul, vMod, vDiv, vNeg, vCmp, vCmpI, vEq, vIsN, eqF, vIx', vIx, vSet, bInt, bAbs, bLen', bLen, bIsi, tyN, tyIx, isA, truW, mtF, tyM, tgE, tgsE, L2.atI, L2.ixN, bMM, bMax, bMin, Q.small64, flatW, eqW, int_beq, add_atT, eSlice, eOpt, vCut, eIter, eEnum, mkEnum, eZip, mkZip, mkRange1, mkRange2, mkRange, wipeE, eTrue, add_oldT, put_oldT, lt_addT, ne_addT, Nat.add_assoc, filt_true, eq1]
        refine wps_for (iv := .lst V) (s1 := u2) (ws := (values (isQ w) k z).map vW) (by simp [↓bind_T, ↓bindS_T, ↓thn_T, ↓wpr_T, ↓wps_T, wpsT_seq, wpsT_bndS, wprT_bnd, wprT_runB, sRet, sRetN, sNx, sBk, sCt, sIf, sAsg, sDrop, sSub, sPar, sPar3, sAug, eVar, eC, eOp1, eOp2, eNil, eCons, eTup, eLst, eIf, eAndV, eOrV, eNotV, eAndT, eOrT, eNotT, eTest, eTru, eChain, eCallF, eCallB, eCallK, eKws, eNewD, eMeth, vAdd, vSub, vMul, vMod, vDiv, vNeg, vCmp, vCmpI, vEq, vIsN, eqF, vIx', vIx, vSet, bInt, bAbs, bLen', bLen, bIsi, tyN, tyIx, isA, truW, mtF, tyM, tgE, tgsE, L2.atI, L2.ixN, bMM, bMax, bMin, Q.small64, flatW, eqW, int_beq, add_atT, eSlice, eOpt, vCut, eIter, eEnum, mkEnum, eZip, mkZip, mkRange1, mkRange2, mkRange, wipeE, eTrue, add_oldT, put_oldT, lt_addT, ne_addT, Nat.add_assoc, filt_true, eq2, v1]) (by simp [itFuel, v1])
          (fun l e y => ∃ x8, e = [some (.tup [.str w, .int (k : Int)]), some (.int (z : Int)), some (.int (sl : Int)), some (.ref R), some (.int (j : Int)), some (.ref t.n), some (scW sc), some (.ref P), x8] ∧ y.f R = some (.lst ((allS w k z j).map scW)) ∧ y.f P = some (.lst (pkW (pkOf sc))) ∧ y.f V = some (.lst ((values (isQ w) k z).map vW)) ∧
            y.f t.n = some (.lst ((fm (moreS w k z j) ((allS w k z j).take i) ++ (((values (isQ w) k z).take l).filter fun v => stand w z (pkOf sc) j v).map fun v => sc ++ [v]).map scW)) ∧ u2.n ≤ y.n ∧ Ext [] s y) (fun l e y ⟨_, _, _, _, h, _⟩ => by simp only [itAt, h]) ?_ ?_ ?_
        · have xx := p4.trans v4
          exact ⟨_, rfl, xx.at (by omega) h1, v4.at p3 p1, v1, by rw [xx.at h3 h2]; simp, Nat.le_refl _, h4.trans xx⟩
        · rintro l v' e y ⟨x8, rfl, g1, g2, g3, g4, g5, g6⟩ hv
          rw [List.getElem?_map] at hv
          cases qv : (values (isQ w) k z)[l]? with
          | none => rw [qv] at hv; cases hv
          | some v =>
            rw [qv] at hv
            cases hv
            refine ⟨_, by simp [tgE]; rfl, ?_⟩
            have n3 := v4.n
            obtain ⟨y1, eq3, yx⟩ := e_stand h.sv (h.vOk v (List.mem_of_getElem? qv)) (z : Int) (j : Int) (pkOf sc) (by unfold pkOf; omega) P y g2 (by omega)
            have tk : (values (isQ w) k z).take (l + 1) = (values (isQ w) k z).take l ++ [v] := by rw [List.take_add_one, qv]; rfl
            have g1' := yx.at (by omega) g1
            have g2' := yx.at (by omega) g2
            have g3' := yx.at (by omega) g3
            have g4' := yx.at (by omega) g4
            have n4 := yx.n
            cases hs : stand w (z : Int) (pkOf sc) (j : Int) v with
            | false =>
              simp [↓bind_T, ↓bindS_T, ↓thn_T, ↓wpr_T, ↓wps_T, wpsT_seq, wpsT_bndS, wprT_bnd, wprT_runB, sRet, sRetN, sNx, sBk, sCt, sIf, sAsg, sDrop, sSub, sPar, sPar3, sAug, eVar, eC, eOp1, eOp2, eNil, eCons, eTup, eLst, eIf, eAndV, eOrV, eNotV, eAndT, eOrT, eNotT, eTest, eTru, eChain, eCallF, eCallB, eCallK, eKws, eNewD, eMeth, vAdd, vSub, vMul, vMod, vDiv, vNeg, vCmp, vCmpI, vEq, vIsN, eqF, vIx', vIx, vSet, bInt, bAbs, bLen', bLen, bIsi, tyN, tyIx, isA, truW, mtF, tyM, tgE, tgsE, L2.atI, L2.ixN, bMM, bMax, bMin, Q.small64, flatW, eqW, int_beq, add_atT, eSlice, eOpt, vCut, eIter, eEnum, mkEnum, eZip, mkZip, mkRange1, mkRange2, mkRange, wipeE, eTrue, add_oldT, put_oldT, lt_addT, ne_addT, Nat.add_assoc, filt_true, eq3, hs]
              refine ⟨g1', g2', g3', ?_, by omega, g6.trans yx⟩
              rw [g4', tk]
              simp [hs]
            | true =>
              have lim1 : ((fm (moreS w k z j) ((allS w k z j).take i)) ++ (((values (isQ w) k z).take l).filter fun v => stand w z (pkOf sc) j v).map fun v => sc ++ [v]).length < 16777216 := by
                have a1 : ((((values (isQ w) k z).take l).filter fun v => stand w z (pkOf sc) j v).map fun v => sc ++ [v]).length ≤ (moreS w k z j sc).length := by
                  unfold moreS
                  rw [List.length_map, List.length_map]
                  exact (((List.take_sublist l _).filter _).length_le)
                rw [fs, List.length_append] at fl
                rw [List.length_append]
                have : (fm (moreS w k z j) (allS w k z j)).length ≤ 10000 := b1
                omega
              have lim2 : sc.length + 1 ≤ 16777216 := by omega
              have lim3 := lim1
              rw [← List.length_map (f := scW)] at lim3
              obtain ⟨XS, gX, hX⟩ : ∃ XS : List W, y1.f t.n = some (.lst XS) ∧ XS = ((fm (moreS w k z j) ((allS w k z j).take i)) ++ (((values (isQ w) k z).take l).filter fun v => stand w z (pkOf sc) j v).map fun v => sc ++ [v]).map scW := ⟨_, g4', rfl⟩
              rw [← hX] at lim3
              have nR : (R = t.n) = False := eq_false (by omega)
              have nP : (P = t.n) = False := eq_false (by omega)
              have nV : (V = t.n) = False := eq_false (by omega)
              have fe : Ext [] s (y1.put t.n (.lst (XS ++ [W.tup (sc.map vW ++ [vW v])]))) := (g6.trans yx).put _ (.inr (by omega))
              simp [↓bind_T, ↓bindS_T, ↓thn_T, ↓wpr_T, ↓wps_T, wpsT_seq, wpsT_bndS, wprT_bnd, wprT_runB, sRet, sRetN, sNx, sBk, sCt, sIf, sAsg, sDrop, sSub, sPar, sPar3, sAug, eVar, eC, eOp1, eOp2, eNil, eCons, eTup, eLst, eIf, eAndV, eOrV, eNotV, eAndT, eOrT, eNotT, eTest, eTru, eChain, eCallF, eCallB, eCallK, eKws, eNewD, eMeth, vAdd, vSub, vMul, vMod, vDiv, vNeg, vCmp, vCmpI, vEq, vIsN, eqF, vIx', vIx, vSet, bInt, bAbs, bLen', bLen, bIsi, tyN, tyIx, isA, truW, mtF, tyM, tgE, tgsE, L2.atI, L2.ixN, bMM, bMax, bMin, Q.small64, flatW, eqW, int_beq, add_atT, eSlice, eOpt, vCut, eIter, eEnum, mkEnum, eZip, mkZip, mkRange1, mkRange2, mkRange, wipeE, eTrue, add_oldT, put_oldT, lt_addT, ne_addT, Nat.add_assoc, filt_true, eq3, hs, LIM, lim2, gX, mAppend, lim3, nR, nP, nV, g1', g2', g3']
              refine ⟨?_, by omega, fe⟩
              rw [hX, tk]
              simp [hs]
        · rintro e y ⟨x8, rfl, g1, g2, g3, g4, g5, g6⟩
          have n3 := v4.n
          have n4 := p4.n
          have n5 : t.n < y.n := by omega
          have gg : y.f t.n = some (.lst ((fm (moreS w k z j) ((allS w k z j).take (i + 1))).map scW)) := by
            rw [g4, fs, List.length_map, List.take_length]
            rfl
          exact ⟨_, _, _, rfl, g1, gg, n5, g6⟩
    · rintro e u ⟨x6, x7, x8, rfl, h1, h2, h3, h4⟩
      rw [List.length_map, List.take_length] at h2
      simp [↓bind_T, ↓bindS_T, ↓thn_T, ↓wpr_T, ↓wps_T, wpsT_seq, wpsT_bndS, wprT_bnd, wprT_runB, sRet, sRetN, sNx, sBk, sCt, sIf, sAsg, sDrop, sSub, sPar, sPar3, sAug, eVar, eC, eOp1, eOp2, eNil, eCons, eTup, eLst, eIf, eAndV, eOrV, eNotV, eAndT, eOrT, eNotT, eTest, eTru, eChain, eCallF, eCallB, eCallK, eKws, eNewD, eMeth, vAdd, vSub, vMul, vMod, vDiv, vNeg, vCmp, vCmpI, vEq, vIsN, eqF, vIx', vIx, vSet, bInt, bAbs, bLen', bLen, bIsi, tyN, tyIx, isA, truW, mtF, tyM, tgE, tgsE, L2.atI, L2.ixN, bMM, bMax, bMin, Q.small64, flatW, eqW, int_beq, add_atT, eSlice, eOpt, vCut, eIter, eEnum, mkEnum, eZip, mkZip, mkRange1, mkRange2, mkRange, wipeE, eTrue, add_oldT, put_oldT, lt_addT, ne_addT, Nat.add_assoc, filt_true]
      exact ⟨h2, by omega, by omega, h4, by omega⟩
  · rintro e t ⟨R, x5, x6, x7, x8, x4, rfl, hR, r1, r2, x1, hj⟩
    simp [↓bind_T, ↓bindS_T, ↓thn_T, ↓wpr_T, ↓wps_T, wpsT_seq, wpsT_bndS, wprT_bnd, wprT_runB, sRet, sRetN, sNx, sBk, sCt, sIf, sAsg, sDrop, sSub, sPar, sPar3, sAug, eVar, eC, eOp1, eOp2, eNil, eCons, eTup, eLst, eIf, eAndV, eOrV, eNotV, eAndT, eOrT, eNotT, eTest, eTru, eChain, eCallF, eCallB, eCallK, eKws, eNewD, eMeth, vAdd, vSub, vMul, vMod, vDiv, vNeg, vCmp, vCmpI, vEq, vIsN, eqF, vIx', vIx, vSet, bInt, bAbs, bLen', bLen, bIsi, tyN, tyIx, isA, truW, mtF, tyM, tgE, tgsE, L2.atI, L2.ixN, bMM, bMax, bMin, Q.small64, flatW, eqW, int_beq, add_atT, eSlice, eOpt, vCut, eIter, eEnum, mkEnum, eZip, mkZip, mkRange1, mkRange2, mkRange, wipeE, eTrue, add_oldT, put_oldT, lt_addT, ne_addT, Nat.add_assoc, filt_true]
    simp at hR
    exact ⟨hR, r1, r2, x1⟩
end K16
namespace K16
open PySem Q
abbrev T3 := Int × Int × Int
def key (p : T3) : W := .tup [.int p.1, .int p.2.1, .int p.2.2]
theorem kd_key (p : T3) : kd (key p) = some false := rfl
theorem keq_key (p q : T3) : keq (key p) (key q) = decide (p = q) := by
  obtain ⟨a, b, c⟩ := p
  obtain ⟨x, y, z⟩ := q
  simp [keq, key, keqs, int_beq]
structure DK (kvs : List (W × W)) (S : T3 → Prop) : Prop where
  k : ∀ e ∈ kvs, ∃ q, e.1 = key q
  h : ∀ q, hasW kvs (key q) = true ↔ S q
theorem DK.nil : DK [] (fun _ => False) := ⟨(fun _ h => nomatch h), fun q => by simp [hasW]⟩
theorem DK.congr {kvs : List (W × W)} {S S' : T3 → Prop} (d : DK kvs S) (h : ∀ q, S q ↔ S' q) : DK kvs S' := ⟨d.k, fun q => (d.h q).trans (h q)⟩
theorem DK.put {kvs : List (W × W)} {S : T3 → Prop} (d : DK kvs S) (p : T3) (v : W) : DK (putW kvs (key p) v) (fun q => S q ∨ q = p) := by
  unfold putW
  by_cases hp : hasW kvs (key p) = true
  · rw [if_pos hp]
    refine ⟨fun e he => ?_, fun q => ?_⟩
    · rw [List.mem_map] at he
      obtain ⟨e0, h0, rfl⟩ := he
      obtain ⟨q, hq⟩ := d.k e0 h0
      refine ⟨q, ?_⟩
      split <;> exact hq
    · have e : hasW (kvs.map fun p_1 => if keq p_1.1 (key p) = true then (p_1.1, v) else p_1) (key q) = hasW kvs (key q) := by
        unfold hasW
        rw [List.any_map]
        congr 1
        funext x
        simp only [Function.comp]
        split <;> rfl
      rw [e, d.h]
      constructor
      · exact fun h => .inl h
      · rintro (h | rfl)
        · exact h
        · exact (d.h q).mp hp
  · rw [if_neg hp]
    refine ⟨fun e he => ?_, fun q => ?_⟩
    · rw [List.mem_append] at he
      rcases he with he | he
      · exact d.k e he
      · simp at he
        subst he
        exact ⟨p, rfl⟩
    · have e : hasW (kvs ++ [(key p, v)]) (key q) = (hasW kvs (key q) || decide (p = q)) := by
        unfold hasW
        rw [List.any_append]
        simp [keq_key]
      rw [e, Bool.or_eq_true, d.h, decide_eq_true_eq]
      exact or_congr Iff.rfl eq_comm
theorem putW_len (kvs : List (W × W)) (k v : W) : (putW kvs k v).length ≤ kvs.length + 1 := by
  unfold putW
  split
  · simp
  · simp
theorem DK.kind {kvs : List (W × W)} {S : T3 → Prop} (d : DK kvs S) (p : T3) : kindOk kvs (key p) = true := by
  unfold kindOk
  rw [kd_key]
  cases kvs with
  | nil => rfl
  | cons e r =>
    obtain ⟨q, hq⟩ := d.k e (by simp)
    simp only [hq, kd_key]
    rfl
theorem DK.isT {kvs : List (W × W)} {S : T3 → Prop} (d : DK kvs S) : isT kvs = true := by
  cases kvs with
  | nil => rfl
  | cons e r =>
    obtain ⟨q, hq⟩ := d.k e (by simp)
    show (kd e.1 == some false) = true
    rw [hq, kd_key]
    rfl
theorem DK.up : ∀ {more kvs : List (W × W)} {S T : T3 → Prop}, DK kvs S → DK more T → DK (upW kvs more) (fun q => S q ∨ T q)
  | [], kvs, S, T, d, e => d.congr fun q => ⟨fun h => .inl h, fun h => h.resolve_right fun z => by have := (e.h q).mpr z; simp [hasW] at this⟩
  | m :: r, kvs, S, T, d, e => by
    obtain ⟨p, hp⟩ := e.k m (by simp)
    have d2 := d.put p m.2
    rw [← hp] at d2
    have e2 : DK r (fun q => hasW r (key q) = true) := ⟨fun x hx => e.k x (by simp [hx]), fun q => Iff.rfl⟩
    have := DK.up d2 e2
    show DK (upW (putW kvs m.1 m.2) r) _
    refine this.congr fun q => ?_
    have hq := e.h q
    have : hasW (m :: r) (key q) = (decide (p = q) || hasW r (key q)) := by
      unfold hasW
      rw [List.any_cons, hp, keq_key]
    rw [this, Bool.or_eq_true, decide_eq_true_eq] at hq
    rw [← hq]
    constructor
    · rintro ((h | h) | h)
      · exact .inl h
      · exact .inr (.inl h.symm)
      · exact .inr (.inr h)
    · rintro (h | h | h)
      · exact .inl (.inl h)
      · exact .inl (.inr h.symm)
      · exact .inr h
theorem upW_len : ∀ (more kvs : List (W × W)), (upW kvs more).length ≤ kvs.length + more.length
  | [], kvs => Nat.le_refl _
  | m :: r, kvs => by
    have h := upW_len r (putW kvs m.1 m.2)
    have h2 := putW_len kvs m.1 m.2
    show (upW (putW kvs m.1 m.2) r).length ≤ _
    rw [List.length_cons]
    omega
theorem upW_ne {kvs more : List (W × W)} (h : kvs ≠ []) : upW kvs more ≠ [] := by
  induction more generalizing kvs with
  | nil => exact h
  | cons m r ih =>
    refine ih (kvs := putW kvs m.1 m.2) ?_
    unfold putW
    split
    · simpa using h
    · simp
theorem look_has (kvs : List (W × W)) (k : W) : (lookW kvs k).isSome = hasW kvs k := by
  unfold lookW hasW
  rw [Option.isSome_map]
  induction kvs with
  | nil => rfl
  | cons e r ih =>
    rw [List.find?_cons, List.any_cons]
    cases h : keq e.1 k with
    | true => rfl
    | false => simpa using ih
/-! ### the pairs of a script -/
def rowP (pk : List (Int × Int)) (i : Nat) : List T3 := match pk[i]? with
  | some p => (pk.drop (i + 1)).map fun q => (p.2, q.2, q.1 - p.1)
  | none => []
def pairsN (pk : List (Int × Int)) : Nat → List T3
  | 0 => []
  | i + 1 => pairsN pk i ++ rowP pk i
def pairsOf (pk : List (Int × Int)) : List T3 := pairsN pk pk.length
def dictOf (ps : List T3) : List (W × W) := ps.foldl (fun acc p => putW acc (key p) (.bl true)) []
theorem dictOf_snoc (ps : List T3) (p : T3) : dictOf (ps ++ [p]) = putW (dictOf ps) (key p) (.bl true) := by
  unfold dictOf
  rw [List.foldl_append]
  rfl
theorem dict_fold : ∀ (ps : List T3) {acc : List (W × W)} {S : T3 → Prop}, DK acc S → DK (ps.foldl (fun acc p => putW acc (key p) (.bl true)) acc) (fun q => S q ∨ q ∈ ps) ∧ (ps.foldl (fun acc p => putW acc (key p) (.bl true)) acc).length ≤ acc.length + ps.length
  | [], acc, S, d => ⟨d.congr fun q => by simp, Nat.le_refl _⟩
  | p :: r, acc, S, d => by
    obtain ⟨h1, h2⟩ := dict_fold r (d.put p (.bl true))
    refine ⟨h1.congr fun q => ?_, ?_⟩
    · simp only [List.mem_cons]
      constructor
      · rintro ((h | h) | h)
        · exact .inl h
        · exact .inr (.inl h)
        · exact .inr (.inr h)
      · rintro (h | h | h)
        · exact .inl (.inl h)
        · exact .inl (.inr h)
        · exact .inr h
    · have := putW_len acc (key p) (.bl true)
      rw [List.length_cons]
      rw [List.foldl_cons]
      omega
theorem dictOf_ok (ps : List T3) : DK (dictOf ps) (fun q => q ∈ ps) := (dict_fold ps DK.nil).1.congr fun q => by simp
theorem dictOf_len (ps : List T3) : (dictOf ps).length ≤ ps.length := by
  have := (dict_fold ps DK.nil).2
  unfold dictOf
  simpa using this
theorem dictOf_nil : dictOf [] = [] := rfl
theorem cut_from (pk : List (Int × Int)) (j : Nat) (h : j ≤ pk.length) : cutW (pkW pk) (some ((j : Nat) : Int)) none = pkW (pk.drop j) := by
  unfold cutW
  have e : HT.sIx (pkW pk).length 0 (some (j : Int)) = j := by
    show (if ((j : Nat) : Int) < 0 then (((j : Nat) : Int) + ((pkW pk).length : Int)).toNat else min ((j : Nat) : Int).toNat (pkW pk).length) = _
    rw [if_neg (by omega), List.length_map]
    omega
  have e2 : HT.sIx (pkW pk).length (pkW pk).length none = pk.length := by
    show (pkW pk).length = _
    rw [List.length_map]
  rw [e, e2, List.take_of_length_le (by simp)]
  exact List.map_drop.symm
theorem rowP_len (pk : List (Int × Int)) (i : Nat) : (rowP pk i).length ≤ pk.length := by
  unfold rowP
  cases pk[i]? with
  | none => simp
  | some p => simp
theorem pairsN_len (pk : List (Int × Int)) : ∀ i, (pairsN pk i).length ≤ i * pk.length
  | 0 => by simp [pairsN]
  | i + 1 => by
    have := pairsN_len pk i
    have := rowP_len pk i
    rw [pairsN, List.length_append, Nat.succ_mul]
    omega
theorem vset_key (D : Nat) (kvs : List (W × W)) (S : T3 → Prop) (d : DK kvs S) (p : T3) (hl : kvs.length < LIM) (s : Store) (h : s.f D = some (.dic kvs)) : vSet (.ref D) (key p) (.bl true) s = .ok () (s.put D (.dic (putW kvs (key p) (.bl true)))) := by
  unfold vSet
  simp only [h]
  exact if_pos ⟨d.kind p, hl⟩
theorem e_pairs (pk : List (Int × Int)) (hpk : pk.length ≤ 100) (P : Nat) (s : Store) (hP : s.f P = some (.lst (pkW pk))) (hPn : P < s.n) : wpr (φ__law_pairs_in [.ref P] s) fun w t => ∃ D, w = .ref D ∧ t.f D = some (.dic (dictOf (pairsOf pk))) ∧ s.n ≤ D ∧ D < t.n ∧ Ext [] s t := by
  simp [↓bind_T, ↓bindS_T, ↓thn_T, ↓wpr_T, ↓wps_T, wpsT_seq, wpsT_bndS, wprT_bnd, wprT_runB, sRet, sRetN, sNx, sBk, sCt, sIf, sAsg, sDrop, sSub, sPar, sPar3, sAug, eVar, eC, eOp1, eOp2, eNil, eCons, eTup, eLst, eIf, eAndV, eOrV, eNotV, eAndT, eOrT, eNotT, eTest, eTru, eChain, eCallF, eCallB, eCallK, eKws, eNewD, eMeth, vAdd, vSub, vMul, vMod, vDiv, vNeg, vCmp, vCmpI, vEq, vIsN, eqF, vIx', vIx, vSet, bInt, bAbs, bLen', bLen, bIsi, tyN, tyIx, isA, truW, mtF, tyM, tgE, tgsE, L2.atI, L2.ixN, bMM, bMax, bMin, Q.small64, flatW, eqW, int_beq, add_atT, eSlice, eOpt, vCut, eIter, eEnum, mkEnum, eZip, mkZip, mkRange1, mkRange2, mkRange, wipeE, eTrue, add_oldT, put_oldT, lt_addT, ne_addT, Nat.add_assoc, filt_true, φ__law_pairs_in, m__law_pairs_in]
  have hP1 : (s.add (.dic [])).f P = some (.lst (pkW pk)) := by rw [add_old _ _ hPn, hP]
  refine wps_for (iv := .enL P) (s1 := s.add (.dic [])) (ws := (pkW pk).zipIdx.map fun p => W.tup [.int (p.2 : Nat), p.1]) (by simp [↓bind_T, ↓bindS_T, ↓thn_T, ↓wpr_T, ↓wps_T, wpsT_seq, wpsT_bndS, wprT_bnd, wprT_runB, sRet, sRetN, sNx, sBk, sCt, sIf, sAsg, sDrop, sSub, sPar, sPar3, sAug, eVar, eC, eOp1, eOp2, eNil, eCons, eTup, eLst, eIf, eAndV, eOrV, eNotV, eAndT, eOrT, eNotT, eTest, eTru, eChain, eCallF, eCallB, eCallK, eKws, eNewD, eMeth, vAdd, vSub, vMul, vMod, vDiv, vNeg, vCmp, vCmpI, vEq, vIsN, eqF, vIx', vIx, vSet, bInt, bAbs, bLen', bLen, bIsi, tyN, tyIx, isA, truW, mtF, tyM, tgE, tgsE, L2.atI, L2.ixN, bMM, bMax, bMin, Q.small64, flatW, eqW, int_beq, add_atT, eSlice, eOpt, vCut, eIter, eEnum, mkEnum, eZip, mkZip, mkRange1, mkRange2, mkRange, wipeE, eTrue, add_oldT, put_oldT, lt_addT, ne_addT, Nat.add_assoc, filt_true, hP1]) (by simp [itFuel, hP1])
    (fun j e t => ∃ a b c d f, e = [some (.ref P), some (.ref s.n), a, b, c, d, f] ∧ t.f s.n = some (.dic (dictOf (pairsN pk j))) ∧ t.f P = some (.lst (pkW pk)) ∧ s.n < t.n ∧ Ext [] s t) (fun j e t ⟨_, _, _, _, _, _, _, h, _⟩ => ?_) ?_ ?_ ?_
  · simp only [itAt, h, List.getElem?_map, List.getElem?_zipIdx]
    cases pk[j]? <;> simp
  · exact ⟨_, _, _, _, _, rfl, by simp [↓bind_T, ↓bindS_T, ↓thn_T, ↓wpr_T, ↓wps_T, wpsT_seq, wpsT_bndS, wprT_bnd, wprT_runB, sRet, sRetN, sNx, sBk, sCt, sIf, sAsg, sDrop, sSub, sPar, sPar3, sAug, eVar, eC, eOp1, eOp2, eNil, eCons, eTup, eLst, eIf, eAndV, eOrV, eNotV, eAndT, eOrT, eNotT, eTest, eTru, eChain, eCallF, eCallB, eCallK, eKws, eNewD, eMeth, vAdd, vSub, vMul, vMod, vDiv, vNeg, vCmp, vCmpI, vEq, vIsN, eqF, vIx', vIx, vSet, bInt, bAbs, bLen', bLen, bIsi, tyN, tyIx, isA, truW, mtF, tyM, tgE, tgsE, L2.atI, L2.ixN, bMM, bMax, bMin, Q.small64, flatW, eqW, int_beq, add_atT, eSlice, eOpt, vCut, eIter, eEnum, mkEnum, eZip, mkZip, mkRange1, mkRange2, mkRange, wipeE, eTrue, add_oldT, put_oldT, lt_addT, ne_addT, Nat.add_assoc, filt_true, pairsN, dictOf_nil], hP1, by simp, by (repeat (first | assumption | exact Ext.refl | refine Ext.add ?_ _))⟩
  · rintro j x e t ⟨a, b, c, d, f, rfl, h1, h2, h3, h4⟩ hw
    simp only [List.getElem?_map, List.getElem?_zipIdx] at hw
    cases q : pk[j]? with
    | none => rw [q] at hw; cases hw
    | some p =>
      rw [q] at hw
      simp at hw
      subst hw
      have hj : j < pk.length := (List.getElem?_eq_some_iff.mp q).1
      refine ⟨_, by simp [tgE, tgsE]; rfl, ?_⟩
      have hn : P < t.n := by have := h4.n; omega
      have cu : cutW (pkW pk) (some (((j : Nat) : Int) + 1)) none = pkW (pk.drop (j + 1)) := cut_from pk (j + 1) (by omega)
      simp [↓bind_T, ↓bindS_T, ↓thn_T, ↓wpr_T, ↓wps_T, wpsT_seq, wpsT_bndS, wprT_bnd, wprT_runB, sRet, sRetN, sNx, sBk, sCt, sIf, sAsg, sDrop, sSub, sPar, sPar3, sAug, eVar, eC, eOp1, eOp2, eNil, eCons, eTup, eLst, eIf, eAndV, eOrV, eNotV, eAndT, eOrT, eNotT, eTest, eTru, eChain, eCallF, eCallB, eCallK, eKws, eNewD, eMeth, vAdd, vSub, vMul, vMod, vDiv, vNeg, vCmp, vCmpI, vEq, vIsN, eqF, vIx', vIx, vSet, bInt, bAbs, bLen', bLen, bIsi, tyN, tyIx, isA, truW, mtF, tyM, tgE, tgsE, L2.atI, L2.ixN, bMM, bMax, bMin, Q.small64, flatW, eqW, int_beq, add_atT, eSlice, eOpt, vCut, eIter, eEnum, mkEnum, eZip, mkZip, mkRange1, mkRange2, mkRange, wipeE, eTrue, add_oldT, put_oldT, lt_addT, ne_addT, Nat.add_assoc, filt_true]
      refine wps_for (iv := .lst t.n) (s1 := t.add (.lst (pkW (pk.drop (j + 1))))) (ws := pkW (pk.drop (j + 1))) (by simp [↓bind_T, ↓bindS_T, ↓thn_T, ↓wpr_T, ↓wps_T, wpsT_seq, wpsT_bndS, wprT_bnd, wprT_runB, sRet, sRetN, sNx, sBk, sCt, sIf, sAsg, sDrop, sSub, sPar, sPar3, sAug, eVar, eC, eOp1, eOp2, eNil, eCons, eTup, eLst, eIf, eAndV, eOrV, eNotV, eAndT, eOrT, eNotT, eTest, eTru, eChain, eCallF, eCallB, eCallK, eKws, eNewD, eMeth, vAdd, vSub, vMul, vMod, vDiv, vNeg, vCmp, vCmpI, vEq, vIsN, eqF, vIx', vIx, vSet, bInt, bAbs, bLen', bLen, bIsi, tyN, tyIx, isA, truW, mtF, tyM, tgE, tgsE, L2.atI, L2.ixN, bMM, bMax, bMin, Q.small64, flatW, eqW, int_beq, add_atT, eSlice, eOpt, vCut, eIter, eEnum, mkEnum, eZip, mkZip, mkRange1, mkRange2, mkRange, wipeE, eTrue, add_oldT, put_oldT, lt_addT, ne_addT, Nat.add_assoc, filt_true, h2, cu]) (by simp [↓bind_T, ↓bindS_T, ↓thn_T, ↓wpr_T, ↓wps_T, wpsT_seq, wpsT_bndS, wprT_bnd, wprT_runB, sRet, sRetN, sNx, sBk, sCt, sIf, sAsg, sDrop, sSub, sPar, sPar3, sAug, eVar, eC, eOp1, eOp2, eNil, eCons, eTup, eLst, eIf, eAndV, eOrV, eNotV, eAndT, eOrT, eNotT, eTest, eTru, eChain, eCallF, eCallB, eCallK, eKws, eNewD, eMeth, vAdd, vSub, vMul, vMod, vDiv, vNeg, vCmp, vCmpI, vEq, vIsN, eqF, vIx', vIx, vSet, bInt, bAbs, bLen', bLen, bIsi, tyN, tyIx, isA, truW, mtF, tyM, tgE, tgsE, L2.atI, L2.ixN, bMM, bMax, bMin, Q.small64, flatW, eqW, int_beq, add_atT, eSlice, eOpt, vCut, eIter, eEnum, mkEnum, eZip, mkZip, mkRange1, mkRange2, mkRange, wipeE, eTrue, add_oldT, put_oldT, lt_addT, ne_addT, Nat.add_assoc, filt_true, itFuel])
        (fun i e u => ∃ d f, e = [some (.ref P), some (.ref s.n), some (.int (j : Int)), some (.int p.1), some (.int p.2), d, f] ∧ u.f s.n = some (.dic (dictOf (pairsN pk j ++ (rowP pk j).take i))) ∧ u.f P = some (.lst (pkW pk)) ∧ u.f t.n = some (.lst (pkW (pk.drop (j + 1)))) ∧ t.n < u.n ∧ Ext [] s u) (fun i e u ⟨_, _, _, _, _, h, _⟩ => by simp only [itAt, h]) ?_ ?_ ?_
      · exact ⟨_, _, rfl, by simp [↓bind_T, ↓bindS_T, ↓thn_T, ↓wpr_T, ↓wps_T, wpsT_seq, wpsT_bndS, wprT_bnd, wprT_runB, sRet, sRetN, sNx, sBk, sCt, sIf, sAsg, sDrop, sSub, sPar, sPar3, sAug, eVar, eC, eOp1, eOp2, eNil, eCons, eTup, eLst, eIf, eAndV, eOrV, eNotV, eAndT, eOrT, eNotT, eTest, eTru, eChain, eCallF, eCallB, eCallK, eKws, eNewD, eMeth, vAdd, vSub, vMul, vMod, vDiv, vNeg, vCmp, vCmpI, vEq, vIsN, eqF, vIx', vIx, vSet, bInt, bAbs, bLen', bLen, bIsi, tyN, tyIx, isA, truW, mtF, tyM, tgE, tgsE, L2.atI, L2.ixN, bMM, bMax, bMin, Q.small64, flatW, eqW, int_beq, add_atT, eSlice, eOpt, vCut, eIter, eEnum, mkEnum, eZip, mkZip, mkRange1, mkRange2, mkRange, wipeE, eTrue, add_oldT, put_oldT, lt_addT, ne_addT, Nat.add_assoc, filt_true, h1, h3], by simp [↓bind_T, ↓bindS_T, ↓thn_T, ↓wpr_T, ↓wps_T, wpsT_seq, wpsT_bndS, wprT_bnd, wprT_runB, sRet, sRetN, sNx, sBk, sCt, sIf, sAsg, sDrop, sSub, sPar, sPar3, sAug, eVar, eC, eOp1, eOp2, eNil, eCons, eTup, eLst, eIf, eAndV, eOrV, eNotV, eAndT, eOrT, eNotT, eTest, eTru, eChain, eCallF, eCallB, eCallK, eKws, eNewD, eMeth, vAdd, vSub, vMul, vMod, vDiv, vNeg, vCmp, vCmpI, vEq, vIsN, eqF, vIx', vIx, vSet, bInt, bAbs, bLen', bLen, bIsi, tyN, tyIx, isA, truW, mtF, tyM, tgE, tgsE, L2.atI, L2.ixN, bMM, bMax, bMin, Q.small64, flatW, eqW, int_beq, add_atT, eSlice, eOpt, vCut, eIter, eEnum, mkEnum, eZip, mkZip, mkRange1, mkRange2, mkRange, wipeE, eTrue, add_oldT, put_oldT, lt_addT, ne_addT, Nat.add_assoc, filt_true, h2, hn], by simp [↓bind_T, ↓bindS_T, ↓thn_T, ↓wpr_T, ↓wps_T, wpsT_seq, wpsT_bndS, wprT_bnd, wprT_runB, sRet, sRetN, sNx, sBk, sCt, sIf, sAsg, sDrop, sSub, sPar, sPar3, sAug, eVar, eC, eOp1, eOp2, eNil, eCons, eTup, eLst, eIf, eAndV, eOrV, eNotV, eAndT, eOrT, eNotT, eTest, eTru, eChain, eCallF, eCallB, eCallK, eKws, eNewD, eMeth, vAdd, vSub, vMul, vMod, vDiv, vNeg, vCmp, vCmpI, vEq, vIsN, eqF, vIx', vIx, vSet, bInt, bAbs, bLen', bLen, bIsi, tyN, tyIx, isA, truW, mtF, tyM, tgE, tgsE, L2.atI, L2.ixN, bMM, bMax, bMin, Q.small64, flatW, eqW, int_beq, add_atT, eSlice, eOpt, vCut, eIter, eEnum, mkEnum, eZip, mkZip, mkRange1, mkRange2, mkRange, wipeE, eTrue, add_oldT, put_oldT, lt_addT, ne_addT, Nat.add_assoc, filt_true], by simp, by (repeat (first | assumption | exact Ext.refl | refine Ext.add ?_ _))⟩
      · rintro i x e u ⟨d, f, rfl, g1, g2, g3, g4, g5⟩ hx
        rw [List.getElem?_map] at hx
        cases qq : (pk.drop (j + 1))[i]? with
        | none => rw [qq] at hx; cases hx
        | some r =>
          rw [qq] at hx
          cases hx
          refine ⟨_, by simp [tgE, tgsE]; rfl, ?_⟩
          have er : (rowP pk j)[i]? = some (p.2, r.2, r.1 - p.1) := by
            unfold rowP
            rw [q]
            simp only [List.getElem?_map, qq]
            rfl
          have tk : (rowP pk j).take (i + 1) = (rowP pk j).take i ++ [(p.2, r.2, r.1 - p.1)] := by rw [List.take_add_one, er]; rfl
          have ln : (dictOf (pairsN pk j ++ (rowP pk j).take i)).length < LIM := by
            have a1 := dictOf_len (pairsN pk j ++ (rowP pk j).take i)
            have a2 := pairsN_len pk j
            have a3 := rowP_len pk j
            have a4 : j * pk.length ≤ 100 * 100 := Nat.mul_le_mul (by omega) hpk
            rw [List.length_append, List.length_take] at a1
            simp only [LIM]
            omega
          have vs := vset_key s.n _ _ (dictOf_ok (pairsN pk j ++ (rowP pk j).take i)) (p.2, r.2, r.1 - p.1) ln u g1
          have nP : (P = s.n) = False := eq_false (by omega)
          have nt : (t.n = s.n) = False := eq_false (by omega)
          simp [wps_seq, sSub, wps_bind, wpr_bind, eC, eVar, eTup, eCons, eNil, eCallB, bInt, eOp2, vSub, LIM, sNx]
          rw [show (W.tup [W.int p.2, W.int r.2, W.int (r.1 - p.1)]) = key (p.2, r.2, r.1 - p.1) from rfl, vs]
          have fe : Ext [] s (u.put s.n (.dic (putW (dictOf (pairsN pk j ++ (rowP pk j).take i)) (key (p.2, r.2, r.1 - p.1)) (.bl true)))) := g5.put _ (.inr (Nat.le_refl _))
          simp [↓bind_T, ↓bindS_T, ↓thn_T, ↓wpr_T, ↓wps_T, wpsT_seq, wpsT_bndS, wprT_bnd, wprT_runB, sRet, sRetN, sNx, sBk, sCt, sIf, sAsg, sDrop, sSub, sPar, sPar3, sAug, eVar, eC, eOp1, eOp2, eNil, eCons, eTup, eLst, eIf, eAndV, eOrV, eNotV, eAndT, eOrT, eNotT, eTest, eTru, eChain, eCallF, eCallB, eCallK, eKws, eNewD, eMeth, vAdd, vSub, vMul, vMod, vDiv, vNeg, vCmp, vCmpI, vEq, vIsN, eqF, vIx', vIx, vSet, bInt, bAbs, bLen', bLen, bIsi, tyN, tyIx, isA, truW, mtF, tyM, tgE, tgsE, L2.atI, L2.ixN, bMM, bMax, bMin, Q.small64, flatW, eqW, int_beq, add_atT, eSlice, eOpt, vCut, eIter, eEnum, mkEnum, eZip, mkZip, mkRange1, mkRange2, mkRange, wipeE, eTrue, add_oldT, put_oldT, lt_addT, ne_addT, Nat.add_assoc, filt_true, nP, nt, g2, g3]
          refine ⟨?_, g4, fe⟩
          rw [tk, ← List.append_assoc, dictOf_snoc]
      · rintro e u ⟨d, f, rfl, g1, g2, g3, g4, g5⟩
        have rl : (rowP pk j).take (pkW (pk.drop (j + 1))).length = rowP pk j := List.take_of_length_le (by unfold rowP; rw [q]; simp)
        rw [rl] at g1
        exact ⟨_, _, _, _, _, rfl, g1, g2, by omega, g5⟩
  · rintro e t ⟨a, b, c, d, f, rfl, h1, h2, h3, h4⟩
    simp [↓bind_T, ↓bindS_T, ↓thn_T, ↓wpr_T, ↓wps_T, wpsT_seq, wpsT_bndS, wprT_bnd, wprT_runB, sRet, sRetN, sNx, sBk, sCt, sIf, sAsg, sDrop, sSub, sPar, sPar3, sAug, eVar, eC, eOp1, eOp2, eNil, eCons, eTup, eLst, eIf, eAndV, eOrV, eNotV, eAndT, eOrT, eNotT, eTest, eTru, eChain, eCallF, eCallB, eCallK, eKws, eNewD, eMeth, vAdd, vSub, vMul, vMod, vDiv, vNeg, vCmp, vCmpI, vEq, vIsN, eqF, vIx', vIx, vSet, bInt, bAbs, bLen', bLen, bIsi, tyN, tyIx, isA, truW, mtF, tyM, tgE, tgsE, L2.atI, L2.ixN, bMM, bMax, bMin, Q.small64, flatW, eqW, int_beq, add_atT, eSlice, eOpt, vCut, eIter, eEnum, mkEnum, eZip, mkZip, mkRange1, mkRange2, mkRange, wipeE, eTrue, add_oldT, put_oldT, lt_addT, ne_addT, Nat.add_assoc, filt_true]
    refine ⟨?_, h3, h4⟩
    rw [h1]
    simp [pairsOf]
end K16
namespace K16
open PySem Q
theorem Ext.atM {n m : Nat} {s t : Store} {o : O} (h : Ext [n] s t) (hm : m < s.n) (hne : m ≠ n) (e : s.f m = some o) : t.f m = some o := (h.f m hm (by simpa using hne)).trans e
theorem Pot.ext {s t : Store} {n k : Nat} {b : Int} (h : Pot s n b k) (x : Ext [] s t) : Pot t n b k := by
  obtain ⟨a, c, h1, h2⟩ := h.ex
  exact ⟨by have := h.lt; have := x.n; omega, h.b0, h.b1, a, c, x.at h.lt h1, h2⟩
theorem Pot.le {s : Store} {n j k : Nat} {b : Int} (h : Pot s n b j) (hjk : j ≤ k) : Pot s n b k := by
  obtain ⟨a, c, h1, h2, h3, h4⟩ := h.ex
  exact ⟨h.lt, h.b0, h.b1, a, c, h1, h2, h3, by omega⟩
theorem e_of {s : Store} {n m k : Nat} {b : Int} {xs : List W} (hp : Pot s n b k) (hk : k < 100000) (hm : s.f m = some (.lst xs)) (hmn : m < s.n) (hne : m ≠ n) (hx : 0 < xs.length) (hx2 : xs.length < 1000) :
    ∃ w t, φ__law_of [.ref n, .ref m] s = .ok w t ∧ w ∈ xs ∧ Pot t n b (k + 1) ∧ Ext [n] s t := by
  obtain ⟨d, t, e, d0, d1, p, x⟩ := e_take hp hk (u := (xs.length : Int)) (by omega) (by omega)
  have hm' := Ext.atM x hmn hne hm
  have hd : d.toNat < xs.length := by omega
  refine ⟨xs[d.toNat], t, ?_, List.getElem_mem _, p, x⟩
  simp [↓bind_T, ↓bindS_T, ↓thn_T, ↓wpr_T, ↓wps_T, runB_eq, seq_eq, sRet, sRetN, sNx, sBk, sCt, sIf, sAsg, sDrop, sSub, sPar, sPar3, sAug, eVar, eC, eOp1, eOp2, eNil, eCons, eTup, eLst, eIf, eAndV, eOrV, eNotV, eAndT, eOrT, eNotT, eTest, eTru, eChain, eCallF, eCallB, eCallK, eKws, eNewD, eMeth, vAdd, vSub, vMul, vMod, vDiv, vPow, vNeg, vCmp, vCmpI, vEq, vIsN, eqF, vIx', vIx, vSet, bInt, bAbs, bLen', bLen, bIsi, tyN, tyIx, isA, truW, mtF, tyM, tgE, tgsE, L2.atI, L2.ixN, bMM, bMax, bMin, Q.small64, flatW, eqW, int_beq, add_at, φ__law_of, m__law_of, hm, e, hm', d0, d1, List.getElem?_eq_getElem hd]
/-- word, n, size, slots, most -/
abbrev Wl := Str × Nat × Nat × Nat × Nat
def mkW (w : Str) (k d : Nat) : Wl :=
  if w = "queue" then (w, k, 1 + d, (if k = 1 then 0 else (1 + d + k - 2) / (k - 1)) + 2, 1)
  else if 2 < k then (w, k, 1 + d, 1, 0) else (w, k, 1 + d, 2, 1)
def dmax (w : Str) (k : Nat) : Nat := if w = "queue" then (if k = 2 then 2 else 3) else if 2 < k then 3 else if k = 1 then 3 else 2
def wlW (l : Wl) : W := .tup [.tup [.str l.1, .int (l.2.1 : Nat)], .int (l.2.2.1 : Nat), .int (l.2.2.2.1 : Nat), .int (l.2.2.2.2 : Nat)]
theorem e_world {s : Store} {n k0 : Nat} {b : Int} (hp : Pot s n b k0) (hk : k0 < 50000) : wpr (φ__law_small_world [.ref n] s) fun r t => ∃ (w : Str) (k d : Nat), (w = "queue" ∨ w = "order" ∨ w = "any") ∧ 1 ≤ k ∧ k < 5 ∧ d < dmax w k ∧ r = wlW (mkW w k d) ∧ Pot t n b (k0 + 3) ∧ Ext [n] s t := by
  have hs1 : Pot (s.add (.lst [.str "queue", .str "queue", .str "order", .str "any"])) n b k0 := hp.ext (Ext.refl.add _)
  obtain ⟨w, t1, e1, hw, p1, x1⟩ := e_of (m := s.n) hs1 (by omega) (add_f _ _) (by simp) (by have := hp.lt; omega) (by simp) (by simp)
  obtain ⟨d1, t2, e2, d10, d11, p2, x2⟩ := e_take p1 (by omega) (u := 4) (by omega) (by omega)
  have x12 : Ext [n] s t2 := ((Ext.refl.add _).trans x1).trans x2
  obtain ⟨ww, rfl, hww⟩ : ∃ ww : Str, w = .str ww ∧ (ww = "queue" ∨ ww = "order" ∨ ww = "any") := by
    simp at hw
    rcases hw with rfl | rfl | rfl
    · exact ⟨_, rfl, .inl rfl⟩
    · exact ⟨_, rfl, .inr (.inl rfl)⟩
    · exact ⟨_, rfl, .inr (.inr rfl)⟩
  obtain ⟨k, rfl⟩ : ∃ k : Nat, d1 = (k : Int) := ⟨d1.toNat, by omega⟩
  have hk4 : k < 4 := by omega
  obtain ⟨d2, t3, e3, d20, d21, p3, x3⟩ := e_take p2 (by omega) (u := (dmax ww (1 + k) : Nat)) (by unfold dmax; split <;> (try split) <;> (try split) <;> simp) (by unfold dmax; split <;> (try split) <;> (try split) <;> simp)
  obtain ⟨d, rfl⟩ : ∃ d : Nat, d2 = (d : Int) := ⟨d2.toNat, by omega⟩
  have hd : d < dmax ww (1 + k) := by omega
  have fin : φ__law_small_world [.ref n] s = .ok (wlW (mkW ww (1 + k) d)) t3 → wpr (φ__law_small_world [.ref n] s) fun r t => ∃ (w : Str) (k d : Nat), (w = "queue" ∨ w = "order" ∨ w = "any") ∧ 1 ≤ k ∧ k < 5 ∧ d < dmax w k ∧ r = wlW (mkW w k d) ∧ Pot t n b (k0 + 3) ∧ Ext [n] s t := fun e =>
    wpr_eq e ⟨ww, 1 + k, d, hww, by omega, by omega, hd, rfl, p3, x12.trans x3⟩
  have lg1 : Nat.log2 1 < 9000 := by decide +kernel
  have lg2 : Nat.log2 2 < 9000 := by decide +kernel
  have lg3 : Nat.log2 3 < 9000 := by decide +kernel
  refine fin ?_
  have hkk : k = 0 ∨ k = 1 ∨ k = 2 ∨ k = 3 := by omega
  rcases hww with rfl | rfl | rfl <;> rcases hkk with rfl | rfl | rfl | rfl
  all_goals (simp [dmax] at e3 hd; simp at e2)
  all_goals (simp [↓bind_T, ↓bindS_T, ↓thn_T, ↓wpr_T, ↓wps_T, runB_eq, seq_eq, sRet, sRetN, sNx, sBk, sCt, sIf, sAsg, sDrop, sSub, sPar, sPar3, sAug, eVar, eC, eOp1, eOp2, eNil, eCons, eTup, eLst, eIf, eAndV, eOrV, eNotV, eAndT, eOrT, eNotT, eTest, eTru, eChain, eCallF, eCallB, eCallK, eKws, eNewD, eMeth, vAdd, vSub, vMul, vMod, vDiv, vPow, vNeg, vCmp, vCmpI, vEq, vIsN, eqF, vIx', vIx, vSet, bInt, bAbs, bLen', bLen, bIsi, tyN, tyIx, isA, truW, mtF, tyM, tgE, tgsE, L2.atI, L2.ixN, bMM, bMax, bMin, Q.small64, flatW, eqW, int_beq, add_at, φ__law_small_world, m__law_small_world, e1, e2, e3, LIM, mkW, wlW, lg1, lg2, lg3])
  all_goals omega
/-! ### what a small world shows -/
def shownOf (w : Str) (k z sl : Nat) : List (List T3) := (allS w k z sl).map fun sc => pairsOf (pkOf sc)
def firstOk : List (List T3) → Bool
  | [] => true
  | [] :: r => firstOk r
  | (_ :: t) :: _ => t.isEmpty
def isIn (q : T3) (S : List (List T3)) : Bool := S.any fun l => l.any fun p => decide (p = q)
def goodB (l : Wl) : Bool :=
  let S := shownOf l.1 l.2.1 l.2.2.1 l.2.2.2.1
  (List.range (l.2.2.2.1 + 1)).all (fun j => decide ((allS l.1 l.2.1 l.2.2.1 j).length ≤ 1000)) && firstOk S &&
    (List.range (l.2.2.1 + 1)).all fun x => (List.range (l.2.2.1 + 1)).all fun y => (List.range (l.2.2.2.2 + 1)).all fun d => poss l.1 l.2.1 x y d == isIn ((x : Int), (y : Int), (d : Int)) S
theorem good_q : (List.range 5).all (fun k => decide (k = 0) || (List.range (dmax "queue" k)).all fun d => goodB (mkW "queue" k d)) = true := by decide +kernel
theorem good_o : (List.range 5).all (fun k => decide (k = 0) || (List.range (dmax "order" k)).all fun d => goodB (mkW "order" k d)) = true := by decide +kernel
theorem good_a : (List.range 5).all (fun k => decide (k = 0) || (List.range (dmax "any" k)).all fun d => goodB (mkW "any" k d)) = true := by decide +kernel
end K16
namespace K16
open PySem Q
def p3 : Q.Sv := sFor (eIter (eCallF φ__law_all_scripts 3 (eCons (eVar 2) (eCons (eVar 3) (eCons (eVar 4) eNil))))) (.nm 7) (sSeq (sDrop (eMeth "update" (eVar 6) (eCons (eCallF φ__law_pairs_in 1 (eCons (eCallF φ__law_packets 2 (eCons (eVar 2) (eCons (eVar 7) eNil))) eNil)) eNil))) sNx)
theorem isIn_take {S : List (List T3)} {i : Nat} {l : List T3} (h : S[i]? = some l) (q : T3) : isIn q (S.take (i + 1)) = (isIn q (S.take i) || l.any fun p => decide (p = q)) := by
  unfold isIn
  rw [List.take_add_one, h, List.any_append]
  simp
theorem firstOk_at : ∀ {S : List (List T3)} {i : Nat} {l : List T3}, firstOk S = true → S[i]? = some l → (∀ x ∈ S.take i, x = []) → l.length ≤ 1
  | [], _, _, _, h, _ => by simp at h
  | [] :: r, 0, l, _, h, _ => by simp at h; subst h; simp
  | [] :: r, i + 1, l, f, h, a => firstOk_at (S := r) (i := i) f (by simpa using h) fun x hx => a x (by simp [hx])
  | (p :: t) :: r, 0, l, f, h, _ => by
    simp at h
    subst h
    simp [firstOk] at f
    simp [f]
  | (p :: t) :: r, i + 1, l, f, h, a => by
    have := a (p :: t) (by simp)
    cases this
theorem any_mem (l : List T3) (q : T3) : (l.any fun p => decide (p = q)) = true ↔ q ∈ l := by
  rw [List.any_eq_true]
  constructor
  · rintro ⟨p, hp, e⟩
    rw [← of_decide_eq_true e]
    exact hp
  · intro h
    exact ⟨q, h, by simp⟩
theorem p3_ok {w : Str} {k z sl : Nat} (h : Wd w k z) (hsl : sl < 6) (hb : ∀ j, j ≤ sl → (allS w k z j).length ≤ 1000) (hf : firstOk (shownOf w k z sl) = true) {s t : Store} {D : Nat} (hD : t.f D = some (.dic [])) (hD0 : s.n ≤ D) (hDn : D < t.n) (hx : Ext [] s t) (a0 a1 a5 a7 a8 a9 a10 a11 a12 a13 : Option W) :
    wps (p3 [a0, a1, some (.tup [.str w, .int (k : Int)]), some (.int (z : Int)), some (.int (sl : Int)), a5, some (.ref D), a7, a8, a9, a10, a11, a12, a13] t) { nx := fun e u => (∃ a7, e = [a0, a1, some (.tup [.str w, .int (k : Int)]), some (.int (z : Int)), some (.int (sl : Int)), a5, some (.ref D), a7, a8, a9, a10, a11, a12, a13]) ∧ (∃ kvs, u.f D = some (.dic kvs) ∧ DK kvs (fun q => isIn q (shownOf w k z sl) = true)) ∧ D < u.n ∧ Ext [] s u, rt := fun _ _ => False } := by
  obtain ⟨A, t1, eq, ha, a1', a2', x1⟩ := e_all h hsl (fun j hj => by have := hb j hj; omega) t
  refine wps_for (iv := .lst A) (s1 := t1) (ws := (allS w k z sl).map scW) (by simp [↓bind_T, ↓bindS_T, ↓thn_T, ↓wpr_T, ↓wps_T, wpsT_seq, wpsT_bndS, wprT_bnd, wprT_runB, sRet, sRetN, sNx, sBk, sCt, sIf, sAsg, sDrop, sSub, sPar, sPar3, sAug, eVar, eC, eOp1, eOp2, eNil, eCons, eTup, eLst, eIf, eAndV, eOrV, eNotV, eAndT, eOrT, eNotT, eTest, eTru, eChain, eCallF, eCallB, eCallK, eKws, eNewD, eMeth, vAdd, vSub, vMul, vMod, vDiv, vNeg, vCmp, vCmpI, vEq, vIsN, eqF, vIx', vIx, vSet, bInt, bAbs, bLen', bLen, bIsi, tyN, tyIx, isA, truW, mtF, tyM, tgE, tgsE, L2.atI, L2.ixN, bMM, bMax, bMin, Q.small64, flatW, eqW, int_beq, add_atT, eSlice, eOpt, vCut, eIter, eEnum, mkEnum, eZip, mkZip, mkRange1, mkRange2, mkRange, wipeE, eTrue, add_oldT, put_oldT, lt_addT, ne_addT, Nat.add_assoc, filt_true, eq, ha]) (by simp [itFuel, ha])
    (fun i e u => (∃ a7, e = [a0, a1, some (.tup [.str w, .int (k : Int)]), some (.int (z : Int)), some (.int (sl : Int)), a5, some (.ref D), a7, a8, a9, a10, a11, a12, a13]) ∧ u.f A = some (.lst ((allS w k z sl).map scW)) ∧ A < u.n ∧
      (∃ kvs, u.f D = some (.dic kvs) ∧ DK kvs (fun q => isIn q ((shownOf w k z sl).take i) = true) ∧ (kvs = [] → ∀ x ∈ (shownOf w k z sl).take i, x = []) ∧ kvs.length ≤ i * 10000) ∧ D < u.n ∧ Ext [] s u) (fun i e u ⟨_, h1, _⟩ => by simp only [itAt, h1]) ?_ ?_ ?_
  · exact ⟨⟨_, rfl⟩, ha, a2', ⟨[], x1.at hDn hD, DK.nil.congr fun q => by simp [isIn], fun _ x hx => by simp at hx, by simp⟩, by have := x1.n; omega, hx.trans x1⟩
  · rintro i r e u ⟨⟨a7, rfl⟩, g1, g1n, ⟨kvs, g2, dk, ge, gl⟩, g3, g4⟩ hr
    rw [List.getElem?_map] at hr
    cases q : (allS w k z sl)[i]? with
    | none => rw [q] at hr; cases hr
    | some sc =>
      rw [q] at hr
      cases hr
      refine ⟨_, by simp [tgE]; rfl, ?_⟩
      obtain ⟨lsc, vsc⟩ := allS_ok h sl sc (List.mem_of_getElem? q)
      obtain ⟨P, u1, eq1, b1, b2, b3, b4⟩ := e_packets h.sv vsc (by omega) u
      have pl := pkN_len h.sv vsc sc.length
      have pl' : (pkOf sc).length ≤ 100 := by unfold pkOf; omega
      obtain ⟨Dr, u2, eq2, M, rfl, c1, c2, c3, c4⟩ := wpr_iff.mp (e_pairs (pkOf sc) pl' P u1 b1 b3)
      have x12 := b4.trans c4
      have gD := x12.at g3 g2
      have gA := x12.at g1n g1
      have nDM : (D = M) = False := eq_false (by have := b4.n; omega)
      have nAD : (A = D) = False := eq_false (by intro e0; rw [e0, g2] at g1; cases g1)
      have sS : (shownOf w k z sl)[i]? = some (pairsOf (pkOf sc)) := by unfold shownOf; rw [List.getElem?_map, q]; rfl
      have dm := dictOf_ok (pairsOf (pkOf sc))
      have lm := dictOf_len (pairsOf (pkOf sc))
      have lp : (pairsOf (pkOf sc)).length ≤ 100 * 100 := Nat.le_trans (pairsN_len (pkOf sc) _) (Nat.mul_le_mul pl' pl')
      have hi : i < 1000 := by
        have := (List.getElem?_eq_some_iff.mp q).1
        have := hb sl (Nat.le_refl _)
        omega
      have c0 : kvs ≠ [] ∨ (dictOf (pairsOf (pkOf sc))).length ≤ 1 := by
        by_cases hk : kvs = []
        · exact .inr (Nat.le_trans lm (firstOk_at hf sS (ge hk)))
        · exact .inl hk
      have up : mUpdate (.ref D) [.ref M] u2 = .ok .non (u2.put D (.dic (upW kvs (dictOf (pairsOf (pkOf sc)))))) := by
        unfold mUpdate
        simp only [gD, c1]
        exact if_pos ⟨fun e => by rw [e] at nDM; exact of_eq_false nDM rfl, dk.isT, dm.isT, c0, by simp only [LIM]; omega⟩
      have fe : Ext [] s (u2.put D (.dic (upW kvs (dictOf (pairsOf (pkOf sc)))))) := (g4.trans x12).put _ (.inr hD0)
      have n2 := x12.n
      simp [↓bind_T, ↓bindS_T, ↓thn_T, ↓wpr_T, ↓wps_T, wpsT_seq, wpsT_bndS, wprT_bnd, wprT_runB, sRet, sRetN, sNx, sBk, sCt, sIf, sAsg, sDrop, sSub, sPar, sPar3, sAug, eVar, eC, eOp1, eOp2, eNil, eCons, eTup, eLst, eIf, eAndV, eOrV, eNotV, eAndT, eOrT, eNotT, eTest, eTru, eChain, eCallF, eCallB, eCallK, eKws, eNewD, eMeth, vAdd, vSub, vMul, vMod, vDiv, vNeg, vCmp, vCmpI, vEq, vIsN, eqF, vIx', vIx, vSet, bInt, bAbs, bLen', bLen, bIsi, tyN, tyIx, isA, truW, mtF, tyM, tgE, tgsE, L2.atI, L2.ixN, bMM, bMax, bMin, Q.small64, flatW, eqW, int_beq, add_atT, eSlice, eOpt, vCut, eIter, eEnum, mkEnum, eZip, mkZip, mkRange1, mkRange2, mkRange, wipeE, eTrue, add_oldT, put_oldT, lt_addT, ne_addT, Nat.add_assoc, filt_true, g2, eq1, eq2, up, nAD, gA]
      refine ⟨by omega, ⟨(dk.up dm).congr fun p => ?_, ?_, ?_⟩, by omega, fe⟩
      · rw [isIn_take sS, Bool.or_eq_true, any_mem]
      · intro he
        by_cases hk : kvs = []
        · intro x hx
          rw [List.take_add_one, sS, List.mem_append] at hx
          rcases hx with hx | hx
          · exact ge hk x hx
          · simp at hx
            subst hx
            cases hc : pairsOf (pkOf sc) with
            | nil => rfl
            | cons p r =>
              exfalso
              have := (dk.up dm).h p
              rw [he] at this
              simp [hasW, hc] at this
        · exact absurd he (upW_ne hk)
      · have := upW_len (dictOf (pairsOf (pkOf sc))) kvs
        omega
  · rintro e u ⟨⟨a7, rfl⟩, g1, g1n, ⟨kvs, g2, dk, ge, gl⟩, g3, g4⟩
    refine ⟨⟨_, rfl⟩, ⟨kvs, g2, ?_⟩, g3, g4⟩
    have : (shownOf w k z sl).take ((allS w k z sl).map scW).length = shownOf w k z sl := List.take_of_length_le (by unfold shownOf; simp)
    rw [this] at dk
    exact dk
end K16
namespace K16
open PySem Q
def p4 : Q.Sv := sFor (mkRange1 (eCons (eOp2 vAdd (eVar 3) (eC (W.int 1))) eNil)) (.nm 8) (sSeq (sFor (mkRange1 (eCons (eOp2 vAdd (eVar 3) (eC (W.int 1))) eNil)) (.nm 9) (sSeq (sFor (mkRange1 (eCons (eOp2 vAdd (eVar 5) (eC (W.int 1))) eNil)) (.nm 10) (sSeq (sIf (eTest (eOp2 (vCmp .NotEq) (eCallB bRepr (eCons (eCallF φ_can_be 3 (eCons (eVar 2) (eCons (eCallB bInt (eCons (eVar 3) eNil)) (eCons (eTup (eCons (eVar 8) (eCons (eVar 9) (eCons (eVar 10) eNil)))) eNil)))) eNil)) (eCallB bRepr (eCons (eOp2 (vCmp .In) (eTup (eCons (eVar 8) (eCons (eVar 9) (eCons (eVar 10) eNil)))) (eVar 6)) eNil)))) (sSeq (sRet (eC (W.bl false))) sNx) sNx) sNx)) sNx)) sNx)
theorem vin_key {D : Nat} {kvs : List (W × W)} {S : T3 → Prop} (d : DK kvs S) (p : T3) {s : Store} (h : s.f D = some (.dic kvs)) : vIn' false (key p) (.ref D) s = .ok (.bl (hasW kvs (key p))) s := by
  unfold vIn'
  simp only [h]
  rw [if_pos (d.kind p), look_has]
  rfl
theorem rg_at {k j : Nat} {x : W} (h : ((List.range k).map fun i => W.int (0 + (i : Nat)))[j]? = some x) : j < k ∧ x = .int (j : Int) := by
  have hj : j < k := by
    have := (List.getElem?_eq_some_iff.mp h).1
    simpa using this
  refine ⟨hj, ?_⟩
  rw [List.getElem?_map, List.getElem?_range hj] at h
  simp at h
  exact h.symm
theorem p4_ok {w : Str} {k z mo : Nat} (h : Wd w k z) (hmo : mo < 3) {s t : Store} {D : Nat} {kvs : List (W × W)} {S : List (List T3)} (hD : t.f D = some (.dic kvs)) (dk : DK kvs (fun q => isIn q S = true)) (hDn : D < t.n) (hx : Ext [] s t)
    (hg : ∀ x y d : Nat, x < z + 1 → y < z + 1 → d < mo + 1 → poss w (k : Int) x y d = isIn ((x : Int), (y : Int), (d : Int)) S) (a0 a1 a4 a7 a8 a9 a10 a11 a12 a13 : Option W) :
    wps (p4 [a0, a1, some (.tup [.str w, .int (k : Int)]), some (.int (z : Int)), a4, some (.int (mo : Int)), some (.ref D), a7, a8, a9, a10, a11, a12, a13] t) { nx := fun e u => (∃ a8 a9 a10, e = [a0, a1, some (.tup [.str w, .int (k : Int)]), some (.int (z : Int)), a4, some (.int (mo : Int)), some (.ref D), a7, a8, a9, a10, a11, a12, a13]) ∧ Ext [] s u, rt := fun _ _ => False } := by
  have hz := h.z4
  have r1 : rgOk ((z : Int) + 1) = true := Nat.ble_eq_true_of_le (by omega)
  have r2 : rgOk ((mo : Int) + 1) = true := Nat.ble_eq_true_of_le (by omega)
  have z1 : ((z : Int) + 1).toNat = z + 1 := by omega
  have z2 : ((mo : Int) + 1).toNat = mo + 1 := by omega
  refine wps_for (iv := .rng 0 1 (z + 1)) (s1 := t) (ws := (List.range (z + 1)).map fun i => W.int (0 + (i : Nat))) (by simp [↓bind_T, ↓bindS_T, ↓thn_T, ↓wpr_T, ↓wps_T, wpsT_seq, wpsT_bndS, wprT_bnd, wprT_runB, sRet, sRetN, sNx, sBk, sCt, sIf, sAsg, sDrop, sSub, sPar, sPar3, sAug, eVar, eC, eOp1, eOp2, eNil, eCons, eTup, eLst, eIf, eAndV, eOrV, eNotV, eAndT, eOrT, eNotT, eTest, eTru, eChain, eCallF, eCallB, eCallK, eKws, eNewD, eMeth, vAdd, vSub, vMul, vMod, vDiv, vNeg, vCmp, vCmpI, vEq, vIsN, eqF, vIx', vIx, vSet, bInt, bAbs, bLen', bLen, bIsi, tyN, tyIx, isA, truW, mtF, tyM, tgE, tgsE, L2.atI, L2.ixN, bMM, bMax, bMin, Q.small64, flatW, eqW, int_beq, add_atT, eSlice, eOpt, vCut, eIter, eEnum, mkEnum, eZip, mkZip, mkRange1, mkRange2, mkRange, wipeE, eTrue, add_oldT, put_oldT, lt_addT, ne_addT, Nat.add_assoc, filt_true, r1, z1]) (by simp [itFuel])
    (fun j e u => (∃ a8 a9 a10, e = [a0, a1, some (.tup [.str w, .int (k : Int)]), some (.int (z : Int)), a4, some (.int (mo : Int)), some (.ref D), a7, a8, a9, a10, a11, a12, a13]) ∧ u.f D = some (.dic kvs) ∧ D < u.n ∧ Ext [] s u) (fun j e t _ => at_rng) ⟨⟨_, _, _, rfl⟩, hD, hDn, hx⟩ ?_ (fun e u ⟨h1, h2, h3, h4⟩ => ⟨h1, h4⟩)
  rintro x v e u ⟨⟨b8, b9, b10, rfl⟩, g1, g2, g3⟩ hv
  obtain ⟨hxz, rfl⟩ := rg_at hv
  refine ⟨_, by simp [tgE]; rfl, ?_⟩
  simp [↓bind_T, ↓bindS_T, ↓thn_T, ↓wpr_T, ↓wps_T, wpsT_seq, wpsT_bndS, wprT_bnd, wprT_runB, sRet, sRetN, sNx, sBk, sCt, sIf, sAsg, sDrop, sSub, sPar, sPar3, sAug, eVar, eC, eOp1, eOp2, eNil, eCons, eTup, eLst, eIf, eAndV, eOrV, eNotV, eAndT, eOrT, eNotT, eTest, eTru, eChain, eCallF, eCallB, eCallK, eKws, eNewD, eMeth, vAdd, vSub, vMul, vMod, vDiv, vNeg, vCmp, vCmpI, vEq, vIsN, eqF, vIx', vIx, vSet, bInt, bAbs, bLen', bLen, bIsi, tyN, tyIx, isA, truW, mtF, tyM, tgE, tgsE, L2.atI, L2.ixN, bMM, bMax, bMin, Q.small64, flatW, eqW, int_beq, add_atT, eSlice, eOpt, vCut, eIter, eEnum, mkEnum, eZip, mkZip, mkRange1, mkRange2, mkRange, wipeE, eTrue, add_oldT, put_oldT, lt_addT, ne_addT, Nat.add_assoc, filt_true]
  refine wps_for (iv := .rng 0 1 (z + 1)) (s1 := u) (ws := (List.range (z + 1)).map fun i => W.int (0 + (i : Nat))) (by simp [↓bind_T, ↓bindS_T, ↓thn_T, ↓wpr_T, ↓wps_T, wpsT_seq, wpsT_bndS, wprT_bnd, wprT_runB, sRet, sRetN, sNx, sBk, sCt, sIf, sAsg, sDrop, sSub, sPar, sPar3, sAug, eVar, eC, eOp1, eOp2, eNil, eCons, eTup, eLst, eIf, eAndV, eOrV, eNotV, eAndT, eOrT, eNotT, eTest, eTru, eChain, eCallF, eCallB, eCallK, eKws, eNewD, eMeth, vAdd, vSub, vMul, vMod, vDiv, vNeg, vCmp, vCmpI, vEq, vIsN, eqF, vIx', vIx, vSet, bInt, bAbs, bLen', bLen, bIsi, tyN, tyIx, isA, truW, mtF, tyM, tgE, tgsE, L2.atI, L2.ixN, bMM, bMax, bMin, Q.small64, flatW, eqW, int_beq, add_atT, eSlice, eOpt, vCut, eIter, eEnum, mkEnum, eZip, mkZip, mkRange1, mkRange2, mkRange, wipeE, eTrue, add_oldT, put_oldT, lt_addT, ne_addT, Nat.add_assoc, filt_true, r1, z1]) (by simp [itFuel])
    (fun j e u => (∃ a9 a10, e = [a0, a1, some (.tup [.str w, .int (k : Int)]), some (.int (z : Int)), a4, some (.int (mo : Int)), some (.ref D), a7, some (.int (x : Int)), a9, a10, a11, a12, a13]) ∧ u.f D = some (.dic kvs) ∧ D < u.n ∧ Ext [] s u) (fun j e t _ => at_rng) ⟨⟨_, _, rfl⟩, g1, g2, g3⟩ ?_ (fun e u ⟨⟨c9, c10, h1⟩, h2, h3, h4⟩ => by subst h1; exact ⟨⟨_, _, _, rfl⟩, h2, h3, h4⟩)
  rintro y v e u2 ⟨⟨c9, c10, rfl⟩, g4, g5, g6⟩ hv2
  obtain ⟨hyz, rfl⟩ := rg_at hv2
  refine ⟨_, by simp [tgE]; rfl, ?_⟩
  simp [↓bind_T, ↓bindS_T, ↓thn_T, ↓wpr_T, ↓wps_T, wpsT_seq, wpsT_bndS, wprT_bnd, wprT_runB, sRet, sRetN, sNx, sBk, sCt, sIf, sAsg, sDrop, sSub, sPar, sPar3, sAug, eVar, eC, eOp1, eOp2, eNil, eCons, eTup, eLst, eIf, eAndV, eOrV, eNotV, eAndT, eOrT, eNotT, eTest, eTru, eChain, eCallF, eCallB, eCallK, eKws, eNewD, eMeth, vAdd, vSub, vMul, vMod, vDiv, vNeg, vCmp, vCmpI, vEq, vIsN, eqF, vIx', vIx, vSet, bInt, bAbs, bLen', bLen, bIsi, tyN, tyIx, isA, truW, mtF, tyM, tgE, tgsE, L2.atI, L2.ixN, bMM, bMax, bMin, Q.small64, flatW, eqW, int_beq, add_atT, eSlice, eOpt, vCut, eIter, eEnum, mkEnum, eZip, mkZip, mkRange1, mkRange2, mkRange, wipeE, eTrue, add_oldT, put_oldT, lt_addT, ne_addT, Nat.add_assoc, filt_true]
  refine wps_for (iv := .rng 0 1 (mo + 1)) (s1 := u2) (ws := (List.range (mo + 1)).map fun i => W.int (0 + (i : Nat))) (by simp [↓bind_T, ↓bindS_T, ↓thn_T, ↓wpr_T, ↓wps_T, wpsT_seq, wpsT_bndS, wprT_bnd, wprT_runB, sRet, sRetN, sNx, sBk, sCt, sIf, sAsg, sDrop, sSub, sPar, sPar3, sAug, eVar, eC, eOp1, eOp2, eNil, eCons, eTup, eLst, eIf, eAndV, eOrV, eNotV, eAndT, eOrT, eNotT, eTest, eTru, eChain, eCallF, eCallB, eCallK, eKws, eNewD, eMeth, vAdd, vSub, vMul, vMod, vDiv, vNeg, vCmp, vCmpI, vEq, vIsN, eqF, vIx', vIx, vSet, bInt, bAbs, bLen', bLen, bIsi, tyN, tyIx, isA, truW, mtF, tyM, tgE, tgsE, L2.atI, L2.ixN, bMM, bMax, bMin, Q.small64, flatW, eqW, int_beq, add_atT, eSlice, eOpt, vCut, eIter, eEnum, mkEnum, eZip, mkZip, mkRange1, mkRange2, mkRange, wipeE, eTrue, add_oldT, put_oldT, lt_addT, ne_addT, Nat.add_assoc, filt_true, r2, z2]) (by simp [itFuel])
    (fun j e u => (∃ a10, e = [a0, a1, some (.tup [.str w, .int (k : Int)]), some (.int (z : Int)), a4, some (.int (mo : Int)), some (.ref D), a7, some (.int (x : Int)), some (.int (y : Int)), a10, a11, a12, a13]) ∧ u.f D = some (.dic kvs) ∧ D < u.n ∧ Ext [] s u) (fun j e t _ => at_rng) ⟨⟨_, rfl⟩, g4, g5, g6⟩ ?_ (fun e u ⟨⟨c10, h1⟩, h2, h3, h4⟩ => by subst h1; exact ⟨⟨_, _, rfl⟩, h2, h3, h4⟩)
  rintro d v e u3 ⟨⟨d10, rfl⟩, g7, g8, g9⟩ hv3
  obtain ⟨hdm, rfl⟩ := rg_at hv3
  refine ⟨_, by simp [tgE]; rfl, ?_⟩
  have ec := e_can_be w (k : Int) (x : Int) (y : Int) (d : Int) (z : Int) u3 h.w (by have := h.k1; omega) (by have := h.k5; omega) (by omega) (by omega) (by omega) (by omega) (by omega) (by omega) (by omega) (by omega)
  have g7' : (u3.add (.lst [.bl true, .bl true])).f D = some (.dic kvs) := by rw [add_old _ _ g8, g7]
  have hh : hasW kvs (key ((x : Int), (y : Int), (d : Int))) = poss w (k : Int) x y d := by
    rw [hg x y d hxz hyz hdm]
    have := dk.h ((x : Int), (y : Int), (d : Int))
    cases h1 : hasW kvs (key ((x : Int), (y : Int), (d : Int))) <;> cases h2 : isIn ((x : Int), (y : Int), (d : Int)) S <;> simp [h1, h2] at this <;> rfl
  have vi := vin_key dk ((x : Int), (y : Int), (d : Int)) g7'
  rw [hh] at vi
  have vi' : vIn' false (.tup [.int (x : Int), .int (y : Int), .int (d : Int)]) (.ref D) (u3.add (.lst [.bl true, .bl true])) = .ok (.bl (poss w (k : Int) x y d)) (u3.add (.lst [.bl true, .bl true])) := vi
  simp [↓bind_T, ↓bindS_T, ↓thn_T, ↓wpr_T, ↓wps_T, wpsT_seq, wpsT_bndS, wprT_bnd, wprT_runB, sRet, sRetN, sNx, sBk, sCt, sIf, sAsg, sDrop, sSub, sPar, sPar3, sAug, eVar, eC, eOp1, eOp2, eNil, eCons, eTup, eLst, eIf, eAndV, eOrV, eNotV, eAndT, eOrT, eNotT, eTest, eTru, eChain, eCallF, eCallB, eCallK, eKws, eNewD, eMeth, vAdd, vSub, vMul, vMod, vDiv, vNeg, vCmp, vCmpI, vEq, vIsN, eqF, vIx', vIx, vSet, bInt, bAbs, bLen', bLen, bIsi, tyN, tyIx, isA, truW, mtF, tyM, tgE, tgsE, L2.atI, L2.ixN, bMM, bMax, bMin, Q.small64, flatW, eqW, int_beq, add_atT, eSlice, eOpt, vCut, eIter, eEnum, mkEnum, eZip, mkZip, mkRange1, mkRange2, mkRange, wipeE, eTrue, add_oldT, put_oldT, lt_addT, ne_addT, Nat.add_assoc, filt_true, ec, vi', LIM, bRepr, g8, g7]
  exact g9.add _
end K16
namespace K16
open PySem Q
def b6 (T F C L : List W → Store → Res W) : Q.Sv := sSeq (sPar 8 9 (eCons (eCallF T 2 (eCons (eVar 0) (eCons (eOp2 vAdd (eVar 3) (eC (W.int 1))) eNil))) (eCons (eCallF T 2 (eCons (eVar 0) (eCons (eOp2 vAdd (eVar 3) (eC (W.int 1))) eNil))) eNil)))
  (sSeq (sAsg (eCallB bMax (eCons (eC (W.int 0)) (eCons (eOp2 vSub (eOp2 vAdd (eOp2 vSub (eVar 8) (eVar 9)) (eCallF T 2 (eCons (eVar 0) (eCons (eC (W.int 7)) eNil)))) (eC (W.int 3))) eNil))) (.nm 12))
  (sSeq (sAsg (eCallB bMin (eCons (eC (W.int 400)) (eCons (eCallB bInt (eCons (eCallF F 2 (eCons (eVar 0) (eCons (eLst (eCons (eVar 12) (eCons (eVar 12) (eCons (eCallF T 2 (eCons (eVar 0) (eCons (eOp2 vAdd (eVar 3) (eC (W.int 2))) eNil))) (eCons (eC (W.int 400)) (eCons (eC (W.int 0)) eNil)))))) eNil))) eNil)) eNil))) (.nm 10))
  (sSeq (sAsg (eCallF L 3 (eCons (eVar 2) (eCons (eVar 3) (eCons (eTup (eCons (eVar 8) (eCons (eVar 9) (eCons (eVar 10) eNil)))) eNil)))) (.nm 13))
  (sSeq (sIf (eTest (eOp2 (vCmp .NotEq) (eCallB bRepr (eCons (eCallK C 3 0 3 [1, 2, 0] eNil (eCons (eTup (eCons (eCallB bInt (eCons (eVar 8) eNil)) (eCons (eCallB bInt (eCons (eVar 9) eNil)) (eCons (eVar 10) eNil)))) (eCons (eVar 2) (eCons (eVar 3) eNil)))) eNil)) (eCallB bRepr (eCons (eVar 13) eNil)))) (sSeq (sRet (eC (W.bl false))) sNx) sNx) sNx))))
theorem b6_gen {T F C L : List W → Store → Res W} {w : Str} {k : Nat} {Z x y c f v near d : Int} {s t1 t2 t3 t4 t5 : Store} {n : Nat} {r : Bool} (e1 : T [.ref n, .int (Z + 1)] s = .ok (.int x) t1) (e2 : T [.ref n, .int (Z + 1)] t1 = .ok (.int y) t2) (e3 : T [.ref n, .int 7] t2 = .ok (.int c) t3)
    (hn : (if 3 < x - y + c then x - y + c - 3 else 0) = near) (e4 : T [.ref n, .int (Z + 2)] t3 = .ok (.int f) t4) (e5 : F [.ref n, .ref t4.n] (t4.add (.lst [.int near, .int near, .int f, .int 400, .int 0])) = .ok (.int v) t5) (hd : (if v < 400 then v else 400) = d)
    (el : L [.tup [.str w, .int (k : Int)], .int Z, .tup [.int x, .int y, .int d]] t5 = .ok (.bl r) t5) (ec : C [.tup [.str w, .int (k : Int)], .int Z, .tup [.int x, .int y, .int d]] t5 = .ok (.bl r) (t5.add (.lst [.bl true, .bl true]))) (a1 a4 a5 a6 a7 a8 a9 a10 a11 a12 a13 : Option W) :
    b6 T F C L [some (.ref n), a1, some (.tup [.str w, .int (k : Int)]), some (.int Z), a4, a5, a6, a7, a8, a9, a10, a11, a12, a13] s = .nx [some (.ref n), a1, some (.tup [.str w, .int (k : Int)]), some (.int Z), a4, a5, a6, a7, some (.int x), some (.int y), some (.int d), a11, some (.int near), some (.bl r)] (t5.add (.lst [.bl true, .bl true])) := by
  simp [↓bind_T, ↓bindS_T, ↓thn_T, ↓wpr_T, ↓wps_T, runB_eq, seq_eq, sRet, sRetN, sNx, sBk, sCt, sIf, sAsg, sDrop, sSub, sPar, sPar3, sAug, eVar, eC, eOp1, eOp2, eNil, eCons, eTup, eLst, eIf, eAndV, eOrV, eNotV, eAndT, eOrT, eNotT, eTest, eTru, eChain, eCallF, eCallB, eCallK, eKws, eNewD, eMeth, vAdd, vSub, vMul, vMod, vDiv, vPow, vNeg, vCmp, vCmpI, vEq, vIsN, eqF, vIx', vIx, vSet, bInt, bAbs, bLen', bLen, bIsi, tyN, tyIx, isA, truW, mtF, tyM, tgE, tgsE, L2.atI, L2.ixN, bMM, bMax, bMin, Q.small64, flatW, eqW, int_beq, add_at, b6, e1, e2, e3, hn, LIM, e4, e5, hd, el, pick, ec, bRepr]
theorem b6_ok {w : Str} {k : Nat} {Z : Int} (hw : w = "queue" ∨ w = "order" ∨ w = "any") (hk : 1 ≤ k) (hk5 : k < 5) (hZ : 0 ≤ Z) (hZ2 : Z ≤ 399) {s : Store} {n k0 : Nat} {b : Int} (hp : Pot s n b k0) (hk0 : k0 < 90000) (a1 a4 a5 a6 a7 a8 a9 a10 a11 a12 a13 : Option W) :
    wps (b6 φ__law_take φ__law_of φ_can_be φ__law_can_be [some (.ref n), a1, some (.tup [.str w, .int (k : Int)]), some (.int Z), a4, a5, a6, a7, a8, a9, a10, a11, a12, a13] s) { nx := fun e u => (∃ a8 a9 a10 a12 a13, e = [some (.ref n), a1, some (.tup [.str w, .int (k : Int)]), some (.int Z), a4, a5, a6, a7, a8, a9, a10, a11, a12, a13]) ∧ Pot u n b (k0 + 5) ∧ Ext [n] s u, rt := fun _ _ => False } := by
  obtain ⟨x, t1, e1, x0, x1, p1, X1⟩ := e_take hp (by omega) (u := Z + 1) (by omega) (by omega)
  obtain ⟨y, t2, e2, y0, y1, p2, X2⟩ := e_take p1 (by omega) (u := Z + 1) (by omega) (by omega)
  obtain ⟨c, t3, e3, c0, c1, p3, X3⟩ := e_take p2 (by omega) (u := 7) (by omega) (by omega)
  obtain ⟨f, t4, e4, f0, f1, p4, X4⟩ := e_take p3 (by omega) (u := Z + 2) (by omega) (by omega)
  obtain ⟨near, hn, hn0⟩ : ∃ near : Int, near = (if 3 < x - y + c then x - y + c - 3 else 0) ∧ 0 ≤ near := ⟨_, rfl, by split <;> omega⟩
  have hp5 : Pot (t4.add (.lst [.int near, .int near, .int f, .int 400, .int 0])) n b (k0 + 4) := p4.ext (Ext.refl.add _)
  obtain ⟨wv, t5, e5, hw5, p5, X5⟩ := e_of (m := t4.n) hp5 (by omega) (add_f _ _) (by simp) (by have := p4.lt; omega) (by simp) (by simp)
  obtain ⟨v, rfl, hv0⟩ : ∃ v : Int, wv = .int v ∧ 0 ≤ v := by
    simp at hw5
    rcases hw5 with rfl | rfl | rfl | rfl
    · exact ⟨_, rfl, hn0⟩
    · exact ⟨_, rfl, f0⟩
    · exact ⟨_, rfl, by omega⟩
    · exact ⟨_, rfl, by omega⟩
  obtain ⟨d, hd, hd0, hd4⟩ : ∃ d : Int, d = (if v < 400 then v else 400) ∧ 0 ≤ d ∧ d ≤ 400 := ⟨_, rfl, by split <;> omega, by split <;> omega⟩
  have el := e_law_can_be w (k : Int) x y d Z t5 hw (by omega) (by omega) (by omega) (by omega) hd0
  have ec := e_can_be w (k : Int) x y d Z t5 hw (by omega) (by omega) hZ (by omega) x0 (by omega) y0 (by omega) hd0 hd4
  have fx : Ext [n] s (t5.add (.lst [.bl true, .bl true])) := (((((X1.trans X2).trans X3).trans X4).trans (Ext.refl.add _)).trans X5).add _
  rw [b6_gen e1 e2 e3 hn.symm e4 e5 hd.symm el ec]
  exact ⟨⟨_, _, _, _, _, rfl⟩, p5.ext (Ext.refl.add _), fx⟩
end K16
namespace K16
open PySem Q
def p6 : Q.Sv := sFor (mkRange1 (eCons (eC (W.int 12)) eNil)) (.nm 11) (b6 φ__law_take φ__law_of φ_can_be φ__law_can_be)
theorem p6_ok {w : Str} {k : Nat} {Z : Int} (hw : w = "queue" ∨ w = "order" ∨ w = "any") (hk : 1 ≤ k) (hk5 : k < 5) (hZ : 0 ≤ Z) (hZ2 : Z ≤ 399) {s t : Store} {n k0 : Nat} {b : Int} (hp : Pot t n b k0) (hk0 : k0 < 80000) (hx : Ext [n] s t) (a1 a4 a5 a6 a7 a8 a9 a10 a11 a12 a13 : Option W) :
    wps (p6 [some (.ref n), a1, some (.tup [.str w, .int (k : Int)]), some (.int Z), a4, a5, a6, a7, a8, a9, a10, a11, a12, a13] t) { nx := fun e u => (∃ a1 a2 a3 a4 a5 a6 a7 a8 a9 a10 a11 a12 a13, e = [some (.ref n), a1, a2, a3, a4, a5, a6, a7, a8, a9, a10, a11, a12, a13]) ∧ Pot u n b (k0 + 60) ∧ Ext [n] s u, rt := fun _ _ => False } := by
  refine wps_for (iv := .rng 0 1 12) (s1 := t) (ws := (List.range 12).map fun i => W.int (0 + (i : Nat))) rfl (by simp [itFuel])
    (fun j e u => (∃ a8 a9 a10 a11 a12 a13, e = [some (.ref n), a1, some (.tup [.str w, .int (k : Int)]), some (.int Z), a4, a5, a6, a7, a8, a9, a10, a11, a12, a13]) ∧ Pot u n b (k0 + 5 * j) ∧ Ext [n] s u) (fun j e t _ => at_rng) ⟨⟨_, _, _, _, _, _, rfl⟩, hp, hx⟩ ?_ ?_
  · rintro j x e u ⟨⟨b8, b9, b10, b11, b12, b13, rfl⟩, g1, g2⟩ hj
    obtain ⟨hj12, rfl⟩ := rg_at hj
    refine ⟨_, rfl, ?_⟩
    refine wps_mono (b6_ok hw hk hk5 hZ hZ2 g1 (by omega) a1 a4 a5 a6 a7 b8 b9 b10 (some (.int (j : Int))) b12 b13) ?_ (fun _ _ h => h.elim) (fun _ _ h => h.elim) (fun _ _ h => h.elim)
    rintro e u ⟨⟨c8, c9, c10, c12, c13, rfl⟩, h1, h2⟩
    exact ⟨⟨_, _, _, _, _, _, rfl⟩, h1.le (by omega), g2.trans h2⟩
  · rintro e u ⟨⟨b8, b9, b10, b11, b12, b13, rfl⟩, g1, g2⟩
    refine ⟨⟨_, _, _, _, _, _, _, _, _, _, _, _, _, rfl⟩, g1.le ?_, g2⟩
    simp
def lapB (SW T : List W → Store → Res W) (P3 P4 P6 : Q.Sv) : Q.Sv := sSeq (sAsg (eCallF SW 1 (eCons (eVar 0) eNil)) (.tup [(.nm 2), (.nm 3), (.nm 4), (.nm 5)])) (sSeq (sAsg eNewD (.nm 6)) (sSeq P3 (sSeq P4 (sSeq (sAsg (eCallB bInt (eCons (eOp2 vAdd (eVar 3) (eCallF T 2 (eCons (eVar 0) (eCons (eC (W.int 60)) eNil)))) eNil)) (.nm 3)) (sSeq P6 sNx)))))
theorem lap_gen {SW T : List W → Store → Res W} {P3 P4 P6 : Q.Sv} {K : SK} {n D : Nat} {w : Str} {k z sl mo : Int} {s t1 : Store} {Q3 Q4 : Store → Prop} {Q5 : Int → Store → Prop} (e1 : SW [.ref n] s = .ok (.tup [.tup [.str w, .int k], .int z, .int sl, .int mo]) t1) (hD : D = t1.n) (a1 a2 a3 a4 a5 a6 a7 a8 a9 a10 a11 a12 a13 : Option W)
    (h3 : wps (P3 [some (.ref n), a1, some (.tup [.str w, .int k]), some (.int z), some (.int sl), some (.int mo), some (.ref D), a7, a8, a9, a10, a11, a12, a13] (t1.add (.dic []))) { nx := fun e u => (∃ a7, e = [some (.ref n), a1, some (.tup [.str w, .int k]), some (.int z), some (.int sl), some (.int mo), some (.ref D), a7, a8, a9, a10, a11, a12, a13]) ∧ Q3 u, rt := fun _ _ => False })
    (h4 : ∀ a7 u, Q3 u → wps (P4 [some (.ref n), a1, some (.tup [.str w, .int k]), some (.int z), some (.int sl), some (.int mo), some (.ref D), a7, a8, a9, a10, a11, a12, a13] u) { nx := fun e u => (∃ a8 a9 a10, e = [some (.ref n), a1, some (.tup [.str w, .int k]), some (.int z), some (.int sl), some (.int mo), some (.ref D), a7, a8, a9, a10, a11, a12, a13]) ∧ Q4 u, rt := fun _ _ => False })
    (hT : ∀ u, Q4 u → ∃ v t, T [.ref n, .int 60] u = .ok (.int v) t ∧ Q5 v t)
    (h6 : ∀ v t a7 a8 a9 a10, Q5 v t → wps (P6 [some (.ref n), a1, some (.tup [.str w, .int k]), some (.int (z + v)), some (.int sl), some (.int mo), some (.ref D), a7, a8, a9, a10, a11, a12, a13] t) K) :
    wps (lapB SW T P3 P4 P6 [some (.ref n), a1, a2, a3, a4, a5, a6, a7, a8, a9, a10, a11, a12, a13] s) K := by
  subst hD
  simp [↓bind_T, ↓bindS_T, ↓thn_T, ↓wpr_T, ↓wps_T, wpsT_seq, wpsT_bndS, wprT_bnd, wprT_runB, sRet, sRetN, sNx, sBk, sCt, sIf, sAsg, sDrop, sSub, sPar, sPar3, sAug, eVar, eC, eOp1, eOp2, eNil, eCons, eTup, eLst, eIf, eAndV, eOrV, eNotV, eAndT, eOrT, eNotT, eTest, eTru, eChain, eCallF, eCallB, eCallK, eKws, eNewD, eMeth, vAdd, vSub, vMul, vMod, vDiv, vNeg, vCmp, vCmpI, vEq, vIsN, eqF, vIx', vIx, vSet, bInt, bAbs, bLen', bLen, bIsi, tyN, tyIx, isA, truW, mtF, tyM, tgE, tgsE, L2.atI, L2.ixN, bMM, bMax, bMin, Q.small64, flatW, eqW, int_beq, add_atT, eSlice, eOpt, vCut, eIter, eEnum, mkEnum, eZip, mkZip, mkRange1, mkRange2, mkRange, wipeE, eTrue, add_oldT, put_oldT, lt_addT, ne_addT, Nat.add_assoc, filt_true, lapB, e1]
  refine wps_mono h3 ?_ (fun _ _ h => h.elim) (fun _ _ h => h.elim) (fun _ _ h => h.elim)
  rintro e u ⟨⟨b7, rfl⟩, q3⟩
  simp [↓bind_T, ↓bindS_T, ↓thn_T, ↓wpr_T, ↓wps_T, wpsT_seq, wpsT_bndS, wprT_bnd, wprT_runB, sRet, sRetN, sNx, sBk, sCt, sIf, sAsg, sDrop, sSub, sPar, sPar3, sAug, eVar, eC, eOp1, eOp2, eNil, eCons, eTup, eLst, eIf, eAndV, eOrV, eNotV, eAndT, eOrT, eNotT, eTest, eTru, eChain, eCallF, eCallB, eCallK, eKws, eNewD, eMeth, vAdd, vSub, vMul, vMod, vDiv, vNeg, vCmp, vCmpI, vEq, vIsN, eqF, vIx', vIx, vSet, bInt, bAbs, bLen', bLen, bIsi, tyN, tyIx, isA, truW, mtF, tyM, tgE, tgsE, L2.atI, L2.ixN, bMM, bMax, bMin, Q.small64, flatW, eqW, int_beq, add_atT, eSlice, eOpt, vCut, eIter, eEnum, mkEnum, eZip, mkZip, mkRange1, mkRange2, mkRange, wipeE, eTrue, add_oldT, put_oldT, lt_addT, ne_addT, Nat.add_assoc, filt_true]
  refine wps_mono (h4 b7 u q3) ?_ (fun _ _ h => h.elim) (fun _ _ h => h.elim) (fun _ _ h => h.elim)
  rintro e u ⟨⟨b8, b9, b10, rfl⟩, q4⟩
  obtain ⟨v, t, eT, q5⟩ := hT u q4
  simp [↓bind_T, ↓bindS_T, ↓thn_T, ↓wpr_T, ↓wps_T, wpsT_seq, wpsT_bndS, wprT_bnd, wprT_runB, sRet, sRetN, sNx, sBk, sCt, sIf, sAsg, sDrop, sSub, sPar, sPar3, sAug, eVar, eC, eOp1, eOp2, eNil, eCons, eTup, eLst, eIf, eAndV, eOrV, eNotV, eAndT, eOrT, eNotT, eTest, eTru, eChain, eCallF, eCallB, eCallK, eKws, eNewD, eMeth, vAdd, vSub, vMul, vMod, vDiv, vNeg, vCmp, vCmpI, vEq, vIsN, eqF, vIx', vIx, vSet, bInt, bAbs, bLen', bLen, bIsi, tyN, tyIx, isA, truW, mtF, tyM, tgE, tgsE, L2.atI, L2.ixN, bMM, bMax, bMin, Q.small64, flatW, eqW, int_beq, add_atT, eSlice, eOpt, vCut, eIter, eEnum, mkEnum, eZip, mkZip, mkRange1, mkRange2, mkRange, wipeE, eTrue, add_oldT, put_oldT, lt_addT, ne_addT, Nat.add_assoc, filt_true, eT]
  exact h6 v t b7 b8 b9 b10 q5
end K16
namespace K16
open PySem Q
theorem good_of {w : Str} {k d : Nat} (hw : w = "queue" ∨ w = "order" ∨ w = "any") (h1 : 1 ≤ k) (h5 : k < 5) (hd : d < dmax w k) : goodB (mkW w k d) = true := by
  have key : (List.range 5).all (fun k => decide (k = 0) || (List.range (dmax w k)).all fun d => goodB (mkW w k d)) = true := by
    rcases hw with rfl | rfl | rfl
    · exact good_q
    · exact good_o
    · exact good_a
  rw [List.all_eq_true] at key
  have := key k (List.mem_range.mpr h5)
  rw [Bool.or_eq_true] at this
  rcases this with h | h
  · have := of_decide_eq_true h
    omega
  · rw [List.all_eq_true] at h
    exact h d (List.mem_range.mpr hd)
theorem mk_of {w : Str} {k d : Nat} (h1 : 1 ≤ k) (h5 : k < 5) (hd : d < dmax w k) : ∃ z sl mo, mkW w k d = (w, k, z, sl, mo) ∧ 1 ≤ z ∧ z < 4 ∧ sl < 6 ∧ mo < 3 := by
  unfold mkW
  unfold dmax at hd
  have hd3 : d < 3 := by
    split at hd
    · split at hd <;> omega
    · split at hd
      · omega
      · split at hd <;> omega
  split
  · refine ⟨_, _, _, rfl, by omega, by omega, ?_, by omega⟩
    have hkk : k = 1 ∨ k = 2 ∨ k = 3 ∨ k = 4 := by omega
    rename_i hw
    rw [if_pos hw] at hd
    rcases hkk with rfl | rfl | rfl | rfl
    · simp
    · simp at hd ⊢; omega
    · simp; omega
    · simp; omega
  · split
    · exact ⟨_, _, _, rfl, by omega, by omega, by omega, by omega⟩
    · exact ⟨_, _, _, rfl, by omega, by omega, by omega, by omega⟩
theorem m_right_eq : m__law_right = sSeq (sFor (mkRange1 (eCons (eC (W.int 3)) eNil)) (.nm 1) (lapB φ__law_small_world φ__law_take p3 p4 p6)) (sSeq (sRet (eC (W.bl true))) sNx) := rfl
theorem lap_ok {s : Store} {n k0 : Nat} {b : Int} (hp : Pot s n b k0) (hk0 : k0 < 40000) (a1 a2 a3 a4 a5 a6 a7 a8 a9 a10 a11 a12 a13 : Option W) :
    wps (lapB φ__law_small_world φ__law_take p3 p4 p6 [some (.ref n), a1, a2, a3, a4, a5, a6, a7, a8, a9, a10, a11, a12, a13] s) { nx := fun e u => (∃ a1 a2 a3 a4 a5 a6 a7 a8 a9 a10 a11 a12 a13, e = [some (.ref n), a1, a2, a3, a4, a5, a6, a7, a8, a9, a10, a11, a12, a13]) ∧ Pot u n b (k0 + 70) ∧ Ext [n] s u, rt := fun _ _ => False } := by
  obtain ⟨r, t1, e1, w, k, d, hw, hk1, hk5, hd, rfl, p1, x1⟩ := wpr_iff.mp (e_world hp (by omega))
  have hg := good_of hw hk1 hk5 hd
  obtain ⟨z, sl, mo, hl, z1, z4, s6, m3⟩ := mk_of hk1 hk5 hd
  rw [hl] at hg e1
  unfold goodB at hg
  simp only [Bool.and_eq_true] at hg
  obtain ⟨⟨hb, hf⟩, hpo⟩ := hg
  have hW : Wd w k z := ⟨hw, hk1, hk5, z4⟩
  have hb' : ∀ j, j ≤ sl → (allS w k z j).length ≤ 1000 := fun j hj => by
    rw [List.all_eq_true] at hb
    exact of_decide_eq_true (hb j (List.mem_range.mpr (by omega)))
  have hpo' : ∀ x y d : Nat, x < z + 1 → y < z + 1 → d < mo + 1 → poss w (k : Int) x y d = isIn ((x : Int), (y : Int), (d : Int)) (shownOf w k z sl) := fun x y d hx hy hdd => by
    rw [List.all_eq_true] at hpo
    have h1 := hpo x (List.mem_range.mpr hx)
    rw [List.all_eq_true] at h1
    have h2 := h1 y (List.mem_range.mpr hy)
    rw [List.all_eq_true] at h2
    exact eq_of_beq (h2 d (List.mem_range.mpr hdd))
  have hx0 : Ext [] t1 (t1.add (.dic [])) := Ext.refl.add _
  refine lap_gen (D := t1.n) (Q3 := fun u => (∃ kvs, u.f t1.n = some (.dic kvs) ∧ DK kvs (fun q => isIn q (shownOf w k z sl) = true)) ∧ t1.n < u.n ∧ Ext [] t1 u) (Q4 := fun u => Ext [] t1 u) (Q5 := fun v t => 0 ≤ v ∧ v < 60 ∧ Pot t n b (k0 + 4) ∧ Ext [n] s t) e1 rfl a1 a2 a3 a4 a5 a6 a7 a8 a9 a10 a11 a12 a13 ?_ ?_ ?_ ?_
  · exact p3_ok hW s6 hb' hf (add_f _ _) (Nat.le_refl _) (by simp) hx0 _ _ _ _ _ _ _ _ _ _
  · rintro a7 u ⟨⟨kvs, h1, h2⟩, h3, h4⟩
    exact p4_ok hW m3 h1 h2 h3 h4 hpo' _ _ _ _ _ _ _ _ _ _
  · intro u hu
    obtain ⟨v, t, e, v0, v1, p2, x2⟩ := e_take (p1.ext hu) (by omega) (u := 60) (by omega) (by omega)
    exact ⟨v, t, e, v0, v1, p2, (x1.trans hu.nil).trans x2⟩
  · rintro v t a7 a8 a9 a10 ⟨v0, v1, p2, x2⟩
    refine wps_mono (p6_ok hw hk1 hk5 (Z := (z : Int) + v) (by omega) (by omega) p2 (by omega) x2 _ _ _ _ _ _ _ _ _ _ _) ?_ (fun _ _ h => h.elim) (fun _ _ h => h.elim) (fun _ _ h => h.elim)
    rintro e u ⟨he, h1, h2⟩
    exact ⟨he, h1.le (by omega), h2⟩
theorem e_right {s : Store} {n : Nat} {b : Int} (hp : Pot s n b 0) : ∃ t, φ__law_right [.ref n] s = .ok (.bl true) t ∧ Ext [n] s t := by
  suffices h : wpr (φ__law_right [.ref n] s) (fun r t => r = .bl true ∧ Ext [n] s t) by
    obtain ⟨a, t, e, rfl, h2⟩ := wpr_iff.mp h
    exact ⟨t, e, h2⟩
  show wpr (runB 14 m__law_right [.ref n] s) _
  rw [m_right_eq, wpr_runB, wps_seq]
  refine wps_for (iv := .rng 0 1 3) (s1 := s) (ws := (List.range 3).map fun i => W.int (0 + (i : Nat))) rfl (by simp [itFuel])
    (fun j e u => (∃ a1 a2 a3 a4 a5 a6 a7 a8 a9 a10 a11 a12 a13, e = [some (.ref n), a1, a2, a3, a4, a5, a6, a7, a8, a9, a10, a11, a12, a13]) ∧ Pot u n b (70 * j) ∧ Ext [n] s u) (fun j e t _ => at_rng) ⟨⟨_, _, _, _, _, _, _, _, _, _, _, _, _, rfl⟩, hp, .refl⟩ ?_ ?_
  · rintro j x e u ⟨⟨a1, a2, a3, a4, a5, a6, a7, a8, a9, a10, a11, a12, a13, rfl⟩, g1, g2⟩ hj
    obtain ⟨hj3, rfl⟩ := rg_at hj
    refine ⟨_, rfl, ?_⟩
    refine wps_mono (lap_ok g1 (by omega) (some (.int (j : Int))) a2 a3 a4 a5 a6 a7 a8 a9 a10 a11 a12 a13) ?_ (fun _ _ h => h.elim) (fun _ _ h => h.elim) (fun _ _ h => h.elim)
    rintro e u ⟨he, h1, h2⟩
    exact ⟨he, h1.le (by omega), g2.trans h2⟩
  · rintro e u ⟨_, g1, g2⟩
    exact ⟨rfl, g2⟩
end K16
namespace K16
open PySem Q
def rest (P2 P3 : Ev W) : Q.Sv := sSeq (sAsg (eOp2 vMul (eOp2 vMod (eCallB bInt (eCons (eCallB bAbs (eCons (eVar 2) eNil)) eNil)) P2) (eCallB bInt (eCons (eOp2 (vCmp .GtE) (eCallB bAbs (eCons (eVar 2) eNil)) P3) eNil))) (.nm 3))
  (sSeq (sAsg (eOp2 vMod (eCallB bInt (eCons (eVar 2) eNil)) (eC (W.int 2305843009213693951))) (.nm 4))
  (sSeq (sRet (eLst (eCons (eVar 3) (eCons (eOp2 vMod (eCallB bInt (eCons (eOp2 vAdd (eOp2 vAdd (eOp2 vMul (eVar 4) (eC (W.int 74561))) (eOp2 vMul (eOp2 vMul (eC (W.int 8247)) (eVar 1)) (eVar 1))) (eC (W.int 533))) eNil)) (eC (W.int 2305843009213693921))) (eCons (eC (W.int 0)) eNil))))) sNx))
theorem pw1 (s : Store) : vPow (.int 10) (.int 60) s = .ok (.int (10 ^ 60)) s := by
  show (if powB 10 60 = true then Res.ok (W.int (10 ^ (60 : Int).toNat)) s else .err) = _
  rw [if_pos (by decide +kernel)]
  rfl
theorem pw2 (s : Store) : vPow (.int (10 ^ 60)) (.int 5) s = .ok (.int ((10 ^ 60) ^ 5)) s := by
  show (if powB (10 ^ 60) 5 = true then Res.ok (W.int ((10 ^ 60) ^ (5 : Int).toNat)) s else .err) = _
  rw [if_pos (by decide +kernel)]
  rfl
theorem pw3 (s : Store) : vPow (.int 10) (.int 18) s = .ok (.int (10 ^ 18)) s := by
  show (if powB 10 18 = true then Res.ok (W.int (10 ^ (18 : Int).toNat)) s else .err) = _
  rw [if_pos (by decide +kernel)]
  rfl
/-- the figures are generalized, so that nobody computes them -/
theorem rest_gen {P2 P3 : Ev W} {B C : Int} (hB : 0 < B) (hp2 : ∀ e s, P2 e s = Res.ok (W.int B) s) (hp3 : ∀ e s, P3 e s = Res.ok (W.int C) s) (x : Option W) (place cell : Int) (hpl : 0 ≤ place) (hpl2 : place ≤ 10) (s : Store) :
    ∃ own b : Int, 0 ≤ own ∧ 0 ≤ b ∧ b < 2305843009213693921 ∧ rest P2 P3 [x, some (.int place), some (.int cell), none, none] s = .ret (.ref s.n) (s.add (.lst [.int own, .int b, .int 0])) := by
  have n1 : (8247 * place).natAbs < 18446744073709551616 := by omega
  have n0 : place.natAbs < 18446744073709551616 := by omega
  obtain ⟨ab, hab⟩ : ∃ ab : Int, ab = (if cell < 0 then -cell else cell) := ⟨_, rfl⟩
  by_cases hc : C ≤ ab
  · refine ⟨ab % B * 1, (cell % 2305843009213693951 * 74561 + 8247 * place * place + 533) % 2305843009213693921, ?_, Int.emod_nonneg _ (by decide), Int.emod_lt_of_pos _ (by decide), ?_⟩
    · have := Int.emod_nonneg ab (Int.ne_of_gt hB)
      omega
    · simp [↓bind_T, ↓bindS_T, ↓thn_T, ↓wpr_T, ↓wps_T, runB_eq, seq_eq, sRet, sRetN, sNx, sBk, sCt, sIf, sAsg, sDrop, sSub, sPar, sPar3, sAug, eVar, eC, eOp1, eOp2, eNil, eCons, eTup, eLst, eIf, eAndV, eOrV, eNotV, eAndT, eOrT, eNotT, eTest, eTru, eChain, eCallF, eCallB, eCallK, eKws, eNewD, eMeth, vAdd, vSub, vMul, vMod, vDiv, vPow, vNeg, vCmp, vCmpI, vEq, vIsN, eqF, vIx', vIx, vSet, bInt, bAbs, bLen', bLen, bIsi, tyN, tyIx, isA, truW, mtF, tyM, tgE, tgsE, L2.atI, L2.ixN, bMM, bMax, bMin, Q.small64, flatW, eqW, int_beq, add_at, rest, hp2, hp3, ← hab, hB, hc, n1, n0, LIM]
  · refine ⟨0, (cell % 2305843009213693951 * 74561 + 8247 * place * place + 533) % 2305843009213693921, Int.le_refl _, Int.emod_nonneg _ (by decide), Int.emod_lt_of_pos _ (by decide), ?_⟩
    simp [↓bind_T, ↓bindS_T, ↓thn_T, ↓wpr_T, ↓wps_T, runB_eq, seq_eq, sRet, sRetN, sNx, sBk, sCt, sIf, sAsg, sDrop, sSub, sPar, sPar3, sAug, eVar, eC, eOp1, eOp2, eNil, eCons, eTup, eLst, eIf, eAndV, eOrV, eNotV, eAndT, eOrT, eNotT, eTest, eTru, eChain, eCallF, eCallB, eCallK, eKws, eNewD, eMeth, vAdd, vSub, vMul, vMod, vDiv, vPow, vNeg, vCmp, vCmpI, vEq, vIsN, eqF, vIx', vIx, vSet, bInt, bAbs, bLen', bLen, bIsi, tyN, tyIx, isA, truW, mtF, tyM, tgE, tgsE, L2.atI, L2.ixN, bMM, bMax, bMin, Q.small64, flatW, eqW, int_beq, add_at, rest, hp2, hp3, ← hab, hB, hc, n1, n0, LIM]
theorem m_pot_eq : m__law_pot = sSeq (sAsg (eIf (eTest (eOp2 (vCmp .Lt) (eVar 1) (eCallB bLen' (eCons (eVar 0) eNil)))) (eOp2 vIx' (eVar 0) (eVar 1)) (eOp2 vAdd (eOp2 vAdd (eOp2 vMod (eCallB (bFold fun ns => some ns.sum) (eCons (eSlice (eVar 0) none (some (eC (W.int 1)))) eNil)) (eC (W.int 1000003))) (eOp2 vMul (eC (W.int 1241)) (eVar 1))) (eC (W.int 563)))) (.nm 2)) (rest (eOp2 vPow (eOp2 vPow (eC (W.int 10)) (eC (W.int 60))) (eC (W.int 5))) (eOp2 vPow (eC (W.int 10)) (eC (W.int 18)))) := rfl
theorem cut1 (ns : List Int) : cutW (iW ns) none (some 1) = iW (ns.take 1) := by
  unfold cutW
  have e : HT.sIx (iW ns).length 0 none = 0 := rfl
  have e2 : HT.sIx (iW ns).length (iW ns).length (some 1) = min 1 ns.length := by
    show (if (1 : Int) < 0 then ((1 : Int) + ((iW ns).length : Int)).toNat else min (1 : Int).toNat (iW ns).length) = _
    rw [if_neg (by decide), List.length_map]
    rfl
  rw [e, e2, List.drop_zero, Nat.sub_zero]
  cases ns with
  | nil => rfl
  | cons a r => simp
theorem e_pot (ns : List Int) (place : Nat) (hpl : place ≤ 10) (s : Store) : ∃ (m : Nat) (t : Store) (b : Int), φ__law_pot [.fl (iW ns), .int (place : Int)] s = .ok (.ref m) t ∧ Pot t m b 0 ∧ s.n ≤ m ∧ Ext [] s t := by
  obtain ⟨cell, s1, x1, ec⟩ : ∃ (cell : Int) (s1 : Store), Ext [] s s1 ∧ sAsg (eIf (eTest (eOp2 (vCmp .Lt) (eVar 1) (eCallB bLen' (eCons (eVar 0) eNil)))) (eOp2 vIx' (eVar 0) (eVar 1)) (eOp2 vAdd (eOp2 vAdd (eOp2 vMod (eCallB (bFold fun ns => some ns.sum) (eCons (eSlice (eVar 0) none (some (eC (W.int 1)))) eNil)) (eC (W.int 1000003))) (eOp2 vMul (eC (W.int 1241)) (eVar 1))) (eC (W.int 563)))) (.nm 2)
      [some (.fl (iW ns)), some (.int (place : Int)), none, none, none] s = .nx [some (.fl (iW ns)), some (.int (place : Int)), some (.int cell), none, none] s1 := by
    by_cases h : place < ns.length
    · refine ⟨ns[place], s, .refl, ?_⟩
      have h' : (place : Int) < (ns.length : Int) := by omega
      simp [↓bind_T, ↓bindS_T, ↓thn_T, ↓wpr_T, ↓wps_T, runB_eq, seq_eq, sRet, sRetN, sNx, sBk, sCt, sIf, sAsg, sDrop, sSub, sPar, sPar3, sAug, eVar, eC, eOp1, eOp2, eNil, eCons, eTup, eLst, eIf, eAndV, eOrV, eNotV, eAndT, eOrT, eNotT, eTest, eTru, eChain, eCallF, eCallB, eCallK, eKws, eNewD, eMeth, vAdd, vSub, vMul, vMod, vDiv, vPow, vNeg, vCmp, vCmpI, vEq, vIsN, eqF, vIx', vIx, vSet, bInt, bAbs, bLen', bLen, bIsi, tyN, tyIx, isA, truW, mtF, tyM, tgE, tgsE, L2.atI, L2.ixN, bMM, bMax, bMin, Q.small64, flatW, eqW, int_beq, add_at, h, h', List.getElem?_eq_getElem h]
    · have h' : ¬ (place : Int) < (ns.length : Int) := by omega
      refine ⟨(ns.take 1).sum % 1000003 + 1241 * place + 563, s.add (.lst (iW (ns.take 1))), Ext.refl.add _, ?_⟩
      have it1 : intsW (List.take 1 (List.map W.int ns)) = some (ns.take 1) := by
        rw [← List.map_take]
        have := intsW_fn (fun a : Int => a) (ns.take 1)
        rw [List.map_id'] at this
        exact this
      simp [↓bind_T, ↓bindS_T, ↓thn_T, ↓wpr_T, ↓wps_T, runB_eq, seq_eq, sRet, sRetN, sNx, sBk, sCt, sIf, sAsg, sDrop, sSub, sPar, sPar3, sAug, eVar, eC, eOp1, eOp2, eNil, eCons, eTup, eLst, eIf, eAndV, eOrV, eNotV, eAndT, eOrT, eNotT, eTest, eTru, eChain, eCallF, eCallB, eCallK, eKws, eNewD, eMeth, vAdd, vSub, vMul, vMod, vDiv, vPow, vNeg, vCmp, vCmpI, vEq, vIsN, eqF, vIx', vIx, vSet, bInt, bAbs, bLen', bLen, bIsi, tyN, tyIx, isA, truW, mtF, tyM, tgE, tgsE, L2.atI, L2.ixN, bMM, bMax, bMin, Q.small64, flatW, eqW, int_beq, add_at, h, h', eSlice, eOpt, vCut, cut1, bFold, it1]
  obtain ⟨own, b, o0, b0, b1, er⟩ := rest_gen (P2 := eOp2 vPow (eOp2 vPow (eC (W.int 10)) (eC (W.int 60))) (eC (W.int 5))) (P3 := eOp2 vPow (eC (W.int 10)) (eC (W.int 18))) (B := (10 ^ 60) ^ 5) (C := 10 ^ 18) (by decide +kernel) (fun e s => by
      show (vPow (.int 10) (.int 60) s).bind (fun x s1 => vPow x (.int 5) s1) = _
      rw [pw1, bind_ok, pw2]) (fun e s => pw3 s) (some (.fl (iW ns))) (place : Int) cell (by omega) (by omega) s1
  refine ⟨s1.n, s1.add (.lst [.int own, .int b, .int 0]), b, ?_, ⟨by simp, b0, by omega, own, 0, add_f _ _, o0, by omega, by omega⟩, x1.n, x1.add _⟩
  show runB 5 m__law_pot _ _ = _
  rw [runB_eq, m_pot_eq, seq_eq]
  show ((sAsg _ _ [some (.fl (iW ns)), some (.int (place : Int)), none, none, none] s).thn _).fin = _
  rw [ec, thn_nx, er]
  rfl
theorem e_cells (ns : List Int) (s : Store) : ∃ (c : Nat) (t : Store), (c = 1 ∨ c = 2) ∧ φ__law_cells [.fl (iW ns), .int 2] s = .ok (.ref s.n) (s.add (.lst ((List.range c).map fun i => W.int ((i : Nat) : Int)))) := by
  by_cases h : ns.length < 2
  · refine ⟨1, s, .inl rfl, ?_⟩
    have h1 : (ns.length : Int) < 2 := by omega
    have h2 : ¬ (1 < (ns.length : Int)) := by omega
    have r1 : rgOk 1 = true := by decide +kernel
    have r0 : rgOk 0 = true := by decide +kernel
    simp [↓bind_T, ↓bindS_T, ↓thn_T, ↓wpr_T, ↓wps_T, runB_eq, seq_eq, sRet, sRetN, sNx, sBk, sCt, sIf, sAsg, sDrop, sSub, sPar, sPar3, sAug, eVar, eC, eOp1, eOp2, eNil, eCons, eTup, eLst, eIf, eAndV, eOrV, eNotV, eAndT, eOrT, eNotT, eTest, eTru, eChain, eCallF, eCallB, eCallK, eKws, eNewD, eMeth, vAdd, vSub, vMul, vMod, vDiv, vPow, vNeg, vCmp, vCmpI, vEq, vIsN, eqF, vIx', vIx, vSet, bInt, bAbs, bLen', bLen, bIsi, tyN, tyIx, isA, truW, mtF, tyM, tgE, tgsE, L2.atI, L2.ixN, bMM, bMax, bMin, Q.small64, flatW, eqW, int_beq, add_at, φ__law_cells, m__law_cells, eLstRg1, mkRgL, h1, h2, r1, r0, LIM, rgW]
  · refine ⟨2, s, .inr rfl, ?_⟩
    have h1 : ¬ ((ns.length : Int) < 2) := by omega
    have r1 : rgOk 2 = true := by decide +kernel
    have r0 : rgOk 0 = true := by decide +kernel
    simp [↓bind_T, ↓bindS_T, ↓thn_T, ↓wpr_T, ↓wps_T, runB_eq, seq_eq, sRet, sRetN, sNx, sBk, sCt, sIf, sAsg, sDrop, sSub, sPar, sPar3, sAug, eVar, eC, eOp1, eOp2, eNil, eCons, eTup, eLst, eIf, eAndV, eOrV, eNotV, eAndT, eOrT, eNotT, eTest, eTru, eChain, eCallF, eCallB, eCallK, eKws, eNewD, eMeth, vAdd, vSub, vMul, vMod, vDiv, vPow, vNeg, vCmp, vCmpI, vEq, vIsN, eqF, vIx', vIx, vSet, bInt, bAbs, bLen', bLen, bIsi, tyN, tyIx, isA, truW, mtF, tyM, tgE, tgsE, L2.atI, L2.ixN, bMM, bMax, bMin, Q.small64, flatW, eqW, int_beq, add_at, φ__law_cells, m__law_cells, eLstRg1, mkRgL, h1, r1, r0, LIM, rgW]
theorem wpr_lcE {it : Ev ItV} {iv : ItV} {vs : List Nat} {t : Tg} {c : Ev Bool} {x : Ev W} {e : Env'} {s s1 : Store} {Q : W → Store → Prop} {ws : List W} (hi : it e s = .ok iv s1) (hf : ws.length < itFuel iv s1) (Inv : Nat → Store → Prop) (hat : ∀ j s, Inv j s → itAt iv j s = some ws[j]?)
    (turn : ∀ j w s, Inv j s → ws[j]? = some w → ∃ e1, tgE t w (wipeE e vs) = some e1 ∧ wpr (c e1 s) fun b s2 => if b = true then wpr (x e1 s2) fun y s3 => ∃ acc, s3.f s1.n = some (.lst acc) ∧ acc.length < LIM ∧ Inv (j + 1) (s3.put s1.n (.lst (acc ++ [y]))) else Inv (j + 1) s2)
    (i0 : Inv 0 (s1.add (.lst []))) (fin : ∀ s, Inv ws.length s → Q (.ref s1.n) s) : wpr (eLc it vs t c x e s) Q := by
  unfold eLc
  rw [hi, bind_ok]
  exact wpr_lcLoop Inv hat turn fin _ 0 _ (by omega) (Nat.zero_le _) i0
def lawB (CE PT RT : List W → Store → Res W) : Ev W := eCallB (bAA fun bs => bs.all id) (eCons (eLc (eIter (eCallF CE 2 (eCons (eVar 0) (eCons (eC (W.int 2)) eNil)))) [1] (.nm 1) eTrue (eCallF RT 1 (eCons (eCallF PT 2 (eCons (eVar 0) (eCons (eVar 1) eNil))) eNil))) eNil)
theorem law_gen {CE PT RT : List W → Store → Res W} {xs : List W} {s : Store} {c : Nat} (hc : c ≤ 10) (ec : CE [.fl xs, .int 2] s = .ok (.ref s.n) (s.add (.lst ((List.range c).map fun i => W.int ((i : Nat) : Int)))))
    (hp : ∀ (place : Nat) (u : Store), place < c → ∃ (m : Nat) (t t' : Store), PT [.fl xs, .int (place : Int)] u = .ok (.ref m) t ∧ RT [.ref m] t = .ok (.bl true) t' ∧ Ext [] u t') : wpr (lawB CE PT RT [some (.fl xs), none] s) fun r _ => r = .bl true := by
  simp [↓bind_T, ↓bindS_T, ↓thn_T, ↓wpr_T, ↓wps_T, wpsT_seq, wpsT_bndS, wprT_bnd, wprT_runB, sRet, sRetN, sNx, sBk, sCt, sIf, sAsg, sDrop, sSub, sPar, sPar3, sAug, eVar, eC, eOp1, eOp2, eNil, eCons, eTup, eLst, eIf, eAndV, eOrV, eNotV, eAndT, eOrT, eNotT, eTest, eTru, eChain, eCallF, eCallB, eCallK, eKws, eNewD, eMeth, vAdd, vSub, vMul, vMod, vDiv, vNeg, vCmp, vCmpI, vEq, vIsN, eqF, vIx', vIx, vSet, bInt, bAbs, bLen', bLen, bIsi, tyN, tyIx, isA, truW, mtF, tyM, tgE, tgsE, L2.atI, L2.ixN, bMM, bMax, bMin, Q.small64, flatW, eqW, int_beq, add_atT, eSlice, eOpt, vCut, eIter, eEnum, mkEnum, eZip, mkZip, mkRange1, mkRange2, mkRange, wipeE, eTrue, add_oldT, put_oldT, lt_addT, ne_addT, Nat.add_assoc, filt_true, lawB]
  refine wpr_lcE (iv := .lst s.n) (s1 := s.add (.lst ((List.range c).map fun i => W.int ((i : Nat) : Int)))) (ws := (List.range c).map fun i => W.int ((i : Nat) : Int)) (by simp [↓bind_T, ↓bindS_T, ↓thn_T, ↓wpr_T, ↓wps_T, wpsT_seq, wpsT_bndS, wprT_bnd, wprT_runB, sRet, sRetN, sNx, sBk, sCt, sIf, sAsg, sDrop, sSub, sPar, sPar3, sAug, eVar, eC, eOp1, eOp2, eNil, eCons, eTup, eLst, eIf, eAndV, eOrV, eNotV, eAndT, eOrT, eNotT, eTest, eTru, eChain, eCallF, eCallB, eCallK, eKws, eNewD, eMeth, vAdd, vSub, vMul, vMod, vDiv, vNeg, vCmp, vCmpI, vEq, vIsN, eqF, vIx', vIx, vSet, bInt, bAbs, bLen', bLen, bIsi, tyN, tyIx, isA, truW, mtF, tyM, tgE, tgsE, L2.atI, L2.ixN, bMM, bMax, bMin, Q.small64, flatW, eqW, int_beq, add_atT, eSlice, eOpt, vCut, eIter, eEnum, mkEnum, eZip, mkZip, mkRange1, mkRange2, mkRange, wipeE, eTrue, add_oldT, put_oldT, lt_addT, ne_addT, Nat.add_assoc, filt_true, ec]) (by simp [itFuel])
    (fun j u => u.f (s.n + 1) = some (.lst ((List.range j).map fun _ => W.bl true)) ∧ u.f s.n = some (.lst ((List.range c).map fun i => W.int ((i : Nat) : Int))) ∧ s.n + 1 < u.n) (fun j u ⟨_, h, _⟩ => by simp only [itAt, h]) ?_ ?_ ?_
  · rintro j w u ⟨h1, h2, h3⟩ hw
    have hj : j < c := by
      have := (List.getElem?_eq_some_iff.mp hw).1
      simpa using this
    have hx : w = .int (j : Int) := by
      rw [List.getElem?_map, List.getElem?_range hj] at hw
      simp at hw
      exact hw.symm
    subst hx
    obtain ⟨m, t, t', e1, e2, x1⟩ := hp j u hj
    refine ⟨_, by simp [tgE, wipeE]; rfl, ?_⟩
    have g1 := x1.at h3 h1
    have g2 := x1.at (by omega) h2
    have n1 := x1.n
    simp [↓bind_T, ↓bindS_T, ↓thn_T, ↓wpr_T, ↓wps_T, wpsT_seq, wpsT_bndS, wprT_bnd, wprT_runB, sRet, sRetN, sNx, sBk, sCt, sIf, sAsg, sDrop, sSub, sPar, sPar3, sAug, eVar, eC, eOp1, eOp2, eNil, eCons, eTup, eLst, eIf, eAndV, eOrV, eNotV, eAndT, eOrT, eNotT, eTest, eTru, eChain, eCallF, eCallB, eCallK, eKws, eNewD, eMeth, vAdd, vSub, vMul, vMod, vDiv, vNeg, vCmp, vCmpI, vEq, vIsN, eqF, vIx', vIx, vSet, bInt, bAbs, bLen', bLen, bIsi, tyN, tyIx, isA, truW, mtF, tyM, tgE, tgsE, L2.atI, L2.ixN, bMM, bMax, bMin, Q.small64, flatW, eqW, int_beq, add_atT, eSlice, eOpt, vCut, eIter, eEnum, mkEnum, eZip, mkZip, mkRange1, mkRange2, mkRange, wipeE, eTrue, add_oldT, put_oldT, lt_addT, ne_addT, Nat.add_assoc, filt_true, e1, e2]
    refine ⟨_, g1, by simp [LIM]; omega, ?_, by simp [↓bind_T, ↓bindS_T, ↓thn_T, ↓wpr_T, ↓wps_T, wpsT_seq, wpsT_bndS, wprT_bnd, wprT_runB, sRet, sRetN, sNx, sBk, sCt, sIf, sAsg, sDrop, sSub, sPar, sPar3, sAug, eVar, eC, eOp1, eOp2, eNil, eCons, eTup, eLst, eIf, eAndV, eOrV, eNotV, eAndT, eOrT, eNotT, eTest, eTru, eChain, eCallF, eCallB, eCallK, eKws, eNewD, eMeth, vAdd, vSub, vMul, vMod, vDiv, vNeg, vCmp, vCmpI, vEq, vIsN, eqF, vIx', vIx, vSet, bInt, bAbs, bLen', bLen, bIsi, tyN, tyIx, isA, truW, mtF, tyM, tgE, tgsE, L2.atI, L2.ixN, bMM, bMax, bMin, Q.small64, flatW, eqW, int_beq, add_atT, eSlice, eOpt, vCut, eIter, eEnum, mkEnum, eZip, mkZip, mkRange1, mkRange2, mkRange, wipeE, eTrue, add_oldT, put_oldT, lt_addT, ne_addT, Nat.add_assoc, filt_true, g2], by omega⟩
    rw [List.range_succ, List.map_append]
    rfl
  · exact ⟨by simp [↓bind_T, ↓bindS_T, ↓thn_T, ↓wpr_T, ↓wps_T, wpsT_seq, wpsT_bndS, wprT_bnd, wprT_runB, sRet, sRetN, sNx, sBk, sCt, sIf, sAsg, sDrop, sSub, sPar, sPar3, sAug, eVar, eC, eOp1, eOp2, eNil, eCons, eTup, eLst, eIf, eAndV, eOrV, eNotV, eAndT, eOrT, eNotT, eTest, eTru, eChain, eCallF, eCallB, eCallK, eKws, eNewD, eMeth, vAdd, vSub, vMul, vMod, vDiv, vNeg, vCmp, vCmpI, vEq, vIsN, eqF, vIx', vIx, vSet, bInt, bAbs, bLen', bLen, bIsi, tyN, tyIx, isA, truW, mtF, tyM, tgE, tgsE, L2.atI, L2.ixN, bMM, bMax, bMin, Q.small64, flatW, eqW, int_beq, add_atT, eSlice, eOpt, vCut, eIter, eEnum, mkEnum, eZip, mkZip, mkRange1, mkRange2, mkRange, wipeE, eTrue, add_oldT, put_oldT, lt_addT, ne_addT, Nat.add_assoc, filt_true], by simp [↓bind_T, ↓bindS_T, ↓thn_T, ↓wpr_T, ↓wps_T, wpsT_seq, wpsT_bndS, wprT_bnd, wprT_runB, sRet, sRetN, sNx, sBk, sCt, sIf, sAsg, sDrop, sSub, sPar, sPar3, sAug, eVar, eC, eOp1, eOp2, eNil, eCons, eTup, eLst, eIf, eAndV, eOrV, eNotV, eAndT, eOrT, eNotT, eTest, eTru, eChain, eCallF, eCallB, eCallK, eKws, eNewD, eMeth, vAdd, vSub, vMul, vMod, vDiv, vNeg, vCmp, vCmpI, vEq, vIsN, eqF, vIx', vIx, vSet, bInt, bAbs, bLen', bLen, bIsi, tyN, tyIx, isA, truW, mtF, tyM, tgE, tgsE, L2.atI, L2.ixN, bMM, bMax, bMin, Q.small64, flatW, eqW, int_beq, add_atT, eSlice, eOpt, vCut, eIter, eEnum, mkEnum, eZip, mkZip, mkRange1, mkRange2, mkRange, wipeE, eTrue, add_oldT, put_oldT, lt_addT, ne_addT, Nat.add_assoc, filt_true], by simp⟩
  · rintro u ⟨h1, h2, h3⟩
    refine wpr_eq (bAA_all (f := fun _ => true) (l := List.range ((List.range c).map fun i => W.int ((i : Nat) : Int)).length) h1) ?_
    unfold allF
    simp
theorem e_law (ns : List Int) (hn : ns.length ≤ 63) : ∃ s, φ_law [.fl (ns.map W.int)] st0 = .ok (.bl true) s := by
  obtain ⟨c, _, hc, ec⟩ := e_cells ns st0
  have h := law_gen (CE := φ__law_cells) (PT := φ__law_pot) (RT := φ__law_right) (s := st0) (c := c) (by omega) ec (fun place u hpl => by
    obtain ⟨m, t, b, e1, p, hm, x1⟩ := e_pot ns place (by omega) u
    obtain ⟨t', e2, x2⟩ := e_right p
    exact ⟨m, t, t', e1, e2, ⟨Nat.le_trans x1.n x2.n, fun a ha _ => (x2.f a (Nat.lt_of_lt_of_le ha x1.n) (by simp; omega)).trans (x1.f a ha (by simp))⟩⟩)
  obtain ⟨a, t, e, rfl⟩ := wpr_iff.mp h
  refine ⟨t, ?_⟩
  show runB 2 m_law [.fl (iW ns)] st0 = _
  rw [runB_eq]
  show ((sSeq (sRet (lawB φ__law_cells φ__law_pot φ__law_right)) sNx) [some (.fl (iW ns)), none] st0).fin = _
  rw [seq_eq]
  unfold sRet
  rw [e]
  rfl
end K16
theorem PySem.Challenge.cw_queueloops_k16_whole_pairs_that_can_be_holds : PySem.Challenge.rw_queueloops_k16_whole_pairs_that_can_be.Holds := by
  exact holds_of K16.e_law
