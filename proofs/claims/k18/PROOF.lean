import PyProof.Rows.All
import Wide.All
import OpenK.AllK
import Wide.FinOn
import HandS.ForMost
import HandS.IsInst
import HandS.Deep
import HandS.TupAny
import HandS.Conv
import HandS.Flow
import HandS.Style
import HandS.SortInts
import HandS.Strs
import HandS.SetFor
import PyProof.NeKinds
import PyProof.P3In
import PyProof.SeqIndex
import KE.KIndexWalk
import KE.DataMinMax
import KE.SortData
import KE.GoesMore
import KE.GoesEnum
import KE.KTupSum
import PyProof.TupleOfSeq
import PySem.Challenge.RW_neverregret_k18_whole_court_and_the_plai
set_option Elab.async false
set_option linter.all false
set_option maxRecDepth 100000
set_option maxHeartbeats 4000000
namespace NR
open PySem PySem.Spec PyProof.Rows L2

/-! data without lists, and how a value bears them -/
inductive D where
  | non
  | bl (b : Bool)
  | int (i : Int)
  | str (s : Str)
  | tup (ds : List D)
  | ins (C : Addr) (ns : List Str) (ds : List D)
  | ty (n : String)
  | cls (C : Addr)

mutual
def Rp (K : PySem.W.Frag) (H : Hp) : D → V → Prop
  | .non, v => v = .non
  | .bl b, v => v = .bl b
  | .int i, v => v = .int i
  | .str s, v => v = .str s
  | .tup ds, v => ∃ a vs, v = .ref a ∧ H a = some (.tup vs) ∧ RpL K H ds vs
  | .ins C ns ds, v => ∃ a dx vs, v = .ref a ∧ H a = some (.ins C dx (ns.zip vs)) ∧ RpL K H ds vs
  | .ty n, v => v = .ty n
  | .cls C, v => v = .ref C
def RpL (K : PySem.W.Frag) (H : Hp) : List D → List V → Prop
  | [], vs => vs = []
  | d :: ds, vs => ∃ v r, vs = v :: r ∧ Rp K H d v ∧ RpL K H ds r
end

def Stat : HO → Prop
  | .tup _ => True
  | .ins _ _ _ => True
  | .frz _ _ => True
  | _ => False
def ExT (H H' : Hp) : Prop := ∀ b o, H b = some o → Stat o → H' b = some o
theorem ExT.refl (H : Hp) : ExT H H := fun _ _ h _ => h
theorem ExT.trans {H H1 H2 : Hp} (a : ExT H H1) (b : ExT H1 H2) : ExT H H2 := fun c o h s => b c o (a c o h s) s
theorem ExT.sqt {K : PySem.W.Frag} {H H' : Hp} {a : Addr} {xs : List V} (e : ExT H H') (h : SqT K H a xs) : SqT K H' a xs := by
  rcases h with (h | ⟨o, h⟩) | h
  · exact .inl (.inl (e _ _ h trivial))
  · exact .inl (.inr ⟨o, e _ _ h trivial⟩)
  · exact .inr h
mutual
theorem Rp.mono {K : PySem.W.Frag} {H H' : Hp} (e : ExT H H') : ∀ (d : D) (v : V), Rp K H d v → Rp K H' d v
  | .non, _, h => by simpa only [Rp] using h
  | .bl _, _, h => by simpa only [Rp] using h
  | .int _, _, h => by simpa only [Rp] using h
  | .str _, _, h => by simpa only [Rp] using h
  | .tup ds, _, h => by
    simp only [Rp] at h ⊢
    obtain ⟨a, vs, e1, e2, e3⟩ := h
    exact ⟨a, vs, e1, e _ _ e2 trivial, RpL.mono e ds vs e3⟩
  | .ins C ns ds, _, h => by
    simp only [Rp] at h ⊢
    obtain ⟨a, dx, vs, e1, e2, e3⟩ := h
    exact ⟨a, dx, vs, e1, e _ _ e2 trivial, RpL.mono e ds vs e3⟩
  | .ty _, _, h => by simpa only [Rp] using h
  | .cls _, _, h => by simpa only [Rp] using h
theorem RpL.mono {K : PySem.W.Frag} {H H' : Hp} (e : ExT H H') : ∀ (ds : List D) (vs : List V), RpL K H ds vs → RpL K H' ds vs
  | [], _, h => by simpa only [RpL] using h
  | d :: ds, _, h => by
    simp only [RpL] at h ⊢
    obtain ⟨v, r, e1, e2, e3⟩ := h
    exact ⟨v, r, e1, Rp.mono e d v e2, RpL.mono e ds r e3⟩
end
theorem RpL.nil {K : PySem.W.Frag} {H : Hp} : RpL K H [] [] := by simp only [RpL]
theorem RpL.cons {K : PySem.W.Frag} {H : Hp} {d : D} {ds : List D} {v : V} {vs : List V} (h : Rp K H d v) (t : RpL K H ds vs) : RpL K H (d :: ds) (v :: vs) := by
  simp only [RpL]
  exact ⟨v, vs, rfl, h, t⟩
theorem RpL.len {K : PySem.W.Frag} {H : Hp} : ∀ {ds : List D} {vs : List V}, RpL K H ds vs → vs.length = ds.length
  | [], _, h => by
    simp only [RpL] at h
    rw [h] <;> rfl
  | d :: ds, _, h => by
    simp only [RpL] at h
    obtain ⟨v, r, rfl, _, e3⟩ := h
    simp only [List.length_cons, RpL.len e3]
theorem RpL.get {K : PySem.W.Frag} {H : Hp} : ∀ {ds : List D} {vs : List V} {i : Nat} {d : D}, RpL K H ds vs → ds[i]? = some d → ∃ v, vs[i]? = some v ∧ Rp K H d v
  | [], _, _, _, _, e => by simp at e
  | x :: ds, _, 0, d, h, e => by
    simp only [RpL] at h
    obtain ⟨v, r, rfl, e2, _⟩ := h
    simp at e
    subst e
    exact ⟨v, rfl, e2⟩
  | x :: ds, _, i + 1, d, h, e => by
    simp only [RpL] at h
    obtain ⟨v, r, rfl, _, e3⟩ := h
    obtain ⟨u, q1, q2⟩ := RpL.get (i := i) e3 (by simpa using e)
    exact ⟨u, by simpa using q1, q2⟩
theorem RpL.app {K : PySem.W.Frag} {H : Hp} : ∀ {ds es : List D} {vs us : List V}, RpL K H ds vs → RpL K H es us → RpL K H (ds ++ es) (vs ++ us)
  | [], _, _, _, h, q => by
    simp only [RpL] at h
    subst h
    exact q
  | d :: ds, es, _, us, h, q => by
    simp only [RpL] at h
    obtain ⟨v, r, rfl, e2, e3⟩ := h
    exact RpL.cons e2 (RpL.app e3 q)
theorem RpL.snoc {K : PySem.W.Frag} {H : Hp} {ds : List D} {d : D} {vs : List V} {v : V} (h : RpL K H ds vs) (q : Rp K H d v) : RpL K H (ds ++ [d]) (vs ++ [v]) := h.app (.cons q .nil)
theorem RpL.take {K : PySem.W.Frag} {H : Hp} : ∀ (n : Nat) {ds : List D} {vs : List V}, RpL K H ds vs → RpL K H (ds.take n) (vs.take n)
  | 0, _, _, _ => by simp only [List.take_zero]; exact .nil
  | n + 1, [], _, h => by
    simp only [RpL] at h
    subst h
    exact .nil
  | n + 1, d :: ds, _, h => by
    simp only [RpL] at h
    obtain ⟨v, r, rfl, e2, e3⟩ := h
    exact RpL.cons e2 (RpL.take n e3)
theorem RpL.drop {K : PySem.W.Frag} {H : Hp} : ∀ (n : Nat) {ds : List D} {vs : List V}, RpL K H ds vs → RpL K H (ds.drop n) (vs.drop n)
  | 0, _, _, h => h
  | n + 1, [], _, h => by
    simp only [RpL] at h
    subst h
    exact .nil
  | n + 1, d :: ds, _, h => by
    simp only [RpL] at h
    obtain ⟨v, r, rfl, e2, e3⟩ := h
    exact RpL.drop n e3
theorem RpL.set {K : PySem.W.Frag} {H : Hp} {d : D} {v : V} (q : Rp K H d v) : ∀ (n : Nat) {ds : List D} {vs : List V}, RpL K H ds vs → RpL K H (ds.set n d) (vs.set n v)
  | _, [], _, h => by
    simp only [RpL] at h
    subst h
    exact .nil
  | 0, _ :: ds, _, h => by
    simp only [RpL] at h
    obtain ⟨v, r, rfl, e2, e3⟩ := h
    exact RpL.cons q e3
  | n + 1, _ :: ds, _, h => by
    simp only [RpL] at h
    obtain ⟨v, r, rfl, e2, e3⟩ := h
    exact RpL.cons e2 (RpL.set q n e3)
/-- ints -/
def dI (n : Int) : D := .int n
def dN (n : Nat) : D := .int n
theorem RpL.ints {K : PySem.W.Frag} {H : Hp} : ∀ {ns : List Int} {vs : List V}, RpL K H (ns.map D.int) vs → vs = ns.map V.int
  | [], _, h => by simpa only [List.map_nil, RpL] using h
  | n :: ns, _, h => by
    simp only [List.map_cons, RpL, Rp] at h
    obtain ⟨v, r, rfl, rfl, e3⟩ := h
    rw [RpL.ints e3] <;> rfl
theorem RpL.of_ints {K : PySem.W.Frag} {H : Hp} : ∀ (ns : List Int), RpL K H (ns.map D.int) (ns.map V.int)
  | [] => .nil
  | n :: ns => .cons (by simp only [Rp]) (RpL.of_ints ns)
theorem RpL.strs {K : PySem.W.Frag} {H : Hp} : ∀ {ns : List Str} {vs : List V}, RpL K H (ns.map D.str) vs → vs = ns.map V.str
  | [], _, h => by simpa only [List.map_nil, RpL] using h
  | n :: ns, _, h => by
    simp only [List.map_cons, RpL, Rp] at h
    obtain ⟨v, r, rfl, rfl, e3⟩ := h
    rw [RpL.strs e3] <;> rfl
theorem RpL.of_strs {K : PySem.W.Frag} {H : Hp} : ∀ (ns : List Str), RpL K H (ns.map D.str) (ns.map V.str)
  | [] => .nil
  | n :: ns => .cons (by simp only [Rp]) (RpL.of_strs ns)
theorem RpL.bools {K : PySem.W.Frag} {H : Hp} : ∀ {ns : List Bool} {vs : List V}, RpL K H (ns.map D.bl) vs → vs = ns.map V.bl
  | [], _, h => by simpa only [List.map_nil, RpL] using h
  | n :: ns, _, h => by
    simp only [List.map_cons, RpL, Rp] at h
    obtain ⟨v, r, rfl, rfl, e3⟩ := h
    rw [RpL.bools e3] <;> rfl

/-! the world: what calls may change besides new things -/
structure Wd where
  bd : Addr → Prop
  hv : V
  J : Hp → Prop
  jm : ∀ H H' : Hp, (∀ b, bd b → H' b = H b) → J H → J H'
  al : ∀ (H : Hp) (b : Addr), J H → bd b → ∃ xs, H b = some (.lst xs)
def W0 : Wd := ⟨fun _ => False, .non, fun _ => True, fun _ _ _ _ => trivial, fun _ _ _ h => h.elim⟩
def Fr (W : Wd) (H H' : Hp) : Prop := (∀ b o, ¬ W.bd b → H b = some o → H' b = some o) ∧ W.J H'
section
variable {W : Wd} {K : PySem.W.Frag} {H H1 H2 H' : Hp} {a p : Addr} {o : HO}
theorem Fr.refl (j : W.J H) : Fr W H H := ⟨fun _ _ _ h => h, j⟩
theorem Fr.trans (a : Fr W H H1) (b : Fr W H1 H2) : Fr W H H2 := ⟨fun c o n h => b.1 c o n (a.1 c o n h), b.2⟩
theorem Wd.nbd (j : W.J H) (h : ∀ xs, H a ≠ some (.lst xs)) : ¬ W.bd a := fun n => by
  obtain ⟨xs, e⟩ := W.al H a j n
  exact h xs e
theorem Fr.ext (j : W.J H) (f : Fr W H H') : ExT H H' := fun b o h s => f.1 b o (Wd.nbd j fun xs e => by
  rw [h] at e
  cases e
  exact s) h
theorem Fr.back (j : W.J H) (f : Fr W H H') (h : H' a = none) : H a = none := by
  cases q : H a with
  | none => rfl
  | some o =>
    by_cases hb : W.bd a
    · obtain ⟨xs, e⟩ := W.al H' a f.2 hb
      rw [h] at e
      cases e
    · rw [f.1 a o hb q] at h
      cases h
theorem Wd.jnew (j : W.J H) (h : H p = none) : W.J (upd H p o) := W.jm H _ (fun b hb => by
  obtain ⟨xs, e⟩ := W.al H b j hb
  exact upd_ne (ne_of_none e h)) j
theorem Wd.jmut (j : W.J H) (h : ¬ W.bd p) : W.J (upd H p o) := W.jm H _ (fun b hb => upd_ne fun e => h (e ▸ hb)) j
theorem Fr.new (j : W.J H) (h : H p = none) : Fr W H (upd H p o) := ⟨fun b u _ e => by
  rw [upd_ne (ne_of_none e h)]
  exact e, Wd.jnew j h⟩
theorem Wd.fresh (j : W.J H) (h : H p = none) : ¬ W.bd p := Wd.nbd j fun xs e => by
  rw [h] at e
  cases e
theorem ExT.new (h : H p = none) : ExT H (upd H p o) := fun b u e _ => by
  rw [upd_ne (ne_of_none e h)]
  exact e
theorem ExT.mut (h : ∀ u, H p = some u → ¬ Stat u) : ExT H (upd H p o) := fun b u e s => by
  have : b ≠ p := fun z => h u (z ▸ e) s
  rw [upd_ne this]
  exact e

/-- a value as the machine's slots or results hold it -/
inductive S where
  | d (d : D)
  | l (ds : List D)
  | own (ds : List D)
  | hp
  | dic (kvs : List (List Int × Int))
  | ft (ds : List D)
def dicV (kvs : List (List Int × Int)) : List (List Key × V) := kvs.map fun p => (p.1.map Sum.inl, V.int p.2)
def SV (K : PySem.W.Frag) (W : Wd) : S → V → Hp → Prop
  | .d d, v, H => Rp K H d v
  | .l ds, v, H => ∃ a vs, v = .ref a ∧ SqL K H a vs ∧ ¬ W.bd a ∧ RpL K H ds vs
  | .own ds, v, H => ∃ a vs, v = .ref a ∧ H a = some (.lst vs) ∧ ¬ W.bd a ∧ RpL K H ds vs
  | .hp, v, _ => v = W.hv
  | .dic kvs, v, H => ∃ a, v = .ref a ∧ H a = some (.dT (dicV kvs)) ∧ ¬ W.bd a
  | .ft ds, v, H => ∃ a vs o, v = .ref a ∧ H a = some (.frz o (.tup vs)) ∧ o.dict = none ∧ RpL K H ds vs
theorem sql_fr (f : Fr W H H') (n : ¬ W.bd a) {xs : List V} (h : SqL K H a xs) : SqL K H' a xs := by
  rcases h with (h | ⟨o, h⟩) | h
  · exact .inl (.inl (f.1 _ _ n h))
  · exact .inl (.inr ⟨o, f.1 _ _ n h⟩)
  · exact .inr h
theorem SV.mono (j : W.J H) (f : Fr W H H') : ∀ {s : S} {v : V}, SV K W s v H → SV K W s v H'
  | .d d, v, h => Rp.mono (f.ext j) d v h
  | .l ds, v, h => by
    obtain ⟨a, vs, e1, e2, e3, e4⟩ := h
    exact ⟨a, vs, e1, sql_fr f e3 e2, e3, RpL.mono (f.ext j) _ _ e4⟩
  | .own ds, v, h => by
    obtain ⟨a, vs, e1, e2, e3, e4⟩ := h
    exact ⟨a, vs, e1, f.1 _ _ e3 e2, e3, RpL.mono (f.ext j) _ _ e4⟩
  | .hp, v, h => h
  | .dic kvs, v, h => by
    obtain ⟨a, e1, e2, e3⟩ := h
    exact ⟨a, e1, f.1 _ _ e3 e2, e3⟩
  | .ft ds, v, h => by
    obtain ⟨a, vs, o, e1, e2, e3, e4⟩ := h
    exact ⟨a, vs, o, e1, f.ext j _ _ e2 trivial, e3, RpL.mono (f.ext j) _ _ e4⟩
theorem SV.toL {ds : List D} {v : V} (h : SV K W (.own ds) v H) : SV K W (.l ds) v H := by
  obtain ⟨a, vs, e1, e2, e3, e4⟩ := h
  exact ⟨a, vs, e1, SqL.of e2, e3, e4⟩
def Mutb : S → Prop
  | .own _ => True
  | .dic _ => True
  | _ => False
/-- a result, behind H: what may be changed later is new -/
def RS (K : PySem.W.Frag) (W : Wd) (H H' : Hp) (s : S) (v : V) : Prop := SV K W s v H' ∧ (Mutb s → ∀ a, v = .ref a → H a = none)
theorem RS.mono (j : W.J H1) (f : Fr W H1 H2) {s : S} {v : V} (h : RS K W H H1 s v) : RS K W H H2 s v := ⟨h.1.mono j f, h.2⟩
theorem RS.back (j : W.J H) (f : Fr W H H1) {s : S} {v : V} (h : RS K W H1 H2 s v) : RS K W H H2 s v := ⟨h.1, fun m a e => f.back j (h.2 m a e)⟩
theorem RS.ofd {d : D} {v : V} (h : Rp K H' d v) : RS K W H H' (.d d) v := ⟨h, fun m => m.elim⟩

abbrev Env := List (Option S)
structure SR (K : PySem.W.Frag) (W : Wd) (δ : Env) (σ : L2.St) (H : Hp) : Prop where
  j : W.J H
  len : σ.length = δ.length
  at_ : ∀ (i : Nat) (s : S), δ[i]? = some (some s) → ∃ v, σ[i]? = some (some v) ∧ SV K W s v H
theorem SR.mono {δ : Env} {σ : L2.St} (h : SR K W δ σ H) (f : Fr W H H') : SR K W δ σ H' := ⟨f.2, h.len, fun i s e => by
  obtain ⟨v, e1, e2⟩ := h.at_ i s e
  exact ⟨v, e1, e2.mono h.j f⟩⟩

/-! states between statements: a base that stays -/
def Sub (W : Wd) (B H : Hp) : Prop := ∀ b o, ¬ W.bd b → B b = some o → H b = some o
theorem Sub.fr {B : Hp} (s : Sub W B H) (f : Fr W H H') : Sub W B H' := fun b o n e => f.1 b o n (s b o n e)
def Le (B B' : Hp) : Prop := ∀ b o, B b = some o → B' b = some o
theorem Le.refl (B : Hp) : Le B B := fun _ _ e => e
theorem Le.trans {B B1 B2 : Hp} (a : Le B B1) (b : Le B1 B2) : Le B B2 := fun c o e => b c o (a c o e)
theorem Le.back {B B' : Hp} (l : Le B B') (h : B' a = none) : B a = none := by
  cases q : B a with
  | none => rfl
  | some o =>
    rw [l a o q] at h
    cases h
theorem Le.new {B : Hp} (h : B p = none) : Le B (upd B p o) := fun b u e => by
  rw [upd_ne (ne_of_none e h)]
  exact e
theorem Le.sql {B B' : Hp} (l : Le B B') {xs : List V} (h : SqL K B a xs) : SqL K B' a xs := by
  rcases h with (h | ⟨o, h⟩) | h
  · exact .inl (.inl (l _ _ h))
  · exact .inl (.inr ⟨o, l _ _ h⟩)
  · exact .inr h
theorem Sub.sql {B : Hp} (s : Sub W B H) (n : ¬ W.bd a) {xs : List V} (h : SqL K B a xs) : SqL K H a xs := by
  rcases h with (h | ⟨o, h⟩) | h
  · exact .inl (.inl (s _ _ n h))
  · exact .inl (.inr ⟨o, s _ _ n h⟩)
  · exact .inr h
def SVs (K : PySem.W.Frag) (W : Wd) (B : Hp) : S → V → Hp → Prop
  | .d d, v, H => Rp K H d v
  | .l ds, v, H => ∃ a vs, v = .ref a ∧ SqL K B a vs ∧ ¬ W.bd a ∧ RpL K H ds vs
  | .own ds, v, H => ∃ a vs, v = .ref a ∧ B a = none ∧ ¬ W.bd a ∧ H a = some (.lst vs) ∧ RpL K H ds vs
  | .hp, v, _ => v = W.hv
  | .dic kvs, v, H => ∃ a, v = .ref a ∧ B a = none ∧ ¬ W.bd a ∧ H a = some (.dT (dicV kvs))
  | .ft ds, v, H => ∃ a vs o, v = .ref a ∧ H a = some (.frz o (.tup vs)) ∧ o.dict = none ∧ RpL K H ds vs
theorem SVs.sv {B : Hp} (u : Sub W B H) : ∀ {s : S} {v : V}, SVs K W B s v H → SV K W s v H
  | .d d, v, h => h
  | .l ds, v, h => by
    obtain ⟨a, vs, e1, e2, e3, e4⟩ := h
    exact ⟨a, vs, e1, u.sql e3 e2, e3, e4⟩
  | .own ds, v, h => by
    obtain ⟨a, vs, e1, _, e2, e3, e4⟩ := h
    exact ⟨a, vs, e1, e3, e2, e4⟩
  | .hp, v, h => h
  | .dic kvs, v, h => by
    obtain ⟨a, e1, _, e2, e3⟩ := h
    exact ⟨a, e1, e3, e2⟩
  | .ft ds, v, h => h
theorem SVs.fr {B : Hp} (j : W.J H) (f : Fr W H H') : ∀ {s : S} {v : V}, SVs K W B s v H → SVs K W B s v H'
  | .d d, v, h => Rp.mono (f.ext j) d v h
  | .l ds, v, h => by
    obtain ⟨a, vs, e1, e2, e3, e4⟩ := h
    exact ⟨a, vs, e1, e2, e3, RpL.mono (f.ext j) _ _ e4⟩
  | .own ds, v, h => by
    obtain ⟨a, vs, e1, e0, e2, e3, e4⟩ := h
    exact ⟨a, vs, e1, e0, e2, f.1 _ _ e2 e3, RpL.mono (f.ext j) _ _ e4⟩
  | .hp, v, h => h
  | .dic kvs, v, h => by
    obtain ⟨a, e1, e0, e2, e3⟩ := h
    exact ⟨a, e1, e0, e2, f.1 _ _ e2 e3⟩
  | .ft ds, v, h => by
    obtain ⟨a, vs, o, e1, e2, e3, e4⟩ := h
    exact ⟨a, vs, o, e1, f.ext j _ _ e2 trivial, e3, RpL.mono (f.ext j) _ _ e4⟩
structure SRs (K : PySem.W.Frag) (W : Wd) (B : Hp) (δ : Env) (σ : L2.St) (H : Hp) : Prop where
  j : W.J H
  len : σ.length = δ.length
  sub : Sub W B H
  at_ : ∀ (i : Nat) (s : S), δ[i]? = some (some s) → ∃ v, σ[i]? = some (some v) ∧ SVs K W B s v H
  ne : ∀ (i k : Nat) (s t : S) (a : Addr), i ≠ k → δ[i]? = some (some s) → δ[k]? = some (some t) → Mutb s → Mutb t → σ[i]? = some (some (.ref a)) → σ[k]? ≠ some (some (.ref a))
theorem SRs.sr {B : Hp} {δ : Env} {σ : L2.St} (h : SRs K W B δ σ H) : SR K W δ σ H := ⟨h.j, h.len, fun i s e => by
  obtain ⟨v, e1, e2⟩ := h.at_ i s e
  exact ⟨v, e1, e2.sv h.sub⟩⟩
theorem SRs.fr {B : Hp} {δ : Env} {σ : L2.St} (h : SRs K W B δ σ H) (f : Fr W H H') : SRs K W B δ σ H' := ⟨f.2, h.len, h.sub.fr f, fun i s e => by
  obtain ⟨v, e1, e2⟩ := h.at_ i s e
  exact ⟨v, e1, e2.fr h.j f⟩, h.ne⟩
/-- behind a return -/
structure SRr (K : PySem.W.Frag) (W : Wd) (B : Hp) (s : S) (v : V) (H : Hp) : Prop where
  j : W.J H
  sub : Sub W B H
  at_ : SVs K W B s v H

theorem set_some {α : Type} {l : List (Option α)} {i k : Nat} {x y : α} (h : (l.set i (some x))[k]? = some (some y)) : (k = i ∧ y = x) ∨ (k ≠ i ∧ l[k]? = some (some y)) := by
  by_cases e : k = i
  · subst e
    by_cases hl : k < l.length
    · rw [List.getElem?_set_self hl] at h
      cases h
      exact .inl ⟨rfl, rfl⟩
    · rw [List.getElem?_eq_none (by rw [List.length_set]; omega)] at h
      cases h
  · rw [List.getElem?_set_ne (Ne.symm e)] at h
    exact .inr ⟨e, h⟩
theorem set_none {α : Type} {l : List (Option α)} {i k : Nat} {y : α} (h : (l.set i none)[k]? = some (some y)) : k ≠ i ∧ l[k]? = some (some y) := by
  by_cases e : k = i
  · subst e
    by_cases hl : k < l.length
    · rw [List.getElem?_set_self hl] at h
      cases h
    · rw [List.getElem?_eq_none (by rw [List.length_set]; omega)] at h
      cases h
  · rw [List.getElem?_set_ne (Ne.symm e)] at h
    exact ⟨e, h⟩
theorem set_in {α : Type} {l : List (Option α)} {m : List (Option α)} {i : Nat} {x : α} {s : α} (hl : l.length = m.length) (h : (m.set i (some s))[i]? = some (some s)) : (l.set i (some x))[i]? = some (some x) := by
  by_cases q : i < m.length
  · exact List.getElem?_set_self (by omega)
  · rw [List.getElem?_eq_none (by rw [List.length_set]; omega)] at h
    cases h
theorem SR.set {δ : Env} {σ : L2.St} {i : Nat} {s : S} {v : V} (h : SR K W δ σ H) (q : SV K W s v H) : SR K W (δ.set i (some s)) (σ.set i (some v)) H := ⟨h.j, by rw [List.length_set, List.length_set, h.len], fun k t e => by
  rcases set_some e with ⟨rfl, rfl⟩ | ⟨ne, e'⟩
  · refine ⟨v, ?_, q⟩
    have hk : k < (δ.set k (some t)).length := (List.getElem?_eq_some_iff.mp e).1
    rw [List.length_set] at hk
    exact List.getElem?_set_self (by rw [h.len]; exact hk)
  · obtain ⟨u, e1, e2⟩ := h.at_ k t e'
    exact ⟨u, by rw [List.getElem?_set_ne (Ne.symm ne)]; exact e1, e2⟩⟩
/-- a slot is stored: not a thing that may be changed -/
theorem SRs.setD {B : Hp} {δ : Env} {σ : L2.St} {i : Nat} {s : S} {v : V} (h : SRs K W B δ σ H) (q : SVs K W B s v H) (hm : Mutb s → ∀ (k : Nat) (t : S) (a : Addr), k ≠ i → δ[k]? = some (some t) → Mutb t → v = .ref a → σ[k]? ≠ some (some (.ref a))) :
    SRs K W B (δ.set i (some s)) (σ.set i (some v)) H := ⟨h.j, by rw [List.length_set, List.length_set, h.len], h.sub, fun k t e => by
  rcases set_some e with ⟨rfl, rfl⟩ | ⟨ne, e'⟩
  · refine ⟨v, ?_, q⟩
    have hk : k < (δ.set k (some t)).length := (List.getElem?_eq_some_iff.mp e).1
    rw [List.length_set] at hk
    exact List.getElem?_set_self (by rw [h.len]; exact hk)
  · obtain ⟨u, e1, e2⟩ := h.at_ k t e'
    exact ⟨u, by rw [List.getElem?_set_ne (Ne.symm ne)]; exact e1, e2⟩, fun k l s' t a nkl e1 e2 m1 m2 h1 h2 => by
  rcases set_some e1 with ⟨rfl, rfl⟩ | ⟨ne1, e1'⟩
  · rcases set_some e2 with ⟨rfl, rfl⟩ | ⟨ne2, e2'⟩
    · exact nkl rfl
    · rw [List.getElem?_set_ne (Ne.symm ne2)] at h2
      rcases set_some h1 with ⟨_, hv⟩ | ⟨z, _⟩
      · exact hm m1 l t a ne2 e2' m2 hv.symm h2
      · exact z rfl
  · rw [List.getElem?_set_ne (Ne.symm ne1)] at h1
    rcases set_some e2 with ⟨rfl, rfl⟩ | ⟨ne2, e2'⟩
    · rcases set_some h2 with ⟨_, hv⟩ | ⟨z, _⟩
      · exact hm m2 k s' a ne1 e1' m1 hv.symm h1
      · exact z rfl
    · rw [List.getElem?_set_ne (Ne.symm ne2)] at h2
      exact h.ne k l s' t a nkl e1' e2' m1 m2 h1 h2⟩
/-- a result of an expression, stored -/
theorem SRs.setR {B : Hp} {δ : Env} {σ : L2.St} {i : Nat} {s : S} {v : V} (h : SRs K W B δ σ H) (f : Fr W H H') (q : RS K W H H' s v) (hl : ∀ ds, s ≠ .l ds) : SRs K W B (δ.set i (some s)) (σ.set i (some v)) H' := by
  refine (h.fr f).setD ?_ ?_
  · cases s with
    | d d => exact q.1
    | l ds => exact absurd rfl (hl ds)
    | own ds =>
      obtain ⟨a, vs, e1, e2, e3, e4⟩ := q.1
      refine ⟨a, vs, e1, ?_, e3, e2, e4⟩
      cases z : B a with
      | none => rfl
      | some o =>
        have z1 := h.sub a o e3 z
        rw [q.2 trivial a e1] at z1
        cases z1
    | hp => exact q.1
    | dic kvs =>
      obtain ⟨a, e1, e2, e3⟩ := q.1
      refine ⟨a, e1, ?_, e3, e2⟩
      cases z : B a with
      | none => rfl
      | some o =>
        have z1 := h.sub a o e3 z
        rw [q.2 trivial a e1] at z1
        cases z1
    | ft ds => exact q.1
  · intro m k t a nk e mt ev hk
    obtain ⟨u, e1, e2⟩ := h.at_ k t e
    rw [hk] at e1
    cases e1
    have hn := q.2 m a ev
    cases t with
    | own ds =>
      obtain ⟨a', vs, z1, _, _, z2, _⟩ := e2
      cases z1
      rw [hn] at z2
      cases z2
    | dic kvs =>
      obtain ⟨a', z1, _, _, z2⟩ := e2
      cases z1
      rw [hn] at z2
      cases z2
    | d d => exact mt
    | l ds => exact mt
    | hp => exact mt
    | ft ds => exact mt
/-- a base that grows by a list that is no slot's own -/
theorem SRs.pin {B : Hp} {δ : Env} {σ : L2.St} {vs : List V} (h : SRs K W B δ σ H) (e : H a = some (.lst vs)) (n : ¬ W.bd a) (hb : ∀ o, B a = some o → o = .lst vs)
    (hs : ∀ (k : Nat) (t : S), δ[k]? = some (some t) → Mutb t → σ[k]? ≠ some (some (.ref a))) : SRs K W (upd B a (.lst vs)) δ σ H ∧ Le B (upd B a (.lst vs)) := by
  have le : Le B (upd B a (.lst vs)) := fun b o z => by
    by_cases q : b = a
    · subst q
      rw [upd_same, hb o z]
    · rw [upd_ne q]
      exact z
  refine ⟨⟨h.j, h.len, fun b o nb z => ?_, fun i s z => ?_, h.ne⟩, le⟩
  · by_cases q : b = a
    · subst q
      rw [upd_same] at z
      cases z
      exact e
    · rw [upd_ne q] at z
      exact h.sub b o nb z
  · obtain ⟨v, e1, e2⟩ := h.at_ i s z
    refine ⟨v, e1, ?_⟩
    cases s with
    | d d => exact e2
    | l ds =>
      obtain ⟨x, us, q1, q2, q3, q4⟩ := e2
      exact ⟨x, us, q1, le.sql q2, q3, q4⟩
    | own ds =>
      obtain ⟨x, us, q1, q2, q3, q4, q5⟩ := e2
      subst q1
      refine ⟨x, us, rfl, ?_, q3, q4, q5⟩
      rw [upd_ne (fun w => hs i _ z trivial (by rw [e1, w]))]
      exact q2
    | hp => exact e2
    | dic kvs =>
      obtain ⟨x, q1, q2, q3, q4⟩ := e2
      subst q1
      refine ⟨x, rfl, ?_, q3, q4⟩
      rw [upd_ne (fun w => hs i _ z trivial (by rw [e1, w]))]
      exact q2
    | ft ds => exact e2
/-- an own thing is written -/
theorem SRs.write {B : Hp} {δ : Env} {σ : L2.St} {i : Nat} {s t : S} (h : SRs K W B δ σ H) (es : δ[i]? = some (some s)) (ev : σ[i]? = some (some (.ref a))) (ms : Mutb s) (mt : Mutb t) (hB : B a = none) (hn : ¬ W.bd a)
    (hu : ∀ u, H a = some u → ¬ Stat u) (q : SVs K W B t (.ref a) (upd H a o)) : SRs K W B (δ.set i (some t)) σ (upd H a o) := by
  have ex : ExT H (upd H a o) := ExT.mut hu
  have hi : i < δ.length := (List.getElem?_eq_some_iff.mp es).1
  refine ⟨Wd.jmut h.j hn, by rw [List.length_set, h.len], fun b u nb z => ?_, fun k r z => ?_, fun k l s' t' x nkl z1 z2 m1 m2 h1 h2 => ?_⟩
  · rw [upd_ne (ne_of_none z hB)]
    exact h.sub b u nb z
  · rcases set_some z with ⟨rfl, rfl⟩ | ⟨nk, z'⟩
    · exact ⟨_, ev, q⟩
    · obtain ⟨v, e1, e2⟩ := h.at_ k r z'
      refine ⟨v, e1, ?_⟩
      cases r with
      | d d => exact Rp.mono ex d v e2
      | l ds =>
        obtain ⟨x, us, q1, q2, q3, q4⟩ := e2
        exact ⟨x, us, q1, q2, q3, RpL.mono ex _ _ q4⟩
      | own ds =>
        obtain ⟨x, us, q1, q2, q3, q4, q5⟩ := e2
        subst q1
        have nx : x ≠ a := fun w => h.ne i k s _ a (Ne.symm nk) es z' ms trivial ev (by rw [e1, w])
        exact ⟨x, us, rfl, q2, q3, by rw [upd_ne nx]; exact q4, RpL.mono ex _ _ q5⟩
      | hp => exact e2
      | dic kvs =>
        obtain ⟨x, q1, q2, q3, q4⟩ := e2
        subst q1
        have nx : x ≠ a := fun w => h.ne i k s _ a (Ne.symm nk) es z' ms trivial ev (by rw [e1, w])
        exact ⟨x, rfl, q2, q3, by rw [upd_ne nx]; exact q4⟩
      | ft ds =>
        obtain ⟨x, us, o, q1, q2, q3, q4⟩ := e2
        exact ⟨x, us, o, q1, ex _ _ q2 trivial, q3, RpL.mono ex _ _ q4⟩
  · rcases set_some z1 with ⟨rfl, rfl⟩ | ⟨n1, z1'⟩
    · rcases set_some z2 with ⟨rfl, rfl⟩ | ⟨n2, z2'⟩
      · exact nkl rfl
      · exact h.ne k l s t' x nkl es z2' ms m2 h1 h2
    · rcases set_some z2 with ⟨rfl, rfl⟩ | ⟨n2, z2'⟩
      · exact h.ne k l s' s x nkl z1' es m1 ms h1 h2
      · exact h.ne k l s' t' x nkl z1' z2' m1 m2 h1 h2
/-- what is known may be forgotten -/
def Fg (δ δ' : Env) : Prop := δ'.length = δ.length ∧ ∀ (i : Nat) (s : S), δ'[i]? = some (some s) → δ[i]? = some (some s)
theorem Fg.refl (δ : Env) : Fg δ δ := ⟨rfl, fun _ _ h => h⟩
theorem Fg.nil : Fg [] [] := ⟨rfl, fun _ _ h => h⟩
theorem Fg.same {δ δ' : Env} {x : Option S} (h : Fg δ δ') : Fg (x :: δ) (x :: δ') := ⟨by rw [List.length_cons, List.length_cons, h.1], fun i s e => match i, e with
  | 0, e => e
  | i + 1, e => h.2 i s e⟩
theorem Fg.drop {δ δ' : Env} {x : Option S} (h : Fg δ δ') : Fg (x :: δ) (none :: δ') := ⟨by rw [List.length_cons, List.length_cons, h.1], fun i s e => match i, e with
  | 0, e => by cases e
  | i + 1, e => h.2 i s e⟩
theorem SRs.fg {B : Hp} {δ δ' : Env} {σ : L2.St} (h : SRs K W B δ σ H) (f : Fg δ δ') : SRs K W B δ' σ H :=
  ⟨h.j, by rw [f.1, h.len], h.sub, fun i s e => h.at_ i s (f.2 i s e), fun i k s t a n e1 e2 => h.ne i k s t a n (f.2 i s e1) (f.2 k t e2)⟩
theorem SR.fg {δ δ' : Env} {σ : L2.St} (h : SR K W δ σ H) (f : Fg δ δ') : SR K W δ' σ H := ⟨h.j, by rw [f.1, h.len], fun i s e => h.at_ i s (f.2 i s e)⟩
end
end NR
namespace NR
open PySem PySem.Spec PyProof.Rows L2

/-! judgements: code against what it makes of known slots -/
structure Cok (k : Nat) (X : Cx) : Prop where
  calm : X.calm = true
  nd : X.N.Nodup
  hr : Room k X.A
  xe : X.xe = fun _ _ => False
theorem Cok.mono {j k : Nat} {X : Cx} (o : Cok k X) (h : j ≤ k) : Cok j X := ⟨o.calm, o.nd, o.hr.mono h, o.xe⟩
theorem Cok.blk {k : Nat} {X : Cx} (o : Cok k X) (s : Shared) (H : Hp) (scope : Scope) (cenv : PySem.Env) (fp : List Addr) : Cok k (X.blk s H scope cenv fp) := ⟨o.calm, o.nd, o.hr, rfl⟩
theorem Cok.hu {k : Nat} {X : Cx} (o : Cok k X) : X.A.units + 64 < cLine := o.hr.units
theorem Cok.hu1 {k : Nat} {X : Cx} (o : Cok k X) : X.A.units + 65 < cLine := by
  have := o.hr.un
  omega
theorem Cok.own {k : Nat} {X : Cx} (o : Cok k X) : PassesOwn (model X.prog X.w) X.A X.env X.xe := by
  rw [o.xe]
  exact PassesOwn.never

section
variable (K : PySem.W.Frag) (W : Wd)
def cE (δ : Env) (P : S → Prop) : TE := fun σ H Q => SR K W δ σ H ∧ ∀ s v H2, Fr W H H2 → RS K W H H2 s v → P s → Q v H2
def cT (δ : Env) (P : Bool → Prop) : TT := fun σ H Q => SR K W δ σ H ∧ ∀ b H2, Fr W H H2 → P b → Q b H2
def cA (δ : Env) (P : List S → Prop) : TA := fun σ H Q => SR K W δ σ H ∧ ∀ ss vs H2, Fr W H H2 → Paired (fun s v => RS K W H H2 s v) ss vs → P ss → Q vs H2
end
def AE (X : Cx) (W : Wd) (e : Expr) (δ : Env) (P : S → Prop) : Prop := PE X e (cE X.K W δ P)
def AT (X : Cx) (W : Wd) (e : Expr) (δ : Env) (P : Bool → Prop) : Prop := PT X e (cT X.K W δ P)
def AW (X : Cx) (W : Wd) (e : Expr) (δ : Env) (P : Bool → Prop) : Prop := PW X e (cT X.K W δ P)
def AA (X : Cx) (W : Wd) (es : List Expr) (δ : Env) (P : List S → Prop) : Prop := PA X es (cA X.K W δ P)
/-- the known cases -/
abbrev AEq (X : Cx) (W : Wd) (e : Expr) (δ : Env) (s : S) : Prop := AE X W e δ (fun t => t = s)
abbrev ATq (X : Cx) (W : Wd) (e : Expr) (δ : Env) (b : Bool) : Prop := AT X W e δ (fun t => t = b)
abbrev AWq (X : Cx) (W : Wd) (e : Expr) (δ : Env) (b : Bool) : Prop := AW X W e δ (fun t => t = b)
abbrev AAq (X : Cx) (W : Wd) (es : List Expr) (δ : Env) (ss : List S) : Prop := AA X W es δ (fun t => t = ss)

section
variable {X : Cx} {W : Wd} {e a b c : Expr} {es rest : List Expr} {δ : Env} {P P1 P2 P3 : S → Prop} {B B1 B2 : Bool → Prop} {pos : Pos}
theorem pe_weak {t t' : TE} (h : PE X e t) (k : ∀ σ H Q, t' σ H Q → t σ H Q) : PE X e t' := ⟨fun pins s σ H Q I q => h.run pins s σ H Q I (k σ H Q q)⟩
theorem pt_weak {t t' : TT} (h : PT X e t) (k : ∀ σ H Q, t' σ H Q → t σ H Q) : PT X e t' := ⟨fun pins s σ H Q I q => h.run pins s σ H Q I (k σ H Q q)⟩
theorem pw_weak {t t' : TT} (h : PW X e t) (k : ∀ σ H Q, t' σ H Q → t σ H Q) : PW X e t' := ⟨fun wh pins s σ H Q I q => h.run wh pins s σ H Q I (k σ H Q q)⟩
theorem pa_weak {t t' : TA} (h : PA X es t) (k : ∀ σ H Q, t' σ H Q → t σ H Q) : PA X es t' := ⟨fun ps pins s σ H Q I q => h.run ps pins s σ H Q I (k σ H Q q)⟩
theorem pe_ex {ι : Type} {t : ι → TE} (h : ∀ i, PE X e (t i)) : PE X e (fun σ H Q => ∃ i, t i σ H Q) := ⟨fun pins s σ H Q I ⟨i, q⟩ => (h i).run pins s σ H Q I q⟩
theorem pt_ex {ι : Type} {t : ι → TT} (h : ∀ i, PT X e (t i)) : PT X e (fun σ H Q => ∃ i, t i σ H Q) := ⟨fun pins s σ H Q I ⟨i, q⟩ => (h i).run pins s σ H Q I q⟩
theorem pw_ex {ι : Type} {t : ι → TT} (h : ∀ i, PW X e (t i)) : PW X e (fun σ H Q => ∃ i, t i σ H Q) := ⟨fun wh pins s σ H Q I ⟨i, q⟩ => (h i).run wh pins s σ H Q I q⟩

theorem AE.weak (h : AE X W e δ P1) (k : ∀ s, P1 s → P s) : AE X W e δ P := pe_weak h fun σ H Q ⟨q1, q2⟩ => ⟨q1, fun s v H2 f r p => q2 s v H2 f r (k s p)⟩
theorem AEq.to {s t : S} (h : AEq X W e δ s) (k : s = t) : AEq X W e δ t := k ▸ h
theorem AEq.toP {s : S} (h : AEq X W e δ s) (k : P s) : AE X W e δ P := AE.weak h fun t z => z ▸ k
theorem AT.weak (h : AT X W e δ B1) (k : ∀ s, B1 s → B s) : AT X W e δ B := pt_weak h fun σ H Q ⟨q1, q2⟩ => ⟨q1, fun v H2 f p => q2 v H2 f (k v p)⟩
theorem ATq.to {s t : Bool} (h : ATq X W e δ s) (k : s = t) : ATq X W e δ t := k ▸ h
theorem AE.fg {δ' : Env} (h : AE X W e δ' P) (k : Fg δ δ') : AE X W e δ P := pe_weak h fun σ H Q ⟨q1, q2⟩ => ⟨q1.fg k, q2⟩

/-! names, constants -/
theorem ae_var {i : Nat} {x : Str} {s : S} (hs : δ[i]? = some (some s)) (hm : ¬ Mutb s) (hN : X.N[i]? = some x) (hv : Vis X.env.scope x) (hd : (x == ("__debug__" : Str)) = false) (hc : (x == ("__classdict__" : Str)) = false) : AEq X W (.Name x pos) δ s :=
  pe_weak (pe_var hN hv hd hc) fun σ H Q ⟨q1, q2⟩ => by
    obtain ⟨v, e1, e2⟩ := q1.at_ i s hs
    exact ⟨v, e1, q2 s v H (.refl q1.j) ⟨e2, fun m => (hm m).elim⟩ rfl⟩
/-- a list of one's own, read -/
theorem ae_varO {i : Nat} {x : Str} {ds : List D} (hs : δ[i]? = some (some (.own ds))) (hN : X.N[i]? = some x) (hv : Vis X.env.scope x) (hd : (x == ("__debug__" : Str)) = false) (hc : (x == ("__classdict__" : Str)) = false) : AEq X W (.Name x pos) δ (.l ds) :=
  pe_weak (pe_var hN hv hd hc) fun σ H Q ⟨q1, q2⟩ => by
    obtain ⟨v, e1, e2⟩ := q1.at_ i _ hs
    exact ⟨v, e1, q2 (.l ds) v H (.refl q1.j) ⟨e2.toL, fun m => m.elim⟩ rfl⟩
theorem ae_con {d : D} {v : V} (h : PE X e (tC v)) (r : ∀ H, Rp X.K H d v) : AEq X W e δ (.d d) := pe_weak h fun σ H Q ⟨q1, q2⟩ => q2 (.d d) v H (.refl q1.j) (.ofd (r H)) rfl
theorem ae_int {i : Int} {j : Nat} : AEq X W (.Constant (.int i) j pos) δ (.d (.int i)) := ae_con pe_int fun _ => by simp only [Rp]
theorem ae_bl {i : Bool} {j : Nat} : AEq X W (.Constant (.bool i) j pos) δ (.d (.bl i)) := ae_con pe_bl fun _ => by simp only [Rp]
theorem ae_str {i : Str} {j : Nat} : AEq X W (.Constant (.str i) j pos) δ (.d (.str i)) := ae_con pe_str fun _ => by simp only [Rp]
theorem ae_non {j : Nat} : AEq X W (.Constant .none j pos) δ (.d .non) := ae_con pe_non fun _ => by simp only [Rp]
theorem ae_gty {x : Str} {n : String} (hg : Gl X x) (hm : X.mg x = none) (hv : bootBuiltins x = some (.type n)) (hn : x ≠ "__name__") (hd : (x == ("__debug__" : Str)) = false) : AEq X W (.Name x pos) δ (.d (.ty n)) := ae_con (v := .ty n) (pe_bltn hg hm hv rfl hn hd) fun _ => by simp only [Rp]
theorem ae_gcls {x : Str} {C : Addr} (hg : Gl X x) (hm : X.mg x = some (.ref C)) (hd : (x == ("__debug__" : Str)) = false) : AEq X W (.Name x pos) δ (.d (.cls C)) := ae_con (v := .ref C) (pe_glob hg hm rfl hd) fun _ => by simp only [Rp]
theorem ae_gint {x : Str} {i : Int} {t : Tok} (hg : Gl X x) (hm : X.mg x = some (.int i t)) (hd : (x == ("__debug__" : Str)) = false) : AEq X W (.Name x pos) δ (.d (.int i)) := ae_con (v := .int i) (pe_glob hg hm ⟨t, rfl⟩ hd) fun _ => by simp only [Rp]
theorem ae_gstr {x : Str} {i : Str} {t : Tok} (hg : Gl X x) (hm : X.mg x = some (.str i t)) (hd : (x == ("__debug__" : Str)) = false) : AEq X W (.Name x pos) δ (.d (.str i)) := ae_con (v := .str i) (pe_glob hg hm ⟨t, rfl⟩ hd) fun _ => by simp only [Rp]

/-! two-place operations -/
/-- what an operation by values gives for two results -/
def OpD (K : PySem.W.Frag) (W : Wd) (r : R2) (s1 s2 : S) (P : S → Prop) : Prop :=
  ∀ x y H Q, W.J H → SV K W s1 x H → SV K W s2 y H → (∀ s v H2, Fr W H H2 → RS K W H H2 s v → P s → Q v H2) → r x y H Q
theorem op_core {r : R2} {σ : L2.St} {H : Hp} {Q : VK} (hr : ∀ s1 s2, P1 s1 → P2 s2 → OpD X.K W r s1 s2 P) (h : cE X.K W δ P σ H Q) : tOp r (cE X.K W δ P1) (cE X.K W δ P2) σ H Q := by
  obtain ⟨q1, q2⟩ := h
  refine ⟨q1, fun s1 x H1 f1 r1 p1 => ⟨q1.mono f1, fun s2 y H2 f2 r2 p2 => ?_⟩⟩
  exact hr s1 s2 p1 p2 x y H2 Q f2.2 (r1.1.mono f1.2 f2) r2.1 fun s v H3 f3 r3 p3 => q2 s v H3 ((f1.trans f2).trans f3) (r3.back q1.j (f1.trans f2)) p3
theorem ae_opG {op : Operator} {r : R2} (ho : OpR X (binaryOp op) r) (ha : AE X W a δ P1) (hb : AE X W b δ P2) (hr : ∀ s1 s2, P1 s1 → P2 s2 → OpD X.K W r s1 s2 P) : AE X W (.BinOp a op b pos) δ P :=
  pe_weak (pe_op ho ha hb) fun σ H Q h => op_core hr h
theorem ae_op {op : Operator} {r : R2} {s1 s2 s : S} (ho : OpR X (binaryOp op) r) (ha : AEq X W a δ s1) (hb : AEq X W b δ s2) (hr : OpD X.K W r s1 s2 (· = s)) : AEq X W (.BinOp a op b pos) δ s :=
  ae_opG ho ha hb fun t1 t2 e1 e2 => by
    subst e1 e2
    exact hr
theorem ae_cmpG {op : CmpOp} {r : R2} (ho : OpR X (compareOp op) r) (ha : AE X W a δ P1) (hb : AE X W b δ P2) (hm : behindInMarks op b = false) (hr : ∀ s1 s2, P1 s1 → P2 s2 → OpD X.K W r s1 s2 P) : AE X W (.Compare a [op] [b] pos) δ P :=
  pe_weak (pe_cmpR ho ha hb hm) fun σ H Q h => op_core hr h
theorem ae_cmp {op : CmpOp} {r : R2} {s1 s2 s : S} (ho : OpR X (compareOp op) r) (ha : AEq X W a δ s1) (hb : AEq X W b δ s2) (hm : behindInMarks op b = false) (hr : OpD X.K W r s1 s2 (· = s)) : AEq X W (.Compare a [op] [b] pos) δ s :=
  ae_cmpG ho ha hb hm fun t1 t2 e1 e2 => by
    subst e1 e2
    exact hr
theorem at_cmpG {op : CmpOp} {r : R2} (ho : OpR X (compareOp op) r) (ha : AE X W a δ P1) (hb : AE X W b δ P2) (hm : behindInMarks op b = false) (hr : ∀ s1 s2, P1 s1 → P2 s2 → OpD X.K W r s1 s2 (fun s => ∃ b, s = .d (.bl b) ∧ B b)) : AT X W (.Compare a [op] [b] pos) δ B :=
  pt_weak (pt_cmpR ho ha hb hm) fun σ H Q h => op_core hr ⟨h.1, fun s v H2 f r p => by
    obtain ⟨b, rfl, hb⟩ := p
    have e : v = .bl b := by
      have := r.1
      simpa only [SV, Rp] using this
    exact ⟨b, e, h.2 b H2 f hb⟩⟩
theorem at_cmp {op : CmpOp} {r : R2} {s1 s2 : S} {k : Bool} (ho : OpR X (compareOp op) r) (ha : AEq X W a δ s1) (hb : AEq X W b δ s2) (hm : behindInMarks op b = false) (hr : OpD X.K W r s1 s2 (· = .d (.bl k))) : ATq X W (.Compare a [op] [b] pos) δ k :=
  at_cmpG ho ha hb hm fun t1 t2 e1 e2 => by
    subst e1 e2
    exact fun x y H Q j h1 h2 q => hr x y H Q j h1 h2 fun s v H2 f r p => q s v H2 f r ⟨k, p, rfl⟩
theorem OpD.ofd {r : R2} {s1 s2 : S} {d : D} {v : V} (hv : ∀ H, Rp X.K H d v) (h : ∀ x y H Q, W.J H → SV X.K W s1 x H → SV X.K W s2 y H → Q v H → r x y H Q) : OpD X.K W r s1 s2 (· = .d d) :=
  fun x y H Q j h1 h2 q => h x y H Q j h1 h2 (q (.d d) v H (.refl j) (.ofd (hv H)) rfl)
theorem rp_int {K : PySem.W.Frag} {H : Hp} {i : Int} : Rp K H (.int i) (.int i) := by simp only [Rp]
theorem rp_bl {K : PySem.W.Frag} {H : Hp} {i : Bool} : Rp K H (.bl i) (.bl i) := by simp only [Rp]
theorem rp_str {K : PySem.W.Frag} {H : Hp} {i : Str} : Rp K H (.str i) (.str i) := by simp only [Rp]
theorem rp_non {K : PySem.W.Frag} {H : Hp} : Rp K H .non .non := by simp only [Rp]
theorem sv_int {K : PySem.W.Frag} {H : Hp} {i : Int} {v : V} (h : SV K W (.d (.int i)) v H) : v = .int i := by simpa only [SV, Rp] using h
theorem sv_bl {K : PySem.W.Frag} {H : Hp} {i : Bool} {v : V} (h : SV K W (.d (.bl i)) v H) : v = .bl i := by simpa only [SV, Rp] using h
theorem sv_str {K : PySem.W.Frag} {H : Hp} {i : Str} {v : V} (h : SV K W (.d (.str i)) v H) : v = .str i := by simpa only [SV, Rp] using h
theorem sv_non {K : PySem.W.Frag} {H : Hp} {v : V} (h : SV K W (.d .non) v H) : v = .non := by simpa only [SV, Rp] using h
theorem sv_tup {K : PySem.W.Frag} {H : Hp} {ds : List D} {v : V} (h : SV K W (.d (.tup ds)) v H) : ∃ a vs, v = .ref a ∧ H a = some (.tup vs) ∧ RpL K H ds vs := by simpa only [SV, Rp] using h

theorem od_I0 {g : Int → Int → Int} {i j : Int} : OpD X.K W (rI0 fun i j => .int (g i j)) (.d (.int i)) (.d (.int j)) (· = .d (.int (g i j))) :=
  .ofd (fun _ => rp_int) fun x y H Q _ h1 h2 q => ⟨i, j, sv_int h1, sv_int h2, q⟩
theorem od_B0 {g : Int → Int → Bool} {i j : Int} : OpD X.K W (rI0 fun i j => .bl (g i j)) (.d (.int i)) (.d (.int j)) (· = .d (.bl (g i j))) :=
  .ofd (fun _ => rp_bl) fun x y H Q _ h1 h2 q => ⟨i, j, sv_int h1, sv_int h2, q⟩
theorem od_I {C : Int → Int → Prop} {g : Int → Int → Int} {i j : Int} (hc : C i j) : OpD X.K W (rI C fun i j => .int (g i j)) (.d (.int i)) (.d (.int j)) (· = .d (.int (g i j))) :=
  .ofd (fun _ => rp_int) fun x y H Q _ h1 h2 q => ⟨i, j, sv_int h1, sv_int h2, hc, q⟩
theorem ae_add {i j : Int} (ha : AEq X W a δ (.d (.int i))) (hb : AEq X W b δ (.d (.int j))) : AEq X W (.BinOp a .Add b pos) δ (.d (.int (i + j))) := ae_op op_add ha hb od_I0
theorem ae_sub {i j : Int} (ha : AEq X W a δ (.d (.int i))) (hb : AEq X W b δ (.d (.int j))) : AEq X W (.BinOp a .Sub b pos) δ (.d (.int (i - j))) := ae_op op_sub ha hb od_I0
theorem ae_mod {i j : Int} (ha : AEq X W a δ (.d (.int i))) (hb : AEq X W b δ (.d (.int j))) (hj : 0 < j) : AEq X W (.BinOp a .Mod b pos) δ (.d (.int (i % j))) := ae_op op_mod ha hb (od_I (C := fun _ j => 0 < j) hj)
theorem ae_mul {i j : Int} (ha : AEq X W a δ (.d (.int i))) (hb : AEq X W b δ (.d (.int j))) (h : CMul i j) : AEq X W (.BinOp a .Mult b pos) δ (.d (.int (i * j))) := ae_op op_mul ha hb (od_I h)
theorem ae_fdiv {i j : Int} (ha : AEq X W a δ (.d (.int i))) (hb : AEq X W b δ (.d (.int j))) (h : CDiv i j) : AEq X W (.BinOp a .FloorDiv b pos) δ (.d (.int (i / j))) := ae_op op_fdiv ha hb (od_I h)
theorem ae_pow {i j : Int} (ha : AEq X W a δ (.d (.int i))) (hb : AEq X W b δ (.d (.int j))) (h : CPow i j) : AEq X W (.BinOp a .Pow b pos) δ (.d (.int (i ^ j.toNat))) := ae_op op_pow ha hb (od_I h)
theorem ae_neg {i : Int} (ha : AEq X W a δ (.d (.int i))) : AEq X W (.UnaryOp .USub a pos) δ (.d (.int (-i))) :=
  pe_weak (pe_un un_neg ha) fun σ H Q ⟨q1, q2⟩ => ⟨q1, fun s x H1 f1 r1 p1 => by
    subst p1
    exact ⟨i, sv_int r1.1, q2 _ _ H1 f1 (.ofd rp_int) rfl⟩⟩
/-- sums where the parts are not known -/
theorem ae_addG (ha : AE X W a δ P1) (hb : AE X W b δ P2) (h : ∀ s t, P1 s → P2 t → ∃ i j, s = .d (.int i) ∧ t = .d (.int j) ∧ P (.d (.int (i + j)))) : AE X W (.BinOp a .Add b pos) δ P :=
  ae_opG op_add ha hb fun s t p1 p2 => by
    obtain ⟨i, j, rfl, rfl, p⟩ := h s t p1 p2
    exact fun x y H Q j h1 h2 q => od_I0 x y H Q j h1 h2 fun s v H2 f r z => q s v H2 f r (z ▸ p)
theorem ae_subG (ha : AE X W a δ P1) (hb : AE X W b δ P2) (h : ∀ s t, P1 s → P2 t → ∃ i j, s = .d (.int i) ∧ t = .d (.int j) ∧ P (.d (.int (i - j)))) : AE X W (.BinOp a .Sub b pos) δ P :=
  ae_opG op_sub ha hb fun s t p1 p2 => by
    obtain ⟨i, j, rfl, rfl, p⟩ := h s t p1 p2
    exact fun x y H Q j h1 h2 q => od_I0 x y H Q j h1 h2 fun s v H2 f r z => q s v H2 f r (z ▸ p)

/-! comparisons -/
theorem nb {op : CmpOp} (h : op ≠ .In) (h2 : op ≠ .NotIn) : behindInMarks op b = false := nobehind b h h2
theorem ae_lt {i j : Int} (ha : AEq X W a δ (.d (.int i))) (hb : AEq X W b δ (.d (.int j))) : AEq X W (.Compare a [.Lt] [b] pos) δ (.d (.bl (decide (i < j)))) := ae_cmp op_lt ha hb (nb (by decide) (by decide)) (od_B0 (g := fun i j => decide (i < j)))
theorem at_lt {i j : Int} (ha : AEq X W a δ (.d (.int i))) (hb : AEq X W b δ (.d (.int j))) : ATq X W (.Compare a [.Lt] [b] pos) δ (decide (i < j)) := at_cmp op_lt ha hb (nb (by decide) (by decide)) (od_B0 (g := fun i j => decide (i < j)))
theorem ae_gt {i j : Int} (ha : AEq X W a δ (.d (.int i))) (hb : AEq X W b δ (.d (.int j))) : AEq X W (.Compare a [.Gt] [b] pos) δ (.d (.bl (decide (j < i)))) := ae_cmp op_gt ha hb (nb (by decide) (by decide)) (od_B0 (g := fun i j => decide (j < i)))
theorem at_gt {i j : Int} (ha : AEq X W a δ (.d (.int i))) (hb : AEq X W b δ (.d (.int j))) : ATq X W (.Compare a [.Gt] [b] pos) δ (decide (j < i)) := at_cmp op_gt ha hb (nb (by decide) (by decide)) (od_B0 (g := fun i j => decide (j < i)))
theorem ae_ge {i j : Int} (ha : AEq X W a δ (.d (.int i))) (hb : AEq X W b δ (.d (.int j))) : AEq X W (.Compare a [.GtE] [b] pos) δ (.d (.bl (decide (j ≤ i)))) := ae_cmp op_ge ha hb (nb (by decide) (by decide)) (od_B0 (g := fun i j => decide (j ≤ i)))
theorem at_ge {i j : Int} (ha : AEq X W a δ (.d (.int i))) (hb : AEq X W b δ (.d (.int j))) : ATq X W (.Compare a [.GtE] [b] pos) δ (decide (j ≤ i)) := at_cmp op_ge ha hb (nb (by decide) (by decide)) (od_B0 (g := fun i j => decide (j ≤ i)))
theorem od_eqI {i j : Int} : OpD X.K W rEq (.d (.int i)) (.d (.int j)) (· = .d (.bl (decide (i = j)))) := .ofd (fun _ => rp_bl) fun x y H Q _ h1 h2 q => by
  rw [sv_int h1, sv_int h2]
  refine ⟨rfl, ?_⟩
  rw [show decide (V.int i = V.int j) = decide (i = j) by simp]
  exact q
theorem od_neI {i j : Int} : OpD X.K W rNe (.d (.int i)) (.d (.int j)) (· = .d (.bl (!decide (i = j)))) := .ofd (fun _ => rp_bl) fun x y H Q _ h1 h2 q => by
  rw [sv_int h1, sv_int h2]
  refine ⟨rfl, ?_⟩
  rw [show decide (V.int i = V.int j) = decide (i = j) by simp]
  exact q
theorem od_eqB {i j : Bool} : OpD X.K W rEq (.d (.bl i)) (.d (.bl j)) (· = .d (.bl (decide (i = j)))) := .ofd (fun _ => rp_bl) fun x y H Q _ h1 h2 q => by
  rw [sv_bl h1, sv_bl h2]
  refine ⟨rfl, ?_⟩
  rw [show decide (V.bl i = V.bl j) = decide (i = j) by simp]
  exact q
theorem od_neB {i j : Bool} : OpD X.K W rNe (.d (.bl i)) (.d (.bl j)) (· = .d (.bl (!decide (i = j)))) := .ofd (fun _ => rp_bl) fun x y H Q _ h1 h2 q => by
  rw [sv_bl h1, sv_bl h2]
  refine ⟨rfl, ?_⟩
  rw [show decide (V.bl i = V.bl j) = decide (i = j) by simp]
  exact q
theorem ae_eqI {i j : Int} (ha : AEq X W a δ (.d (.int i))) (hb : AEq X W b δ (.d (.int j))) : AEq X W (.Compare a [.Eq] [b] pos) δ (.d (.bl (decide (i = j)))) := ae_cmp op_eq ha hb (nb (by decide) (by decide)) od_eqI
theorem at_eqI {i j : Int} (ha : AEq X W a δ (.d (.int i))) (hb : AEq X W b δ (.d (.int j))) : ATq X W (.Compare a [.Eq] [b] pos) δ (decide (i = j)) := at_cmp op_eq ha hb (nb (by decide) (by decide)) od_eqI
theorem ae_neI {i j : Int} (ha : AEq X W a δ (.d (.int i))) (hb : AEq X W b δ (.d (.int j))) : AEq X W (.Compare a [.NotEq] [b] pos) δ (.d (.bl (!decide (i = j)))) := ae_cmp op_ne ha hb (nb (by decide) (by decide)) od_neI
theorem at_neI {i j : Int} (ha : AEq X W a δ (.d (.int i))) (hb : AEq X W b δ (.d (.int j))) : ATq X W (.Compare a [.NotEq] [b] pos) δ (!decide (i = j)) := at_cmp op_ne ha hb (nb (by decide) (by decide)) od_neI
theorem ae_eqB {i j : Bool} (ha : AEq X W a δ (.d (.bl i))) (hb : AEq X W b δ (.d (.bl j))) : AEq X W (.Compare a [.Eq] [b] pos) δ (.d (.bl (decide (i = j)))) := ae_cmp op_eq ha hb (nb (by decide) (by decide)) od_eqB
theorem at_neB {i j : Bool} (ha : AEq X W a δ (.d (.bl i))) (hb : AEq X W b δ (.d (.bl j))) : ATq X W (.Compare a [.NotEq] [b] pos) δ (!decide (i = j)) := at_cmp op_ne ha hb (nb (by decide) (by decide)) od_neB
/-- an int that is not known, against one that is -/
theorem at_eqG {j : Int} (ha : AE X W a δ P1) (hb : AEq X W b δ (.d (.int j))) (h : ∀ s, P1 s → ∃ i, s = .d (.int i)) : AT X W (.Compare a [.Eq] [b] pos) δ (fun _ => True) :=
  at_cmpG op_eq ha hb (nb (by decide) (by decide)) fun s t p1 p2 => by
    obtain ⟨i, rfl⟩ := h s p1
    subst p2
    exact fun x y H Q j h1 h2 q => od_eqI x y H Q j h1 h2 fun s v H2 f r z => q s v H2 f r ⟨_, z, trivial⟩
/-- texts: the order by signs -/
theorem ae_ltS {i j : Str} (ha : AEq X W a δ (.d (.str i))) (hb : AEq X W b δ (.d (.str j))) : AEq X W (.Compare a [.Lt] [b] pos) δ (.d (.bl (decide (i.cps.toList < j.cps.toList)))) :=
  ae_cmp op_lt_str ha hb (nb (by decide) (by decide)) (.ofd (fun _ => rp_bl) fun x y H Q _ h1 h2 q => ⟨i, j, sv_str h1, sv_str h2, q⟩)
theorem at_ltS {i j : Str} (ha : AEq X W a δ (.d (.str i))) (hb : AEq X W b δ (.d (.str j))) : ATq X W (.Compare a [.Lt] [b] pos) δ (decide (i.cps.toList < j.cps.toList)) :=
  at_cmp op_lt_str ha hb (nb (by decide) (by decide)) (.ofd (fun _ => rp_bl) fun x y H Q _ h1 h2 q => ⟨i, j, sv_str h1, sv_str h2, q⟩)
def isNonD : D → Bool
  | .non => true
  | _ => false
theorem rp_isnon {K : PySem.W.Frag} {H : Hp} {d : D} {v : V} (h : Rp K H d v) : decide (v = .non) = isNonD d := by
  cases d <;> simp only [Rp] at h
  · subst h; rfl
  · subst h; rfl
  · subst h; rfl
  · subst h; rfl
  · obtain ⟨a, vs, rfl, _⟩ := h; rfl
  · obtain ⟨a, dx, vs, rfl, _⟩ := h; rfl
  · subst h; rfl
  · subst h; rfl
theorem at_isN {d : D} (ha : AEq X W a δ (.d d)) (hb : AEq X W b δ (.d .non)) : ATq X W (.Compare a [.Is] [b] pos) δ (isNonD d) :=
  at_cmp op_isN ha hb (nb (by decide) (by decide)) (.ofd (fun _ => rp_bl) fun x y H Q _ h1 h2 q => ⟨sv_non h2, by rw [rp_isnon h1]; exact q⟩)
theorem ae_isN {d : D} (ha : AEq X W a δ (.d d)) (hb : AEq X W b δ (.d .non)) : AEq X W (.Compare a [.Is] [b] pos) δ (.d (.bl (isNonD d))) :=
  ae_cmp op_isN ha hb (nb (by decide) (by decide)) (.ofd (fun _ => rp_bl) fun x y H Q _ h1 h2 q => ⟨sv_non h2, by rw [rp_isnon h1]; exact q⟩)
/-- one sign in a text -/
theorem ae_inSign {k : Nat} {z : Str} (ha : AEq X W a δ (.d (.str ⟨#[k]⟩))) (hb : AEq X W b δ (.d (.str z))) (hm : behindInMarks .In b = false) : AEq X W (.Compare a [.In] [b] pos) δ (.d (.bl (decide (k ∈ z.cps.toList)))) :=
  ae_cmp op_in_sign ha hb hm (.ofd (fun _ => rp_bl) fun x y H Q _ h1 h2 q => ⟨k, z, sv_str h1, sv_str h2, q⟩)
/-- an int among ints -/
def IsSeq (s : S) (ds : List D) : Prop := s = .d (.tup ds) ∨ s = .l ds ∨ s = .own ds
theorem IsSeq.t {ds : List D} : IsSeq (.d (.tup ds)) ds := .inl rfl
theorem IsSeq.l {ds : List D} : IsSeq (.l ds) ds := .inr (.inl rfl)
theorem IsSeq.o {ds : List D} : IsSeq (.own ds) ds := .inr (.inr rfl)
theorem sv_seq {K : PySem.W.Frag} {H : Hp} {s : S} {ds : List D} {v : V} (i : IsSeq s ds) (h : SV K W s v H) : ∃ a vs, v = .ref a ∧ (SqL K H a vs ∨ SqT K H a vs) ∧ RpL K H ds vs := by
  rcases i with rfl | rfl | rfl
  · obtain ⟨a, vs, e1, e2, e3⟩ := sv_tup h
    exact ⟨a, vs, e1, .inr (SqT.of e2), e3⟩
  · obtain ⟨a, vs, e1, e2, _, e3⟩ := h
    exact ⟨a, vs, e1, .inl e2, e3⟩
  · obtain ⟨a, vs, e1, e2, _, e3⟩ := h
    exact ⟨a, vs, e1, .inl (SqL.of e2), e3⟩
theorem flat_ints (ns : List Int) : (ns.map V.int).all flatV = true := by
  rw [List.all_map]
  exact List.all_eq_true.mpr fun _ _ => rfl
theorem inV_ints (i : Int) (ns : List Int) : inV (.int i) (ns.map V.int) = decide (i ∈ ns) := by
  unfold inV
  rw [List.any_map]
  by_cases h : i ∈ ns
  · rw [decide_eq_true h]
    exact List.any_eq_true.mpr ⟨i, h, by show (i == i) = true; simp⟩
  · rw [decide_eq_false h]
    refine List.any_eq_false.mpr fun x hx => ?_
    show ¬ ((x == i) = true)
    intro z
    exact h (eq_of_beq z ▸ hx)
theorem od_inI {neg : Bool} {i : Int} {s : S} {ns : List Int} (hs : IsSeq s (ns.map D.int)) : OpD X.K W (rIn X.K neg) (.d (.int i)) s (· = .d (.bl (if neg then !decide (i ∈ ns) else decide (i ∈ ns)))) := .ofd (fun _ => rp_bl) fun x y H Q _ h1 h2 q => by
  obtain ⟨a, vs, rfl, e2, e3⟩ := sv_seq hs h2
  rw [RpL.ints e3] at e2
  rw [sv_int h1]
  exact ⟨a, _, rfl, e2, rfl, flat_ints ns, by rw [inV_ints]; exact q⟩
theorem ae_inI {i : Int} {s : S} {ns : List Int} (ha : AEq X W a δ (.d (.int i))) (hb : AEq X W b δ s) (hs : IsSeq s (ns.map D.int)) (hm : behindInMarks .In b = false) : AEq X W (.Compare a [.In] [b] pos) δ (.d (.bl (decide (i ∈ ns)))) := ae_cmp op_in_seq ha hb hm (od_inI (neg := false) hs)
theorem at_inI {i : Int} {s : S} {ns : List Int} (ha : AEq X W a δ (.d (.int i))) (hb : AEq X W b δ s) (hs : IsSeq s (ns.map D.int)) (hm : behindInMarks .In b = false) : ATq X W (.Compare a [.In] [b] pos) δ (decide (i ∈ ns)) := at_cmp op_in_seq ha hb hm (od_inI (neg := false) hs)
theorem ae_niI {i : Int} {s : S} {ns : List Int} (ha : AEq X W a δ (.d (.int i))) (hb : AEq X W b δ s) (hs : IsSeq s (ns.map D.int)) (hm : behindInMarks .NotIn b = false) : AEq X W (.Compare a [.NotIn] [b] pos) δ (.d (.bl (!decide (i ∈ ns)))) := ae_cmp op_notIn_seq ha hb hm (od_inI (neg := true) hs)
theorem at_niI {i : Int} {s : S} {ns : List Int} (ha : AEq X W a δ (.d (.int i))) (hb : AEq X W b δ s) (hs : IsSeq s (ns.map D.int)) (hm : behindInMarks .NotIn b = false) : ATq X W (.Compare a [.NotIn] [b] pos) δ (!decide (i ∈ ns)) := at_cmp op_notIn_seq ha hb hm (od_inI (neg := true) hs)

/-! and, or, not, if -/
theorem at_val (h : AE X W e δ P) (he : ∀ whole, isTrue e X.env whole = (do let v ← whole; standAt e.pos; holding [v] (truthy v))) (k : ∀ s, P s → ∃ b, s = .d (.bl b) ∧ B b) : AT X W e δ B :=
  pt_weak (pt_val h he) fun σ H Q ⟨q1, q2⟩ => ⟨q1, fun s v H2 f r p => by
    obtain ⟨b, rfl, hb⟩ := k s p
    exact ⟨b, sv_bl r.1, q2 b H2 f hb⟩⟩
theorem at_v {k : Bool} (h : AEq X W e δ (.d (.bl k))) (he : ∀ whole, isTrue e X.env whole = (do let v ← whole; standAt e.pos; holding [v] (truthy v))) : ATq X W e δ k := at_val h he fun s p => ⟨k, p, rfl⟩
theorem aw_and1 (h : AT X W a δ B) : AW X W (.BoolOp .And [a] pos) δ B := pw_and1 h
theorem aw_or1 (h : AT X W a δ B) : AW X W (.BoolOp .Or [a] pos) δ B := pw_or1 h
theorem aw_andG (h : AT X W a δ B1) (h2 : AW X W (.BoolOp .And (b :: rest) pos) δ B2) (k1 : B1 false → B false) (k2 : B1 true → ∀ q, B2 q → B q) : AW X W (.BoolOp .And (a :: b :: rest) pos) δ B :=
  pw_weak (pw_and h h2) fun σ H Q ⟨q1, q2⟩ => ⟨q1, fun c H1 f p => by
    cases c with
    | true => exact ⟨q1.mono f, fun d H2 f2 p2 => q2 d H2 (f.trans f2) (k2 p d p2)⟩
    | false => exact q2 false H1 f (k1 p)⟩
theorem aw_and {p q : Bool} (h : ATq X W a δ p) (h2 : p = true → AWq X W (.BoolOp .And (b :: rest) pos) δ q) : AWq X W (.BoolOp .And (a :: b :: rest) pos) δ (p && q) := by
  cases p with
  | true => exact aw_andG h (h2 rfl) (fun z => by cases z) fun _ r z => by rw [z] <;> rfl
  | false => exact pw_weak (pw_and (tA := cT X.K W δ (· = false)) (tB' := fun _ _ _ => False) h ⟨fun _ _ _ _ _ _ _ z => z.elim⟩) fun σ H Q ⟨q1, q2⟩ => ⟨q1, fun c H1 f z => by
      subst z
      exact q2 false H1 f rfl⟩
theorem aw_or {p q : Bool} (h : ATq X W a δ p) (h2 : p = false → AWq X W (.BoolOp .Or (b :: rest) pos) δ q) : AWq X W (.BoolOp .Or (a :: b :: rest) pos) δ (p || q) := by
  cases p with
  | false => exact pw_weak (pw_or (tA := cT X.K W δ (· = false)) h (h2 rfl)) fun σ H Q ⟨q1, q2⟩ => ⟨q1, fun c H1 f z => by
      subst z
      exact ⟨q1.mono f, fun d H2 f2 p2 => q2 d H2 (f.trans f2) (by rw [p2] <;> rfl)⟩⟩
  | true => exact pw_weak (pw_or (tA := cT X.K W δ (· = true)) (tB' := fun _ _ _ => False) h ⟨fun _ _ _ _ _ _ _ z => z.elim⟩) fun σ H Q ⟨q1, q2⟩ => ⟨q1, fun c H1 f z => by
      subst z
      exact q2 true H1 f rfl⟩
theorem AW.pt (h : AW X W e δ B) : AT X W e δ B := PW.pt h
theorem at_not {k : Bool} (h : ATq X W a δ k) : ATq X W (.UnaryOp .Not a pos) δ (!k) := pt_weak (pt_not h) fun σ H Q ⟨q1, q2⟩ => ⟨q1, fun c H1 f z => by
  subst z
  exact q2 _ H1 f rfl⟩
theorem ae_one {op : BoolOp} (h : AE X W a δ P) : AE X W (.BoolOp op [a] pos) δ P := pe_one h
theorem ae_and {p q : Bool} (h : AEq X W a δ (.d (.bl p))) (h2 : p = true → AEq X W (.BoolOp .And (b :: rest) pos) δ (.d (.bl q))) : AEq X W (.BoolOp .And (a :: b :: rest) pos) δ (.d (.bl (p && q))) := by
  cases p with
  | true => exact pe_weak (pe_and h (h2 rfl)) fun σ H Q ⟨q1, q2⟩ => ⟨q1, fun s v H1 f r z => by
      subst z
      exact ⟨true, sv_bl r.1, q1.mono f, fun s2 v2 H2 f2 r2 z2 => q2 s2 v2 H2 (f.trans f2) (r2.back q1.j f) (by rw [z2] <;> rfl)⟩⟩
  | false => exact pe_weak (pe_and (tb := fun _ _ _ => False) h ⟨fun _ _ _ _ _ _ z => z.elim⟩) fun σ H Q ⟨q1, q2⟩ => ⟨q1, fun s v H1 f r z => by
      subst z
      exact ⟨false, sv_bl r.1, q2 _ _ H1 f (.ofd rp_bl) rfl⟩⟩
theorem ae_or {p q : Bool} (h : AEq X W a δ (.d (.bl p))) (h2 : p = false → AEq X W (.BoolOp .Or (b :: rest) pos) δ (.d (.bl q))) : AEq X W (.BoolOp .Or (a :: b :: rest) pos) δ (.d (.bl (p || q))) := by
  cases p with
  | false => exact pe_weak (pe_or h (h2 rfl)) fun σ H Q ⟨q1, q2⟩ => ⟨q1, fun s v H1 f r z => by
      subst z
      exact ⟨false, sv_bl r.1, q1.mono f, fun s2 v2 H2 f2 r2 z2 => q2 s2 v2 H2 (f.trans f2) (r2.back q1.j f) (by rw [z2] <;> rfl)⟩⟩
  | true => exact pe_weak (pe_or (tb := fun _ _ _ => False) h ⟨fun _ _ _ _ _ _ z => z.elim⟩) fun σ H Q ⟨q1, q2⟩ => ⟨q1, fun s v H1 f r z => by
      subst z
      exact ⟨true, sv_bl r.1, q2 _ _ H1 f (.ofd rp_bl) rfl⟩⟩
theorem ae_not {k : Bool} (h : AEq X W a δ (.d (.bl k))) : AEq X W (.UnaryOp .Not a pos) δ (.d (.bl (!k))) := pe_weak (pe_not h) fun σ H Q ⟨q1, q2⟩ => ⟨q1, fun s v H1 f r z => by
  subst z
  exact ⟨k, sv_bl r.1, q2 _ _ H1 f (.ofd rp_bl) rfl⟩⟩
theorem ae_ifG (h : AT X W c δ B) (h1 : B true → AE X W a δ P) (h2 : B false → AE X W b δ P) : AE X W (.IfExp c a b pos) δ P := by
  have g1 : PE X a (fun σ H Q => B true ∧ cE X.K W δ P σ H Q) := ⟨fun pins s σ H Q I q => (h1 q.1).run pins s σ H Q I q.2⟩
  have g2 : PE X b (fun σ H Q => B false ∧ cE X.K W δ P σ H Q) := ⟨fun pins s σ H Q I q => (h2 q.1).run pins s σ H Q I q.2⟩
  refine pe_weak (pe_ifExp h g1 g2) fun σ H Q ⟨q1, q2⟩ => ⟨q1, fun k H1 f p => ?_⟩
  cases k with
  | true => exact ⟨p, q1.mono f, fun s v H2 f2 r z => q2 s v H2 (f.trans f2) (r.back q1.j f) z⟩
  | false => exact ⟨p, q1.mono f, fun s v H2 f2 r z => q2 s v H2 (f.trans f2) (r.back q1.j f) z⟩
theorem ae_if {k : Bool} {s t : S} (h : ATq X W c δ k) (h1 : k = true → AEq X W a δ s) (h2 : k = false → AEq X W b δ t) : AEq X W (.IfExp c a b pos) δ (if k = true then s else t) :=
  ae_ifG h (fun z => (h1 z.symm).to (by rw [← z]; rfl)) fun z => (h2 z.symm).to (by rw [← z]; rfl)

/-! arguments -/
theorem aa_nil : AAq X W [] δ [] := pa_weak pa_nil fun σ H Q ⟨q1, q2⟩ => q2 [] [] H (.refl q1.j) .nil rfl
theorem Paired.rs {H H1 H2 : Hp} {K : PySem.W.Frag} (j : W.J H1) (f : Fr W H1 H2) {ss : List S} {vs : List V} (h : Paired (fun s v => RS K W H H1 s v) ss vs) : Paired (fun s v => RS K W H H2 s v) ss vs := L2.Paired.mapP h fun s v r => r.mono j f
theorem aa_consG {A1 A2 : List S → Prop} (h : AE X W e δ P1) (t : AA X W es δ A1) (hs : starEach (e :: es) X.env = (false, eval e X.env) :: starEach es X.env) (k : ∀ s ss, P1 s → A1 ss → A2 (s :: ss)) : AA X W (e :: es) δ A2 :=
  pa_weak (pa_cons h t hs) fun σ H Q ⟨q1, q2⟩ => ⟨q1, fun s v H1 f r p => ⟨q1.mono f, fun ss vs H2 f2 r2 p2 =>
    q2 (s :: ss) (v :: vs) H2 (f.trans f2) (.cons (r.mono f.2 f2) (L2.Paired.mapP r2 fun s v r => r.back q1.j f)) (k s ss p p2)⟩⟩
theorem aa_cons {s : S} {ss : List S} (h : AEq X W e δ s) (t : AAq X W es δ ss) (hs : starEach (e :: es) X.env = (false, eval e X.env) :: starEach es X.env := by rfl) : AAq X W (e :: es) δ (s :: ss) :=
  aa_consG h t hs fun s ss e1 e2 => by rw [e1, e2]
/-- d for each -/
theorem ds_of {H H' : Hp} {K : PySem.W.Frag} : ∀ {ds : List D} {vs : List V}, Paired (fun s v => RS K W H H' s v) (ds.map S.d) vs → RpL K H' ds vs
  | [], _, .nil => .nil
  | d :: ds, _, .cons r t => .cons r.1 (ds_of t)
theorem aa_D {ds : List D} {A : List S → Prop} (h : AAq X W es δ (ds.map S.d)) : AAq X W es δ (ds.map S.d) := h
theorem ae_tup {ds : List D} (h : AAq X W es δ (ds.map S.d)) (hl : ds.length ≤ 100) {k : Nat} : AEq X W (.Tuple es k pos) δ (.d (.tup ds)) :=
  pe_weak (pe_tup h) fun σ H Q ⟨q1, q2⟩ => ⟨q1, fun ss vs H1 f r p => by
    subst p
    have hr := ds_of r
    refine ⟨Nat.le_trans (by rw [hr.len]; exact hl) (by decide), fun p hp => ?_⟩
    refine q2 _ _ _ (f.trans (.new f.2 hp)) (.ofd ?_) rfl
    simp only [Rp]
    exact ⟨p, vs, rfl, upd_same, RpL.mono (.new hp) _ _ hr⟩⟩
theorem ae_tupG {A : List S → Prop} (h : AA X W es δ A) (k : ∀ ss, A ss → ∃ ds, ss = ds.map S.d ∧ ds.length ≤ 100 ∧ P (.d (.tup ds))) {k' : Nat} : AE X W (.Tuple es k' pos) δ P :=
  pe_weak (pe_tup h) fun σ H Q ⟨q1, q2⟩ => ⟨q1, fun ss vs H1 f r p => by
    obtain ⟨ds, rfl, hl, hp⟩ := k ss p
    have hr := ds_of r
    refine ⟨Nat.le_trans (by rw [hr.len]; exact hl) (by decide), fun p hn => ?_⟩
    refine q2 _ _ _ (f.trans (.new f.2 hn)) (.ofd ?_) hp
    simp only [Rp]
    exact ⟨p, vs, rfl, upd_same, RpL.mono (.new hn) _ _ hr⟩⟩
theorem ae_lst {ds : List D} (h : AAq X W es δ (ds.map S.d)) (hl : ds.length ≤ 100) : AEq X W (.List es pos) δ (.own ds) :=
  pe_weak (pe_lst h) fun σ H Q ⟨q1, q2⟩ => ⟨q1, fun ss vs H1 f r p => by
    subst p
    have hr := ds_of r
    refine ⟨Nat.le_trans (by rw [hr.len]; exact hl) (by decide), fun p hp => ?_⟩
    have hn : H p = none := f.back q1.j hp
    refine q2 (.own ds) (.ref p) _ (f.trans (.new f.2 hp)) ⟨⟨p, vs, rfl, upd_same, Wd.fresh q1.j hn, RpL.mono (.new hp) _ _ hr⟩, fun _ a ea => ?_⟩ rfl
    cases ea
    exact hn⟩
end
end NR
namespace NR
open PySem PySem.Spec PyProof.Rows L2
section
variable {X : Cx} {W : Wd} {e a b c : Expr} {es rest : List Expr} {δ : Env} {P P1 P2 P3 : S → Prop} {B B1 B2 : Bool → Prop} {pos : Pos}

/-! subscripts -/
theorem od_ix {s : S} {ds : List D} {j : Nat} {d : D} (hs : IsSeq s ds) (h : ds[j]? = some d) : OpD X.K W (rIx X.K) s (.d (.int (j : Int))) (· = .d d) := fun x y H Q jj h1 h2 q => by
  obtain ⟨a, vs, rfl, e2, e3⟩ := sv_seq hs h1
  obtain ⟨v, hv, rv⟩ := e3.get h
  have q' := q (.d d) v H (.refl jj) (.ofd rv) rfl
  rcases e2 with e2 | e2
  · exact .inl ⟨a, vs, _, v, rfl, sv_int h2, e2, atI_nat hv, q'⟩
  · exact .inr (.inl ⟨a, vs, _, v, rfl, sv_int h2, e2, atI_nat hv, q'⟩)
theorem ae_ix {s : S} {ds : List D} {j : Nat} {i : Int} {d : D} (ha : AEq X W a δ s) (hb : AEq X W b δ (.d (.int i))) (hp : PlainIx b) (hs : IsSeq s ds) (hi : i = (j : Int)) (h : ds[j]? = some d) : AEq X W (.Subscript a b pos) δ (.d d) := by
  subst hi
  exact pe_weak (pe_ix ix_seq ha hb hp) fun σ H Q z => op_core (P1 := (· = s)) (P2 := (· = .d (.int (j : Int)))) (fun t1 t2 e1 e2 => by
    subst e1 e2
    exact od_ix hs h) z
theorem ae_ixG {s : S} {ds : List D} (ha : AEq X W a δ s) (hb : AE X W b δ P2) (hp : PlainIx b) (hs : IsSeq s ds) (h : ∀ t, P2 t → ∃ (j : Nat) (d : D), t = .d (.int (j : Int)) ∧ ds[j]? = some d ∧ P (.d d)) : AE X W (.Subscript a b pos) δ P :=
  pe_weak (pe_ix ix_seq ha hb hp) fun σ H Q z => op_core (P1 := (· = s)) (P2 := P2) (fun t1 t2 e1 e2 => by
    subst e1
    obtain ⟨j, d, rfl, hd, p⟩ := h t2 e2
    exact fun x y H Q j h1 h2 q => od_ix hs hd x y H Q j h1 h2 fun s v H2 f r z => q s v H2 f r (z ▸ p)) z
theorem ae_ixL {s : S} {ds : List D} {d : D} (ha : AEq X W a δ s) (hb : AEq X W b δ (.d (.int (-1)))) (hp : PlainIx b) (hs : IsSeq s (ds ++ [d])) : AEq X W (.Subscript a b pos) δ (.d d) :=
  pe_weak (pe_ix ix_seq ha hb hp) fun σ H Q z => op_core (P1 := (· = s)) (P2 := (· = .d (.int (-1)))) (fun t1 t2 e1 e2 => by
    subst e1 e2
    intro x y H Q jj h1 h2 q
    obtain ⟨a, vs, rfl, e2, e3⟩ := sv_seq hs h1
    have hl := e3.len
    rw [List.length_append, List.length_singleton] at hl
    have hg : (ds ++ [d])[ds.length]? = some d := by simp
    obtain ⟨v, hv, rv⟩ := e3.get hg
    have hvs : vs = vs.dropLast ++ [v] := by
      have hne : vs ≠ [] := fun z => by
        rw [z] at hl
        simp at hl
      have hlast : vs.getLast hne = v := by
        rw [List.getLast_eq_getElem]
        have : vs[vs.length - 1]? = some v := by
          rw [hl]
          exact hv
        exact (List.getElem?_eq_some_iff.mp this).2
      rw [← hlast, List.dropLast_concat_getLast]
    have ha : atI vs (-1) = some v := by
      rw [hvs]
      exact atI_last _ _
    have q' := q (.d d) v H (.refl jj) (.ofd rv) rfl
    rcases e2 with e2 | e2
    · exact .inl ⟨a, vs, _, v, rfl, sv_int h2, e2, ha, q'⟩
    · exact .inr (.inl ⟨a, vs, _, v, rfl, sv_int h2, e2, ha, q'⟩)) z
theorem ae_ixS {z : Str} {j : Nat} {i : Int} {k : Nat} (ha : AEq X W a δ (.d (.str z))) (hb : AEq X W b δ (.d (.int i))) (hp : PlainIx b) (hi : i = (j : Int)) (hz : z.length ≤ sizeLine) (h : z.cps.toList[j]? = some k) : AEq X W (.Subscript a b pos) δ (.d (.str ⟨#[k]⟩)) := by
  subst hi
  exact pe_weak (pe_ix ix_str ha hb hp) fun σ H Q z' => op_core (P1 := (· = .d (.str z))) (P2 := (· = .d (.int (j : Int)))) (fun t1 t2 e1 e2 => by
    subst e1 e2
    exact .ofd (fun _ => rp_str) fun x y H Q _ h1 h2 q => ⟨z, _, k, sv_str h1, sv_int h2, hz, atI_nat h, q⟩) z'

/-! slices -/
def tI (o : Option Int) : TO := fun _ H Q => Q o H
theorem po_c {o : Option Expr} {t : TO} {x : Option Int} (h : PO X o t) (k : ∀ σ H Q, SR X.K W δ σ H → (∀ H2, Fr W H H2 → Q x H2) → t σ H Q) : PO X o (fun σ H Q => SR X.K W δ σ H ∧ ∀ H2, Fr W H H2 → Q x H2) :=
  ⟨fun pins s σ H Q I q => h.run pins s σ H Q I (k σ H Q q.1 q.2)⟩
theorem po_i {i : Int} (h : AEq X W e δ (.d (.int i))) : PO X (some e) (fun σ H Q => SR X.K W δ σ H ∧ ∀ H2, Fr W H H2 → Q (some i) H2) :=
  po_c (po_some h) fun σ H Q q1 q2 => ⟨q1, fun s v H2 f r z => by
    subst z
    exact ⟨i, sv_int r.1, q2 H2 f⟩⟩
theorem po_0 : PO X none (fun σ H Q => SR X.K W δ σ H ∧ ∀ H2, Fr W H H2 → Q (none : Option Int) H2) := po_c po_none fun σ H Q q1 q2 => q2 H (.refl q1.j)
theorem sl_core {r : V → Option Int → Option Int → Hp → VK → Prop} {lo hi : Option Int} {s t : S} {σ : L2.St} {H : Hp} {Q : VK}
    (hr : ∀ x H Q, W.J H → SV X.K W s x H → (∀ v H2, Fr W H H2 → RS X.K W H H2 t v → Q v H2) → r x lo hi H Q) (h : cE X.K W δ (· = t) σ H Q) :
    tSl r (cE X.K W δ (· = s)) (fun σ H Q => SR X.K W δ σ H ∧ ∀ H2, Fr W H H2 → Q lo H2) (fun σ H Q => SR X.K W δ σ H ∧ ∀ H2, Fr W H H2 → Q hi H2) σ H Q := by
  obtain ⟨q1, q2⟩ := h
  refine ⟨q1, fun s1 x H1 f1 r1 p1 => ⟨q1.mono f1, fun H2 f2 => ⟨(q1.mono f1).mono f2, fun H3 f3 => ?_⟩⟩⟩
  subst p1
  have f13 := f2.trans f3
  exact hr x H3 Q f3.2 (r1.1.mono f1.2 f13) fun v H4 f4 r4 => q2 t v H4 ((f1.trans f13).trans f4) (r4.back q1.j (f1.trans f13)) rfl
theorem cutV_from {xs : List V} {k : Nat} : cutV xs (some (k : Int)) none = xs.drop k := by
  unfold cutV
  rw [HT.sIx_nat, HT.sIx_none]
  by_cases h : k ≤ xs.length
  · rw [Nat.min_eq_left h, List.take_of_length_le (by rw [List.length_drop]; exact Nat.le_refl _)]
  · rw [Nat.min_eq_right (by omega), List.drop_of_length_le (Nat.le_refl _), List.drop_of_length_le (by omega), List.take_nil]
theorem cutV_to {xs : List V} {k : Nat} : cutV xs none (some (k : Int)) = xs.take k := by
  unfold cutV
  rw [HT.sIx_nat, HT.sIx_none, List.drop_zero, Nat.sub_zero]
  by_cases h : k ≤ xs.length
  · rw [Nat.min_eq_left h]
  · rw [Nat.min_eq_right (by omega), List.take_of_length_le (Nat.le_refl _), List.take_of_length_le (by omega)]
theorem rs_tup {K : PySem.W.Frag} {H : Hp} {ds : List D} {vs : List V} {p : Addr} (j : W.J H) (hp : H p = none) (h : RpL K H ds vs) : Fr W H (upd H p (.tup vs)) ∧ RS K W H (upd H p (.tup vs)) (.d (.tup ds)) (.ref p) := by
  refine ⟨.new j hp, .ofd ?_⟩
  simp only [Rp]
  exact ⟨p, vs, rfl, upd_same, RpL.mono (.new hp) _ _ h⟩
theorem rs_lst {K : PySem.W.Frag} {H : Hp} {ds : List D} {vs : List V} {p : Addr} (j : W.J H) (hp : H p = none) (h : RpL K H ds vs) : Fr W H (upd H p (.lst vs)) ∧ RS K W H (upd H p (.lst vs)) (.own ds) (.ref p) :=
  ⟨.new j hp, ⟨p, vs, rfl, upd_same, Wd.fresh j hp, RpL.mono (.new hp) _ _ h⟩, fun _ a e => by
    cases e
    exact hp⟩
theorem ae_slFrom {ds : List D} {k : Nat} {i : Int} {p2 : Pos} (ha : AEq X W a δ (.d (.tup ds))) (hb : AEq X W b δ (.d (.int i))) (hi : i = (k : Int)) : AEq X W (.Subscript a (.Slice (some b) none none p2) pos) δ (.d (.tup (ds.drop k))) := by
  subst hi
  refine pe_weak (pe_slice sl_tupA ha (po_i hb) po_0) fun σ H Q z => sl_core (fun x H Q j h q => ?_) z
  obtain ⟨p, vs, rfl, e2, e3⟩ := sv_tup h
  refine ⟨p, vs, rfl, SqT.of e2, fun full => ?_, fun _ t ht => ?_⟩
  · refine q (.ref p) H (.refl j) (.ofd ?_)
    have hk : vs.drop k = vs := by
      have := full.1
      rw [HT.sIx_nat] at this
      rcases Nat.eq_zero_or_pos vs.length with hz | hz
      · rw [List.length_eq_zero_iff.mp hz, List.drop_nil]
      · have : k = 0 := by omega
        rw [this] <;> rfl
    simp only [Rp]
    refine ⟨p, vs, rfl, e2, ?_⟩
    have := e3.drop k
    rw [hk] at this
    exact this
  · rw [cutV_from]
    obtain ⟨f, r⟩ := rs_tup (W := W) j ht (e3.drop k)
    exact q _ _ f r
theorem ae_slTo {ds : List D} {k : Nat} {i : Int} {p2 : Pos} (ha : AEq X W a δ (.d (.tup ds))) (hb : AEq X W b δ (.d (.int i))) (hi : i = (k : Int)) : AEq X W (.Subscript a (.Slice none (some b) none p2) pos) δ (.d (.tup (ds.take k))) := by
  subst hi
  refine pe_weak (pe_slice sl_tupA ha po_0 (po_i hb)) fun σ H Q z => sl_core (fun x H Q j h q => ?_) z
  obtain ⟨p, vs, rfl, e2, e3⟩ := sv_tup h
  refine ⟨p, vs, rfl, SqT.of e2, fun full => ?_, fun _ t ht => ?_⟩
  · refine q (.ref p) H (.refl j) (.ofd ?_)
    have hk : vs.take k = vs := by
      have := full.2
      rw [HT.sIx_nat] at this
      exact List.take_of_length_le (by omega)
    simp only [Rp]
    refine ⟨p, vs, rfl, e2, ?_⟩
    have := e3.take k
    rw [hk] at this
    exact this
  · rw [cutV_to]
    obtain ⟨f, r⟩ := rs_tup (W := W) j ht (e3.take k)
    exact q _ _ f r
theorem ae_slToL {ds : List D} {k : Nat} {i : Int} {p2 : Pos} (ha : AEq X W a δ (.l ds)) (hb : AEq X W b δ (.d (.int i))) (hi : i = (k : Int)) : AEq X W (.Subscript a (.Slice none (some b) none p2) pos) δ (.own (ds.take k)) := by
  subst hi
  refine pe_weak (pe_slice sl_list ha po_0 (po_i hb)) fun σ H Q z => sl_core (fun x H Q j h q => ?_) z
  obtain ⟨p, vs, rfl, e2, _, e3⟩ := h
  refine ⟨p, vs, rfl, e2, fun t ht => ?_⟩
  rw [cutV_to]
  obtain ⟨f, r⟩ := rs_lst (W := W) j ht (e3.take k)
  exact q _ _ f r
theorem RpL.rev {K : PySem.W.Frag} {H : Hp} : ∀ {ds : List D} {vs : List V}, RpL K H ds vs → RpL K H ds.reverse vs.reverse
  | [], _, h => by
    simp only [RpL] at h
    subst h
    exact .nil
  | d :: ds, _, h => by
    simp only [RpL] at h
    obtain ⟨v, r, rfl, e2, e3⟩ := h
    rw [List.reverse_cons, List.reverse_cons]
    exact (RpL.rev e3).snoc e2
theorem ae_rev {ds : List D} {k : Nat} {p1 p2 p3 : Pos} (ha : AEq X W a δ (.own ds)) : AEq X W (.Subscript a (.Slice none none (some (.UnaryOp .USub (.Constant (.int 1) k p1) p2)) p3) pos) δ (.own ds.reverse) :=
  pe_weak (pe_revL ha) fun σ H Q ⟨q1, q2⟩ => ⟨q1, fun s v H1 f1 r1 z => by
    subst z
    obtain ⟨p, vs, rfl, e2, _, e3⟩ := r1.1
    refine ⟨p, vs, rfl, SqL.of e2, fun t ht => ?_⟩
    obtain ⟨f, r⟩ := rs_lst (W := W) f1.2 ht e3.rev
    exact q2 _ _ _ (f1.trans f) (r.back q1.j f1) rfl⟩

/-! sums of tuples, lists, texts -/
theorem ae_addT {ds es : List D} (ha : AEq X W a δ (.d (.tup ds))) (hb : AEq X W b δ (.d (.tup es))) (hl : ds.length + es.length ≤ 100000) : AEq X W (.BinOp a .Add b pos) δ (.d (.tup (ds ++ es))) :=
  ae_op op_catA ha hb fun x y H Q j h1 h2 q => by
    obtain ⟨p, vs, rfl, e2, e3⟩ := sv_tup h1
    obtain ⟨p', us, rfl, f2, f3⟩ := sv_tup h2
    refine ⟨p, p', vs, us, rfl, rfl, SqT.of e2, SqT.of f2, by rw [e3.len, f3.len]; exact Nat.le_trans hl (by decide), fun z => ?_, fun _ z => ?_, fun _ _ t ht => ?_⟩
    · refine q _ _ H (.refl j) (.ofd ?_) rfl
      have := e3.len
      rw [z] at this
      rw [List.eq_nil_of_length_eq_zero this.symm]
      exact h2
    · refine q _ _ H (.refl j) (.ofd ?_) rfl
      have := f3.len
      rw [z] at this
      rw [List.eq_nil_of_length_eq_zero this.symm, List.append_nil]
      exact h1
    · obtain ⟨f, r⟩ := rs_tup (W := W) j ht (e3.app f3)
      exact q _ _ _ f r rfl
/-- a list that is known: it may be one's own -/
def IsLst (s : S) (ds : List D) : Prop := s = .own ds
theorem rCat_of {ds es : List D} {s1 s2 : S} (hk1 : s1 = .own ds) (hk2 : s2 = .own es) (hl : ds.length + es.length ≤ 100000) : OpD X.K W rCat s1 s2 (· = .own (ds ++ es)) := fun x y H Q j h1 h2 q => by
  subst hk1 hk2
  obtain ⟨p, vs, rfl, e2, _, e3⟩ := h1
  obtain ⟨p', us, rfl, f2, _, f3⟩ := h2
  refine ⟨p, p', vs, us, rfl, rfl, e2, f2, by rw [e3.len, f3.len]; exact Nat.le_trans hl (by decide), fun t ht => ?_⟩
  obtain ⟨f, r⟩ := rs_lst (W := W) j ht (e3.app f3)
  exact q _ _ _ f r rfl
theorem ae_addS {i j : Str} (ha : AEq X W a δ (.d (.str i))) (hb : AEq X W b δ (.d (.str j))) (hl : i.length + j.length ≤ sizeLine) : AEq X W (.BinOp a .Add b pos) δ (.d (.str (i ++ j))) :=
  ae_op op_add_str ha hb (.ofd (fun _ => rp_str) fun x y H Q _ h1 h2 q => ⟨i, j, sv_str h1, sv_str h2, hl, q⟩)

/-! attributes -/
theorem zip_lookup {K : PySem.W.Frag} {H : Hp} {f : Str} {d : D} : ∀ {ns : List Str} {ds : List D} {vs : List V}, RpL K H ds vs → (ns.zip ds).lookup f = some d → ∃ v, (ns.zip vs).lookup f = some v ∧ Rp K H d v
  | [], _, _, _, h => by simp at h
  | n :: ns, [], _, _, h => by simp at h
  | n :: ns, x :: ds, _, r, h => by
    simp only [RpL] at r
    obtain ⟨v, vs, rfl, e2, e3⟩ := r
    rw [List.zip_cons_cons] at h ⊢
    by_cases q : f == n
    · rw [List.lookup_cons, q] at h ⊢
      cases h
      exact ⟨v, rfl, e2⟩
    · rw [List.lookup_cons, (by simpa using q : (f == n) = false)] at h ⊢
      exact zip_lookup e3 h
theorem ae_fld {C : Addr} {ns : List Str} {ds : List D} {f : Str} {d : D} (ha : AEq X W a δ (.d (.ins C ns ds))) (hc : Cls X.K C) (hn : NoAttr X.K C f) (hl : (ns.zip ds).lookup f = some d) (hb : attributeBase a f X.env (eval a X.env) = eval a X.env) : AEq X W (.Attribute a f pos) δ (.d d) :=
  pe_weak (pe_fld ha hb) fun σ H Q ⟨q1, q2⟩ => ⟨q1, fun s x H1 f1 r1 z => by
    subst z
    have h := r1.1
    simp only [SV, Rp] at h
    obtain ⟨p, dx, vs, rfl, e2, e3⟩ := h
    obtain ⟨v, hv, rv⟩ := zip_lookup e3 hl
    exact ⟨p, C, dx, _, v, rfl, e2, hc, hn, hv, q2 _ v H1 f1 (.ofd rv) rfl⟩⟩

/-! the promises of defs, and their calls -/
def FS (K : PySem.W.Frag) (W : Wd) {ι : Type} (args : ι → List S) (post : ι → S → Prop) : Sp := fun vs H Q _ =>
  ∃ i, Paired (fun s v => SV K W s v H) (args i) vs ∧ W.J H ∧ ∀ s v H2, Fr W H H2 → RS K W H H2 s v → post i s → Q v H2
theorem ae_callG {k j : Nat} {f : Addr} {fd : FuncData} {ps : List Str} {ι : Type} {args : ι → List S} {post : ι → S → Prop} {x : Str} {p : Pos} {A : List S → Prop}
    (F : FnOk X.prog X.w X.K X.mg X.base CX0 k f fd ps (FS X.K W args post)) (o : Cok j X) (hk : k ≤ j) (hg : Gl X x) (hm : X.mg x = some (.ref f)) (kp : PySem.W.keepIn X.K (.ref f) = true) (hb : Binds X.K fd ps [])
    (ha : AA X W (e :: es) δ A) (h : ∀ ss, A ss → ∃ i, ss = args i ∧ ∀ s, post i s → P s)
    (hd : (x == ("__debug__" : Str)) = false) (he : starEach (e :: es) X.env = (false, eval e X.env) :: starEach es X.env) (hp : (backTo pos (starEach es X.env)).any (·.1) = false) : AE X W (.Call (.Name x p) (e :: es) [] pos) δ P :=
  pe_weak (pe_call F (o.hr.mono hk) hg hm kp hb .nil pass0 ha hd he hp) fun σ H Q ⟨q1, q2⟩ => ⟨q1, fun ss vs H1 f r pa => by
    obtain ⟨i, rfl, hp⟩ := h ss pa
    show FS X.K W args post (vs ++ []) H1 Q E0
    rw [List.append_nil]
    exact ⟨i, L2.Paired.mapP r fun s v z => z.1, f.2, fun s v H2 f2 r2 p2 => q2 s v H2 (f.trans f2) (r2.back q1.j f) (hp s p2)⟩⟩
theorem ae_call {k j : Nat} {f : Addr} {fd : FuncData} {ps : List Str} {ι : Type} {args : ι → List S} {post : ι → S → Prop} {x : Str} {p : Pos} {ss : List S}
    (F : FnOk X.prog X.w X.K X.mg X.base CX0 k f fd ps (FS X.K W args post)) (o : Cok j X) (hk : k ≤ j) (hg : Gl X x) (hm : X.mg x = some (.ref f)) (kp : PySem.W.keepIn X.K (.ref f) = true) (hb : Binds X.K fd ps [])
    (ha : AAq X W (e :: es) δ ss) (i : ι) (hi : ss = args i)
    (hd : (x == ("__debug__" : Str)) = false) (he : starEach (e :: es) X.env = (false, eval e X.env) :: starEach es X.env) (hp : (backTo pos (starEach es X.env)).any (·.1) = false) : AE X W (.Call (.Name x p) (e :: es) [] pos) δ (post i) :=
  ae_callG F o hk hg hm kp hb ha (fun ss z => ⟨i, z.trans hi, fun _ q => q⟩) hd he hp

/-! making instances -/
def FI (K : PySem.W.Frag) (W : Wd) (C : Addr) (ns : List Str) {ι : Type} (args : ι → List D) : Sp := fun vs H Q _ =>
  ∃ (i : ι) (H0 : Hp) (x dx : Addr) (us : List V), vs = .ref x :: us ∧ H = upd (upd H0 dx (.own x)) x (.ins C dx []) ∧ H0 x = none ∧ H0 dx = none ∧ dx ≠ x ∧ W.J H0 ∧ RpL K H0 (args i) us ∧
    ∀ H', (∀ b o, ¬ W.bd b → H0 b = some o → H' b = some o) → W.J H' → H' x = some (.ins C dx (ns.zip us)) → Q .non H'
theorem ae_make {k j : Nat} {f C : Addr} {fd : FuncData} {ps : List Str} {ι : Type} {ns : List Str} {args : ι → List D} {x : Str} {p : Pos} {ss : List S}
    (M : Mk X.K C f) (F : FnOk X.prog X.w X.K X.mg X.base CX0 k f fd ps (FI X.K W C ns args)) (o : Cok j X) (hk : k + 1 ≤ j) (hg : Gl X x) (hm : X.mg x = some (.ref C)) (hb : Binds X.K fd ps [])
    (ha : AAq X W (e :: es) δ ss) (i : ι) (hi : ss = (args i).map S.d)
    (hd : (x == ("__debug__" : Str)) = false) (he : starEach (e :: es) X.env = (false, eval e X.env) :: starEach es X.env) (hp : (backTo pos (starEach es X.env)).any (·.1) = false) : AEq X W (.Call (.Name x p) (e :: es) [] pos) δ (.d (.ins C ns (args i))) :=
  pe_weak (pe_make M F (o.hr.mono hk) hg hm hb .nil pass0 ha hd he hp) fun σ H Q ⟨q1, q2⟩ => ⟨q1, fun ss' vs H1 f r pa => by
    intro y dx ny ndx nxy
    subst pa
    subst hi
    have hr := ds_of r
    show FI X.K W C ns args (.ref y :: (vs ++ [])) _ _ E0
    rw [List.append_nil]
    refine ⟨i, H1, y, dx, vs, rfl, rfl, ny, ndx, nxy, f.2, hr, fun H' hs hj hy => ⟨rfl, ?_⟩⟩
    have f2 : Fr W H1 H' := ⟨hs, hj⟩
    refine q2 _ _ H' (f.trans f2) (.ofd ?_) rfl
    simp only [Rp]
    exact ⟨y, dx, vs, rfl, hy, RpL.mono (f2.ext f.2) _ _ hr⟩⟩

/-! built-in functions -/
def CbD (K : PySem.W.Frag) (W : Wd) (r : List V → Hp → VK → Prop) (ss : List S) (P : S → Prop) : Prop :=
  ∀ vs H Q, W.J H → Paired (fun s v => SV K W s v H) ss vs → (∀ s v H2, Fr W H H2 → RS K W H H2 s v → P s → Q v H2) → r vs H Q
theorem cb_core {r : List V → Hp → VK → Prop} {σ : L2.St} {H : Hp} {Q : VK} {A : List S → Prop} (hr : ∀ ss, A ss → CbD X.K W r ss P) (h : cE X.K W δ P σ H Q) : tCB r (cA X.K W δ A) σ H Q := by
  obtain ⟨q1, q2⟩ := h
  exact ⟨q1, fun ss vs H1 f1 r1 p1 => hr ss p1 vs H1 Q f1.2 (L2.Paired.mapP r1 fun s v z => z.1) fun s v H2 f2 r2 p2 => q2 s v H2 (f1.trans f2) (r2.back q1.j f1) p2⟩
theorem CbD.d1 {r : List V → Hp → VK → Prop} {s : S} {d : D} {v : V} (hv : ∀ H, Rp X.K H d v) (h : ∀ x H Q, W.J H → SV X.K W s x H → Q v H → r [x] H Q) : CbD X.K W r [s] (· = .d d) := fun vs H Q j r1 q => by
  cases r1 with
  | cons r1 r2 =>
    cases r2
    exact h _ H Q j r1 (q (.d d) v H (.refl j) (.ofd (hv H)) rfl)
theorem CbD.d2 {r : List V → Hp → VK → Prop} {s t : S} {d : D} {v : V} (hv : ∀ H, Rp X.K H d v) (h : ∀ x y H Q, W.J H → SV X.K W s x H → SV X.K W t y H → Q v H → r [x, y] H Q) : CbD X.K W r [s, t] (· = .d d) := fun vs H Q j r1 q => by
  cases r1 with
  | cons r1 r2 =>
    cases r2 with
    | cons r2 r3 =>
      cases r3
      exact h _ _ H Q j r1 r2 (q (.d d) v H (.refl j) (.ofd (hv H)) rfl)
section
variable {x : Str} {p : Pos} {id T : String} {r : List V → Hp → VK → Prop} {ss : List S} {s : S}
theorem ae_cb (hc : CallR X (.builtin id) r) (hg : Gl X x) (hm : X.mg x = none) (hv : bootBuiltins x = some (.builtin id)) (ha : AAq X W (e :: es) δ ss) (hr : CbD X.K W r ss P) (hn : x ≠ "__name__") (hd : (x == ("__debug__" : Str)) = false)
    (he : starEach (e :: es) X.env = (false, eval e X.env) :: starEach es X.env) (hp : (backTo pos (starEach es X.env)).any (·.1) = false) : AE X W (.Call (.Name x p) (e :: es) [] pos) δ P :=
  pe_weak (pe_callB hc hg hm hv ha hn hd he hp) fun σ H Q h => cb_core (fun t z => by
    subst z
    exact hr) h
theorem ae_ct (hc : CallR X (.type T) r) (hg : Gl X x) (hm : X.mg x = none) (hv : bootBuiltins x = some (.type T)) (ha : AAq X W (e :: es) δ ss) (hr : CbD X.K W r ss P) (hn : x ≠ "__name__") (hd : (x == ("__debug__" : Str)) = false)
    (he : starEach (e :: es) X.env = (false, eval e X.env) :: starEach es X.env) (hp : (backTo pos (starEach es X.env)).any (·.1) = false) : AE X W (.Call (.Name x p) (e :: es) [] pos) δ P :=
  pe_weak (pe_callTy hc hg hm hv ha hn hd he hp) fun σ H Q h => cb_core (fun t z => by
    subst z
    exact hr) h
end
theorem cd_len {s : S} {ds : List D} (hs : IsSeq s ds) : CbD X.K W (fun xs H Q => ∃ p ys, xs = [.ref p] ∧ (SqL X.K H p ys ∨ SqT X.K H p ys) ∧ Q (.int ys.length) H) [s] (· = .d (.int (ds.length : Int))) := fun vs H Q j r1 q => by
  cases r1 with
  | cons r1 r2 =>
    cases r2
    obtain ⟨a, us, rfl, e2, e3⟩ := sv_seq hs r1
    refine ⟨a, us, rfl, e2, ?_⟩
    rw [e3.len]
    exact q _ _ H (.refl j) (.ofd rp_int) rfl
theorem cd_lenS {z : Str} (hz : z.length ≤ sizeLine) : CbD X.K W (fun xs H Q => ∃ z, xs = [.str z] ∧ z.length ≤ sizeLine ∧ Q (.int z.length) H) [.d (.str z)] (· = .d (.int (z.length : Int))) := .d1 (fun _ => rp_int) fun x H Q _ h q => ⟨z, by rw [sv_str h], hz, q⟩
theorem cd_int {i : Int} : CbD X.K W (fun xs H Q => (∃ i, xs = [.int i] ∧ Q (.int i) H) ∨ ∃ k, xs = [.bl k] ∧ Q (.int (if k then 1 else 0)) H) [.d (.int i)] (· = .d (.int i)) := .d1 (fun _ => rp_int) fun x H Q _ h q => .inl ⟨i, by rw [sv_int h], q⟩
theorem cd_intB {i : Bool} : CbD X.K W (fun xs H Q => (∃ i, xs = [.int i] ∧ Q (.int i) H) ∨ ∃ k, xs = [.bl k] ∧ Q (.int (if k then 1 else 0)) H) [.d (.bl i)] (· = .d (.int (if i then 1 else 0))) := .d1 (fun _ => rp_int) fun x H Q _ h q => .inr ⟨i, by rw [sv_bl h], q⟩
theorem cd_abs {i : Int} : CbD X.K W (fun xs H Q => ∃ i, xs = [.int i] ∧ Q (.int (if i < 0 then -i else i)) H) [.d (.int i)] (· = .d (.int (if i < 0 then -i else i))) := .d1 (fun _ => rp_int) fun x H Q _ h q => ⟨i, by rw [sv_int h], q⟩
theorem cd_max {i j : Int} : CbD X.K W (fun xs H Q => ∃ i j, xs = [.int i, .int j] ∧ Q (.int (if j > i then j else i)) H) [.d (.int i), .d (.int j)] (· = .d (.int (if j > i then j else i))) := .d2 (fun _ => rp_int) fun x y H Q _ h1 h2 q => ⟨i, j, by rw [sv_int h1, sv_int h2], q⟩
theorem cd_min {i j : Int} : CbD X.K W (fun xs H Q => ∃ i j, xs = [.int i, .int j] ∧ Q (.int (if j < i then j else i)) H) [.d (.int i), .d (.int j)] (· = .d (.int (if j < i then j else i))) := .d2 (fun _ => rp_int) fun x y H Q _ h1 h2 q => ⟨i, j, by rw [sv_int h1, sv_int h2], q⟩
theorem lst_of {K : PySem.W.Frag} {H : Hp} {s : S} {ds : List D} {v : V} (hs : s = .own ds ∨ s = .l ds) (h : SV K W s v H) : ∃ a vs, v = .ref a ∧ SqL K H a vs ∧ RpL K H ds vs := by
  rcases hs with rfl | rfl
  · obtain ⟨a, vs, e1, e2, _, e3⟩ := h
    exact ⟨a, vs, e1, SqL.of e2, e3⟩
  · obtain ⟨a, vs, e1, e2, _, e3⟩ := h
    exact ⟨a, vs, e1, e2, e3⟩
theorem cd_all {s : S} {bs : List Bool} (hs : s = .own (bs.map D.bl) ∨ s = .l (bs.map D.bl)) : CbD X.K W (rAll X.K) [s] (· = .d (.bl (bs.all id))) := .d1 (fun _ => rp_bl) fun x H Q _ h q => by
  obtain ⟨a, vs, rfl, e2, e3⟩ := lst_of hs h
  rw [RpL.bools e3] at e2
  exact ⟨a, bs, rfl, e2, q⟩
theorem cd_any {s : S} {bs : List Bool} (hs : s = .own (bs.map D.bl) ∨ s = .l (bs.map D.bl)) : CbD X.K W (rAny X.K) [s] (· = .d (.bl (bs.any id))) := .d1 (fun _ => rp_bl) fun x H Q _ h q => by
  obtain ⟨a, vs, rfl, e2, e3⟩ := lst_of hs h
  rw [RpL.bools e3] at e2
  exact ⟨a, bs, rfl, e2, q⟩
theorem cd_listOf {s : S} {ds : List D} (hs : IsSeq s ds) : CbD X.K W (fun xs H Q => ∃ p ys, xs = [.ref p] ∧ (SqL X.K H p ys ∨ SqT X.K H p ys) ∧ ∀ l, H l = none → Q (.ref l) (upd H l (.lst ys))) [s] (· = .own ds) := fun vs H Q j r1 q => by
  cases r1 with
  | cons r1 r2 =>
    cases r2
    obtain ⟨a, us, rfl, e2, e3⟩ := sv_seq hs r1
    refine ⟨a, us, rfl, e2, fun l hl => ?_⟩
    obtain ⟨f, r⟩ := rs_lst (W := W) j hl e3
    exact q _ _ _ f r rfl
/-- tuple(list) -/
theorem ae_tuple {s : S} {ds : List D} {p : Pos} (ha : AEq X W a δ s) (hs : s = .own ds ∨ s = .l ds) (hg : Gl X "tuple") (hm : X.mg "tuple" = none) (na : starEach [a] X.env = (false, eval a X.env) :: starEach [] X.env) : AEq X W (.Call (.Name "tuple" p) [a] [] pos) δ (.d (.tup ds)) :=
  pe_weak (pe_tupleOf hg hm ha na) fun σ H Q ⟨q1, q2⟩ => ⟨q1, fun t v H1 f1 r1 z => by
    subst z
    obtain ⟨p, vs, rfl, e2, e3⟩ := lst_of hs r1.1
    refine .inl ⟨p, vs, rfl, e2, fun u hu => ?_⟩
    obtain ⟨f, r⟩ := rs_tup (W := W) f1.2 hu e3
    exact q2 _ _ _ (f1.trans f) (r.back q1.j f1) rfl⟩
theorem ae_tupleG {p : Pos} (ha : AE X W a δ P1) (hs : ∀ s, P1 s → ∃ ds, (s = .own ds ∨ s = .l ds) ∧ P (.d (.tup ds))) (hg : Gl X "tuple") (hm : X.mg "tuple" = none) (na : starEach [a] X.env = (false, eval a X.env) :: starEach [] X.env) : AE X W (.Call (.Name "tuple" p) [a] [] pos) δ P :=
  pe_weak (pe_tupleOf hg hm ha na) fun σ H Q ⟨q1, q2⟩ => ⟨q1, fun t v H1 f1 r1 z => by
    obtain ⟨ds, hs, hp⟩ := hs t z
    obtain ⟨p, vs, rfl, e2, e3⟩ := lst_of hs r1.1
    refine .inl ⟨p, vs, rfl, e2, fun u hu => ?_⟩
    obtain ⟨f, r⟩ := rs_tup (W := W) f1.2 hu e3
    exact q2 _ _ _ (f1.trans f) (r.back q1.j f1) hp⟩
theorem cd_tuple {s : S} {ds : List D} (hs : s = .d (.tup ds)) : CbD X.K W (fun xs H Q => ∃ a ys, xs = [.ref a] ∧ SqT X.K H a ys ∧ Q (.ref a) H) [s] (· = .d (.tup ds)) := fun vs H Q j r1 q => by
  cases r1 with
  | cons r1 r2 =>
    cases r2
    subst hs
    obtain ⟨a, us, rfl, e2, e3⟩ := sv_tup r1
    exact ⟨a, us, rfl, SqT.of e2, q _ _ H (.refl j) (.ofd r1) rfl⟩
/-- tuple(range(n)) -/
theorem RpL.rg {K : PySem.W.Frag} {H : Hp} (n : Nat) : RpL K H ((List.range n).map fun i : Nat => D.int (i : Int)) ((List.range n).map fun i : Nat => V.int (i : Int)) := by
  have h := RpL.of_ints (K := K) (H := H) ((List.range n).map fun i : Nat => (i : Int))
  simp only [List.map_map] at h
  exact h
end
end NR
namespace NR
open PySem PySem.Spec PyProof.Rows L2

/-! targets -/
theorem wipe_get (σ : L2.St) (k : Nat) : ∀ vs : List Nat, (wipe σ vs)[k]? = if k ∈ vs then (if k < σ.length then some none else none) else σ[k]?
  | [] => by simp [wipe]
  | v :: vs => by
    unfold wipe
    by_cases e : k = v
    · subst e
      rw [if_pos (List.mem_cons_self)]
      by_cases hk : k < σ.length
      · rw [if_pos hk, List.getElem?_set_self (by rw [wipe_length]; exact hk)]
      · rw [if_neg hk, List.getElem?_eq_none (by rw [List.length_set, wipe_length]; omega)]
    · rw [List.getElem?_set_ne (Ne.symm e), wipe_get σ k vs]
      simp only [List.mem_cons, e, false_or]
theorem wipe_set {σ : L2.St} {i : Nat} {x : Option V} {vs : List Nat} (h : i ∈ vs) : wipe (σ.set i x) vs = wipe σ vs := by
  refine List.ext_getElem? fun k => ?_
  rw [wipe_get, wipe_get, List.length_set]
  by_cases hk : k ∈ vs
  · rw [if_pos hk, if_pos hk]
  · rw [if_neg hk, if_neg hk, List.getElem?_set_ne (by
      intro e
      subst e
      exact hk h)]
theorem wipe_wipe {σ : L2.St} {vs ws : List Nat} (h : ∀ i ∈ ws, i ∈ vs) : wipe (wipe σ ws) vs = wipe σ vs := by
  refine List.ext_getElem? fun k => ?_
  rw [wipe_get, wipe_get, wipe_length, wipe_get]
  by_cases hk : k ∈ vs
  · rw [if_pos hk, if_pos hk]
  · rw [if_neg hk, if_neg hk, if_neg (fun e => hk (h k e))]
def wipeE (δ : Env) : List Nat → Env
  | [] => δ
  | v :: vs => (wipeE δ vs).set v none
theorem wipeE_len (δ : Env) : ∀ vs, (wipeE δ vs).length = δ.length
  | [] => rfl
  | v :: vs => by
    unfold wipeE
    rw [List.length_set, wipeE_len δ vs]
theorem SR.none {K : PySem.W.Frag} {W : Wd} {δ : Env} {σ : L2.St} {H : Hp} {i : Nat} (h : SR K W δ σ H) : SR K W (δ.set i none) (σ.set i none) H := ⟨h.j, by rw [List.length_set, List.length_set, h.len], fun k s e => by
  obtain ⟨ne, e'⟩ := set_none e
  obtain ⟨v, q1, q2⟩ := h.at_ k s e'
  exact ⟨v, by rw [List.getElem?_set_ne (Ne.symm ne)]; exact q1, q2⟩⟩
theorem SR.wipe {K : PySem.W.Frag} {W : Wd} {δ : Env} {σ : L2.St} {H : Hp} (h : SR K W δ σ H) : ∀ vs, SR K W (wipeE δ vs) (L2.wipe σ vs) H
  | [] => h
  | v :: vs => (SR.wipe h vs).none
structure UpOk (K : PySem.W.Frag) (H : Hp) (ix : List Nat) (up : Env → Env) (σ σ' : L2.St) : Prop where
  sr : ∀ W δ H', ExT H H' → SR K W δ σ H' → SR K W (up δ) σ' H'
  srs : ∀ W B δ, SRs K W B δ σ H → SRs K W B (up δ) σ' H
  wp : ∀ vs : List Nat, (∀ i ∈ ix, i ∈ vs) → wipe σ' vs = wipe σ vs
theorem UpOk.trans {K : PySem.W.Frag} {H : Hp} {ix jx : List Nat} {u1 u2 : Env → Env} {σ σ1 σ2 : L2.St} (a : UpOk K H ix u1 σ σ1) (b : UpOk K H jx u2 σ1 σ2) : UpOk K H (ix ++ jx) (fun δ => u2 (u1 δ)) σ σ2 :=
  ⟨fun W δ H' x h => b.sr W _ H' x (a.sr W δ H' x h), fun W B δ h => b.srs W B _ (a.srs W B δ h), fun vs h => (b.wp vs fun i hi => h i (List.mem_append_right _ hi)).trans (a.wp vs fun i hi => h i (List.mem_append_left _ hi))⟩
def cG (K : PySem.W.Frag) (ix : List Nat) (d : D) (up : Env → Env) : TG := fun v σ H Q => Rp K H d v ∧ ∀ σ', UpOk K H ix up σ σ' → Q σ' H
def cGs (K : PySem.W.Frag) (ix : List Nat) (ds : List D) (up : Env → Env) : TGs := fun vs σ H Q => RpL K H ds vs ∧ ∀ σ', UpOk K H ix up σ σ' → Q σ' H
def AG (X : Cx) (tg : Expr) (ix : List Nat) (d : D) (up : Env → Env) : Prop := PG X tg (cG X.K ix d up)
def AGs (X : Cx) (tgs : List Expr) (ix : List Nat) (ds : List D) (up : Env → Env) : Prop := PGs X tgs (cGs X.K ix ds up)
section
variable {X : Cx} {W : Wd} {e a b c elt tg iter : Expr} {es ifs : List Expr} {δ : Env} {P P1 P2 P3 : S → Prop} {B B1 B2 : Bool → Prop} {pos : Pos}
theorem ag_name {i : Nat} {x : Str} {d : D} (hN : X.N.Nodup) (hi : X.N[i]? = some x) (hx : Loc X.env.scope x) (hf : X.fn x = true ∨ X.env.scope.names.lookup x = some .local) : AG X (.Name x pos) [i] d (fun δ => δ.set i (some (.d d))) :=
  ⟨fun pins s σ H v u Q I r q => (pg_name hN hi hx hf).run pins s σ H v u Q I r (q.2 _ ⟨fun W δ H' x h => h.set (s := .d d) (Rp.mono x _ _ q.1), fun W B δ h => h.setD (s := .d d) q.1 fun m => m.elim, fun vs h => wipe_set (h i List.mem_cons_self)⟩)⟩
theorem ags_nil : AGs X [] [] [] (fun δ => δ) := ⟨fun pins s σ H vs us Q I r q => by
  have e : vs = [] := by
    have := q.1
    simpa only [RpL] using this
  exact pgs_nil.run pins s σ H vs us Q I r ⟨e, q.2 σ ⟨fun _ _ _ _ h => h, fun _ _ _ h => h, fun _ _ => rfl⟩⟩⟩
theorem ags_cons {d : D} {ds : List D} {ix jx : List Nat} {u1 u2 : Env → Env} (h1 : AG X e ix d u1) (h2 : AGs X es jx ds u2) (hs : (assignEach (e :: es) X.env).map (·.2) = assign e X.env :: (assignEach es X.env).map (·.2)) :
    AGs X (e :: es) (ix ++ jx) (d :: ds) (fun δ => u2 (u1 δ)) := ⟨fun pins s σ H vs us Q I r q => by
  obtain ⟨q1, q2⟩ := q
  simp only [RpL] at q1
  obtain ⟨v, vr, rfl, e1, e2⟩ := q1
  exact (pgs_cons h1 h2 hs).run pins s σ H _ us Q I r ⟨v, vr, rfl, e1, fun σ1 k1 => ⟨e2, fun σ2 k2 => q2 σ2 (k1.trans k2)⟩⟩⟩
theorem ag_tup {ds : List D} {ix : List Nat} {up : Env → Env} {k : Nat} (hc : X.calm = true) (h : AGs X es ix ds up) (hn : (assignEach es X.env).length = ds.length) (hst : (assignEach es X.env).findIdx? (·.1) = none) : AG X (.Tuple es k pos) ix (.tup ds) up :=
  ⟨fun pins s σ H v u Q I r q => by
    obtain ⟨q1, q2⟩ := q
    simp only [Rp] at q1
    obtain ⟨a, vs, rfl, e2, e3⟩ := q1
    exact (pg_tup hc h hn hst).run pins s σ H _ u Q I r ⟨a, vs, rfl, SqT.of e2, e3.len, e3, q2⟩⟩
theorem AG.up {ix : List Nat} {d : D} {u v : Env → Env} (h : AG X e ix d u) (k : u = v) : AG X e ix d v := k ▸ h

/-! iterators -/
structure ItOk (K : PySem.W.Frag) (W : Wd) (J : It) (ds : List D) (B H1 : Hp) : Prop where
  go : ∀ (i : Nat) d H', ds[i]? = some d → W.J H' → Sub W B H' → ExT H1 H' → J.go i H'
  yld : ∀ (i : Nat) d H' x H'', ds[i]? = some d → W.J H' → Sub W B H' → ExT H1 H' → J.yld i H' x H'' → Fr W H' H'' ∧ Rp K H'' d x
  stop : ∀ (i : Nat) H', ds.length ≤ i → W.J H' → Sub W B H' → ExT H1 H' → J.stop i H'
def cI (K : PySem.W.Frag) (W : Wd) (δ : Env) (ds : List D) : TI := fun σ H R => SR K W δ σ H ∧ ∀ J H1, Fr W H H1 → ItOk K W J ds H1 H1 → R J H1
/-- .. that lean on no list -/
def cI0 (K : PySem.W.Frag) (W : Wd) (δ : Env) (ds : List D) : TI := fun σ H R => SR K W δ σ H ∧ ∀ J H1, Fr W H H1 → (∀ B, ItOk K W J ds B H1) → R J H1
def cIs (K : PySem.W.Frag) (W : Wd) (δ : Env) (ds : List D) : TI := fun σ H R => ∃ B, SRs K W B δ σ H ∧ ∀ J B' H1, Le B B' → ExT H H1 → SRs K W B' δ σ H1 → ItOk K W J ds B' H1 → R J H1
def AI (X : Cx) (W : Wd) (tg iter : Expr) (δ : Env) (ds : List D) : Prop := PI X tg iter (cI X.K W δ ds)
def AI0 (X : Cx) (W : Wd) (tg iter : Expr) (δ : Env) (ds : List D) : Prop := PI X tg iter (cI0 X.K W δ ds)
def AIs (X : Cx) (W : Wd) (tg iter : Expr) (δ : Env) (ds : List D) : Prop := PI X tg iter (cIs X.K W δ ds)
theorem pi_weak {t t' : TI} (h : PI X tg iter t) (k : ∀ σ H Q, t' σ H Q → t σ H Q) : PI X tg iter t' := ⟨fun pins s σ H Q I q => h.run pins s σ H Q I (k σ H Q q)⟩
theorem pi_ex {ι : Type} {t : ι → TI} (h : ∀ i, PI X tg iter (t i)) : PI X tg iter (fun σ H Q => ∃ i, t i σ H Q) := ⟨fun pins s σ H Q I ⟨i, q⟩ => (h i).run pins s σ H Q I q⟩
theorem AI0.toI {ds : List D} (h : AI0 X W tg iter δ ds) : AI X W tg iter δ ds := pi_weak h fun σ H R ⟨q1, q2⟩ => ⟨q1, fun J H1 f k => q2 J H1 f (k H1)⟩
theorem AI0.toS {ds : List D} (h : AI0 X W tg iter δ ds) : AIs X W tg iter δ ds := pi_weak h fun σ H R ⟨B, q1, q2⟩ => ⟨q1.sr, fun J H1 f k => q2 J B H1 (.refl B) (f.ext q1.j) (q1.fr f) (k B)⟩
theorem ai_tup {ds : List D} (h : AEq X W e δ (.d (.tup ds))) : AI0 X W tg e δ ds := pi_weak (pi_tup h) fun σ H R ⟨q1, q2⟩ => ⟨q1, fun s v H1 f r z => by
  subst z
  obtain ⟨a, vs, rfl, e2, e3⟩ := sv_tup r.1
  have e2 := SqT.of (K := X.K) e2
  refine ⟨a, rfl, ⟨vs, e2⟩, q2 _ H1 f fun B => ⟨fun i d H' hd _ _ ex => ?_, fun i d H' x H'' hd j _ ex y => ?_, fun i H' hi _ _ ex => ⟨vs, ex.sqt e2, by rw [e3.len]; exact hi⟩⟩⟩
  · obtain ⟨u, hu, _⟩ := e3.get hd
    exact ⟨vs, u, ex.sqt e2, hu⟩
  · obtain ⟨rfl, y⟩ := y
    obtain ⟨u, hu, ru⟩ := e3.get hd
    have := y vs (ex.sqt e2)
    rw [hu] at this
    cases this
    exact ⟨.refl j, Rp.mono ex _ _ ru⟩⟩
theorem it_range {lo : Int} {n : Nat} {H1 : Hp} (B : Hp) : ItOk X.K W (Itr lo n) ((List.range n).map fun i : Nat => D.int (lo + (i : Int))) B H1 := by
  refine ⟨fun i d H' hd _ _ ex => ?_, fun i d H' x H'' hd j _ ex y => ?_, fun i H' hi _ _ ex => ?_⟩
  · have := (List.getElem?_eq_some_iff.mp hd).1
    show i < n
    simpa using this
  · obtain ⟨rfl, rfl⟩ := y
    rw [List.getElem?_map] at hd
    have hi : i < n := by
      cases q : (List.range n)[i]? with
      | none =>
        rw [q] at hd
        cases hd
      | some k =>
        have := (List.getElem?_eq_some_iff.mp q).1
        simpa using this
    rw [List.getElem?_range hi] at hd
    cases hd
    exact ⟨.refl j, rp_int⟩
  · show n ≤ i
    simpa using hi
theorem ai_range1 {n : Nat} {i : Int} {p : Pos} (ha : AEq X W a δ (.d (.int i))) (hi : i = (n : Int)) (hn : n ≤ 1000000) (hg : Gl X "range") (hm : X.mg "range" = none) (hs : starEach [a] X.env = [(false, eval a X.env)]) :
    AI0 X W tg (.Call (.Name "range" p) [a] [] pos) δ ((List.range n).map fun i : Nat => D.int (i : Int)) := by
  subst hi
  refine pi_weak (pi_range1 hg hm (aa_cons ha aa_nil hs) hs) fun σ H R ⟨q1, q2⟩ => ⟨q1, fun ss vs H1 f r z => ?_⟩
  subst z
  cases r with
  | cons r1 r2 =>
    cases r2
    have e0 := sv_int r1.1
    subst e0
    refine ⟨n, rfl, by omega, by omega, q2 _ H1 f fun B => ?_⟩
    have := it_range (X := X) (W := W) (lo := 0) (n := n) (H1 := H1) B
    rw [Int.toNat_natCast]
    simpa only [Int.zero_add] using this
theorem ai_range2 {lo hi : Int} {p : Pos} (ha : AEq X W a δ (.d (.int lo))) (hb : AEq X W b δ (.d (.int hi))) (h1 : -1000000 ≤ lo ∧ lo ≤ 1000000) (h2 : -1000000 ≤ hi ∧ hi ≤ 1000000) (hg : Gl X "range") (hm : X.mg "range" = none)
    (hs : starEach [a, b] X.env = [(false, eval a X.env), (false, eval b X.env)]) (hs2 : starEach [b] X.env = [(false, eval b X.env)]) :
    AI0 X W tg (.Call (.Name "range" p) [a, b] [] pos) δ ((List.range (hi - lo).toNat).map fun i : Nat => D.int (lo + (i : Int))) := by
  refine pi_weak (pi_range2 hg hm (aa_cons ha (aa_cons hb aa_nil hs2) (by rw [hs, hs2])) hs hs2) fun σ H R ⟨q1, q2⟩ => ⟨q1, fun ss vs H1 f r z => ?_⟩
  subst z
  cases r with
  | cons r1 r2 =>
    cases r2 with
    | cons r2 r3 =>
      cases r3
      have e0 := sv_int r1.1
      have e1 := sv_int r2.1
      subst e0 e1
      exact ⟨lo, hi, rfl, ⟨by omega, by omega, by omega, by omega⟩, q2 _ H1 f fun B => it_range B⟩
theorem ai_str {z : Str} (h : AEq X W e δ (.d (.str z))) : AI0 X W tg e δ (z.cps.toList.map fun c => D.str ⟨#[c]⟩) := pi_weak (pi_str h) fun σ H R ⟨q1, q2⟩ => ⟨q1, fun s v H1 f r q => by
  subst q
  have hz : z.cps.toList.length = z.cps.size := Array.length_toList
  refine ⟨z, sv_str r.1, q2 _ H1 f fun B => ⟨fun i d H' hd _ _ ex => ?_, fun i d H' x H'' hd j _ ex y => ?_, fun i H' hi _ _ ex => ?_⟩⟩
  · have := (List.getElem?_eq_some_iff.mp hd).1
    rw [List.length_map, hz] at this
    exact this
  · obtain ⟨rfl, c, hc, rfl⟩ := y
    rw [List.getElem?_map, Array.getElem?_toList, hc] at hd
    cases hd
    exact ⟨.refl j, rp_str⟩
  · rw [List.length_map, hz] at hi
    exact hi⟩
/-- a list, in an expression -/
theorem ai_list {s : S} {ds : List D} (h : AEq X W e δ s) (hs : s = .own ds ∨ s = .l ds) : AI X W tg e δ ds := pi_weak (pi_list h) fun σ H R ⟨q1, q2⟩ => ⟨q1, fun t v H1 f r z => by
  subst z
  have hb : ∃ a vs, v = .ref a ∧ SqL X.K H1 a vs ∧ ¬ W.bd a ∧ RpL X.K H1 ds vs := by
    rcases hs with rfl | rfl
    · obtain ⟨a, vs, e1, e2, e3, e4⟩ := r.1
      exact ⟨a, vs, e1, SqL.of e2, e3, e4⟩
    · exact r.1
  obtain ⟨a, vs, rfl, e2, en, e3⟩ := hb
  refine ⟨a, rfl, ⟨vs, e2⟩, q2 _ H1 f ⟨fun i d H' hd j sb ex => ?_, fun i d H' x H'' hd j sb ex y => ?_, fun i H' hi j sb ex => ⟨vs, sql_fr ⟨sb, j⟩ en e2, by rw [e3.len]; exact hi⟩⟩⟩
  · obtain ⟨u, hu, _⟩ := e3.get hd
    exact ⟨vs, u, sql_fr ⟨sb, j⟩ en e2, hu⟩
  · obtain ⟨rfl, y⟩ := y
    obtain ⟨u, hu, ru⟩ := e3.get hd
    have := y vs (sql_fr ⟨sb, j⟩ en e2)
    rw [hu] at this
    cases this
    exact ⟨.refl j, Rp.mono ex _ _ ru⟩⟩
theorem itl_ok {a : Addr} {ds : List D} {vs : List V} {B H1 : Hp} (hb : SqL X.K B a vs) (en : ¬ W.bd a) (e3 : RpL X.K H1 ds vs) : ItOk X.K W (Itl X.K a) ds B H1 := by
  refine ⟨fun i d H' hd j sb ex => ?_, fun i d H' x H'' hd j sb ex y => ?_, fun i H' hi j sb ex => ⟨vs, sb.sql en hb, by rw [e3.len]; exact hi⟩⟩
  · obtain ⟨u, hu, _⟩ := e3.get hd
    exact ⟨vs, u, sb.sql en hb, hu⟩
  · obtain ⟨rfl, y⟩ := y
    obtain ⟨u, hu, ru⟩ := e3.get hd
    have := y vs (sb.sql en hb)
    rw [hu] at this
    cases this
    exact ⟨.refl j, Rp.mono ex _ _ ru⟩
/-- a new list, in a for: it is kept from then on -/
theorem new_pin {K : PySem.W.Frag} {B0 H H1 : Hp} {σ : L2.St} {a : Addr} {vs : List V} (q : SRs K W B0 δ σ H) (f : Fr W H H1) (hn : H a = none) (e : H1 a = some (.lst vs)) : SRs K W (upd B0 a (.lst vs)) δ σ H1 ∧ Le B0 (upd B0 a (.lst vs)) := by
  have nb : ¬ W.bd a := Wd.fresh q.j hn
  refine (q.fr f).pin e nb (fun o z => ?_) fun k t hk m z => ?_
  · have := q.sub a o nb z
    rw [hn] at this
    cases this
  · obtain ⟨v, e1, e2⟩ := q.at_ k t hk
    rw [z] at e1
    cases e1
    cases t with
    | own ds =>
      obtain ⟨x, us, z1, _, _, z2, _⟩ := e2
      cases z1
      rw [hn] at z2
      cases z2
    | dic kvs =>
      obtain ⟨x, z1, _, _, z2⟩ := e2
      cases z1
      rw [hn] at z2
      cases z2
    | d d => exact m
    | l ds => exact m
    | hp => exact m
    | ft ds => exact m
theorem ais_new {ds : List D} (h : AEq X W e δ (.own ds)) : AIs X W tg e δ ds := pi_weak (pi_list h) fun σ H R ⟨B, q1, q2⟩ => ⟨q1.sr, fun s v H1 f r z => by
  subst z
  obtain ⟨a, vs, rfl, e2, en, e3⟩ := r.1
  obtain ⟨p1, p2⟩ := new_pin q1 f (r.2 trivial a rfl) e2
  exact ⟨a, rfl, ⟨vs, SqL.of e2⟩, q2 _ _ H1 p2 (f.ext q1.j) p1 (itl_ok (SqL.of upd_same) en e3)⟩⟩
theorem ais_newG (h : AE X W e δ P) {R : List D → Prop} (k : ∀ s, P s → ∃ ds, s = .own ds ∧ R ds) : PI X tg e (fun σ H Q => ∃ B, SRs X.K W B δ σ H ∧ ∀ ds J B' H1, R ds → Le B B' → ExT H H1 → SRs X.K W B' δ σ H1 → ItOk X.K W J ds B' H1 → Q J H1) :=
  pi_weak (pi_list h) fun σ H Q ⟨B, q1, q2⟩ => ⟨q1.sr, fun s v H1 f r z => by
    obtain ⟨ds, rfl, hr⟩ := k s z
    obtain ⟨a, vs, rfl, e2, en, e3⟩ := r.1
    obtain ⟨p1, p2⟩ := new_pin q1 f (r.2 trivial a rfl) e2
    exact ⟨a, rfl, ⟨vs, SqL.of e2⟩, q2 _ _ _ H1 hr p2 (f.ext q1.j) p1 (itl_ok (SqL.of upd_same) en e3)⟩⟩
/-- a list that a slot holds, and nothing changes -/
theorem ais_var {i : Nat} {x : Str} {ds : List D} (hs : δ[i]? = some (some (.l ds))) (hN : X.N[i]? = some x) (hv : Vis X.env.scope x) (hd : (x == ("__debug__" : Str)) = false) (hc : (x == ("__classdict__" : Str)) = false) : AIs X W tg (.Name x pos) δ ds :=
  pi_weak (pi_list (pe_var hN hv hd hc)) fun σ H R ⟨B, q1, q2⟩ => by
    obtain ⟨v, e1, e2⟩ := q1.at_ i _ hs
    obtain ⟨a, vs, rfl, e3, en, e4⟩ := e2
    exact ⟨_, e1, a, rfl, ⟨vs, q1.sub.sql en e3⟩, q2 _ B H (.refl B) (.refl H) q1 (itl_ok e3 en e4)⟩

/-! tests of a comprehension -/
def ATs (X : Cx) (W : Wd) (ifs : List Expr) (δ : Env) (B : Bool → Prop) : Prop := PTs X ifs (cT X.K W δ B)
theorem pts_weak {t t' : TT} (h : PTs X ifs t) (k : ∀ σ H Q, t' σ H Q → t σ H Q) : PTs X ifs t' := ⟨fun pins s σ H Q I q => h.run pins s σ H Q I (k σ H Q q)⟩
theorem pts_ex {ι : Type} {t : ι → TT} (h : ∀ i, PTs X ifs (t i)) : PTs X ifs (fun σ H Q => ∃ i, t i σ H Q) := ⟨fun pins s σ H Q I ⟨i, q⟩ => (h i).run pins s σ H Q I q⟩
theorem ats_nil : ATs X W [] δ (· = true) := pts_weak pts_nil fun σ H Q ⟨q1, q2⟩ => q2 true H (.refl q1.j) rfl
theorem ats_one (h : AT X W c δ B) : ATs X W [c] δ B := pts_one h

/-! comprehensions: one for -/
def LcJ (X : Cx) (W : Wd) (elt tg iter : Expr) (ifs : List Expr) (scope : Scope) (own : List (Str × Nat)) (δ : Env) (P : S → Prop) : Prop :=
  ∃ (wi : TI) (g : TG) (tt : TT) (te : TE), PI X tg iter wi ∧ BlkOk X.N X.env.scope scope own ∧
    (∀ (s : Shared) (H : Hp) (C : Addr) (cl : List (Str × Addr)) (fp : List Addr), PG (X.blk s H scope (compEnvC scope cl C X.env) fp) tg g) ∧
    (∀ (s : Shared) (H : Hp) (C : Addr) (cl : List (Str × Addr)) (fp : List Addr), PTs (X.blk s H scope (compEnvC scope cl C X.env) fp) ifs tt) ∧
    (∀ (s : Shared) (H : Hp) (C : Addr) (cl : List (Str × Addr)) (fp : List Addr), PE (X.blk s H scope (compEnvC scope cl C X.env) fp) elt te) ∧
    (∀ x, foldedSetIterable iter X.env x = pure x) ∧ ∀ σ H Q, cE X.K W δ P σ H Q → tLc wi g tt te (own.map fun p : Str × Nat => p.2) σ H Q
theorem LcJ.ae {k : Nat} {scope : Scope} {own : List (Str × Nat)} (h : LcJ X W elt tg iter ifs scope own δ P) (o : Cok k X) : AE X W (.ListComp elt [⟨tg, iter, ifs, 0⟩] scope pos) δ P := by
  obtain ⟨wi, g, tt, te, h1, h2, h3, h4, h5, h6, h7⟩ := h
  exact pe_weak (pe_lc o.calm o.nd h1 h2 h3 h4 h5 h6) h7
theorem lcG {k : Nat} {ds : List D} {scope : Scope} {own : List (Str × Nat)} {ix : List Nat} (o : Cok k X) (ok : BlkOk X.N X.env.scope scope own) (hix : ∀ i ∈ ix, i ∈ own.map fun p : Str × Nat => p.2) (hlen : ds.length ≤ 100000)
    (ups : Nat → Env → Env) (Pt : Nat → Bool → Prop) (Pe : Nat → D → Prop) (Acc : Nat → List D → Prop)
    (hs : ∀ x, foldedSetIterable iter X.env x = pure x) (hi : AI X W tg iter δ ds)
    (hg : ∀ (s : Shared) (H : Hp) (C : Addr) (cl : List (Str × Addr)) (fp : List Addr) (i : Nat) d, ds[i]? = some d → AG (X.blk s H scope (compEnvC scope cl C X.env) fp) tg ix d (ups i))
    (ht : ∀ (s : Shared) (H : Hp) (C : Addr) (cl : List (Str × Addr)) (fp : List Addr) (i : Nat) d, ds[i]? = some d → ATs (X.blk s H scope (compEnvC scope cl C X.env) fp) W ifs (ups i (wipeE δ (own.map fun p : Str × Nat => p.2))) (Pt i))
    (he : ∀ (s : Shared) (H : Hp) (C : Addr) (cl : List (Str × Addr)) (fp : List Addr) (i : Nat) d, ds[i]? = some d → Pt i true → AE (X.blk s H scope (compEnvC scope cl C X.env) fp) W elt (ups i (wipeE δ (own.map fun p : Str × Nat => p.2))) (fun s => ∃ e, s = .d e ∧ Pe i e))
    (h0 : Acc 0 []) (hT : ∀ (i : Nat) acc e, i < ds.length → Acc i acc → Pt i true → Pe i e → Acc (i + 1) (acc ++ [e])) (hF : ∀ (i : Nat) acc, i < ds.length → Acc i acc → Pt i false → Acc (i + 1) acc)
    (hend : ∀ acc, Acc ds.length acc → P (.own acc)) : LcJ X W elt tg iter ifs scope own δ P := by
  refine ⟨_, fun v σ H Q => ∃ q : {p : Nat × D // ds[p.1]? = some p.2}, cG X.K ix q.1.2 (ups q.1.1) v σ H Q,
    fun σ H Q => ∃ q : {p : Nat × D // ds[p.1]? = some p.2}, cT X.K W (ups q.1.1 (wipeE δ (own.map fun p : Str × Nat => p.2))) (Pt q.1.1) σ H Q,
    fun σ H Q => ∃ q : {p : Nat × D // ds[p.1]? = some p.2 ∧ Pt p.1 true}, cE X.K W (ups q.1.1 (wipeE δ (own.map fun p : Str × Nat => p.2))) (fun s => ∃ e, s = .d e ∧ Pe q.1.1 e) σ H Q,
    hi, ok, fun s H C cl fp => ⟨fun pins s1 σ1 H1 v u Q I r z => ?_⟩, fun s H C cl fp => pts_ex fun q => ht s H C cl fp q.1.1 q.1.2 q.2, fun s H C cl fp => pe_ex fun q => he s H C cl fp q.1.1 q.1.2 q.2.1 q.2.2, hs, fun σ H Q ⟨q1, q2⟩ => ⟨q1, fun J H1 f it => ?_⟩⟩
  · obtain ⟨q, z⟩ := z
    exact (hg s H C cl fp q.1.1 q.1.2 q.2).run pins s1 σ1 H1 v u Q I r z
  intro Dl hDl
  have hDn : H Dl = none := f.back q1.j hDl
  have nD : ¬ W.bd Dl := Wd.fresh q1.j hDn
  have q1' := q1.mono f
  refine ⟨fun i m H' => m = ds.length - i ∧ i ≤ ds.length ∧ Fr W H1 H' ∧ ∃ acc vs, Acc i acc ∧ acc.length ≤ i ∧ H' Dl = some (.lst vs) ∧ RpL X.K H' acc vs, ⟨ds.length, by simp, Nat.zero_le _, .new q1'.j hDl, [], [], h0, Nat.le_refl _, upd_same, .nil⟩, ?_⟩
  rintro i m H' ⟨rfl, hi', f1, acc, vs, ha, hl, hD, hr⟩
  by_cases hlt : i < ds.length
  · have hd : ds[i]? = some ds[i] := List.getElem?_eq_getElem hlt
    refine .inr ⟨it.go i _ H' hd f1.2 f1.1 (f1.ext q1'.j), fun H' => i + 1 ≤ ds.length ∧ Fr W H1 H' ∧ ∃ acc vs, Acc (i + 1) acc ∧ acc.length ≤ i + 1 ∧ H' Dl = some (.lst vs) ∧ RpL X.K H' acc vs, fun H'' w => ⟨ds.length - (i + 1), by omega, rfl, w⟩, fun x H2 y => ?_⟩
    obtain ⟨f2, rx⟩ := it.yld i _ H' x H2 hd f1.2 f1.1 (f1.ext q1'.j) y
    refine ⟨⟨(i, ds[i]), hd⟩, rx, fun σ2 u => ⟨(u.wp _ hix).trans (wipe_wipe fun _ h => h), ?_⟩⟩
    have hsr : SR X.K W (ups i (wipeE δ (own.map fun p : Str × Nat => p.2))) σ2 H2 := u.sr W _ _ (.refl _) ((q1'.mono (f1.trans f2)).wipe _)
    refine ⟨⟨(i, ds[i]), hd⟩, hsr, fun b H3 f3 pb => ?_⟩
    have f23 := f2.trans f3
    have hD3 : H3 Dl = some (.lst vs) := f23.1 _ _ nD hD
    have hr3 : RpL X.K H3 acc vs := RpL.mono (f23.ext f1.2) _ _ hr
    cases b with
    | false => exact ⟨hlt, f1.trans f23, acc, vs, hF i acc hlt ha pb, Nat.le_succ_of_le hl, hD3, hr3⟩
    | true =>
      refine ⟨⟨(i, ds[i]), hd, pb⟩, hsr.mono f3, fun s v H4 f4 r4 p4 => ?_⟩
      obtain ⟨e, rfl, pe⟩ := p4
      have hD4 : H4 Dl = some (.lst vs) := f4.1 _ _ nD hD3
      have hr4 : RpL X.K H4 acc vs := RpL.mono (f4.ext f3.2) _ _ hr3
      refine ⟨vs, hD4, ?_, hlt, ⟨fun b o nb z => ?_, Wd.jmut f4.2 nD⟩, acc ++ [e], vs ++ [v], hT i acc e hlt ha pb pe, by rw [List.length_append, List.length_singleton]; omega, upd_same, ?_⟩
      · rw [hr4.len]
        exact Nat.lt_of_le_of_lt (Nat.le_trans hl (Nat.le_trans hi' hlen)) (by decide)
      · rw [upd_ne (ne_of_none z hDl)]
        exact ((f1.trans f23).trans f4).1 b o nb z
      · exact RpL.mono (.mut fun u hu => by
          rw [hD4] at hu
          cases hu
          exact id) _ _ (hr4.snoc r4.1)
  · have e : i = ds.length := by omega
    subst e
    exact .inl ⟨it.stop _ H' (Nat.le_refl _) f1.2 f1.1 (f1.ext q1'.j), q2 (.own acc) _ H' (f.trans f1) ⟨⟨Dl, vs, rfl, hD, nD, hr⟩, fun _ a ea => by
      cases ea
      exact hDn⟩ (hend acc ha)⟩
/-- over known items, each known -/
theorem lcM {α : Type} {k : Nat} {xs : List α} {enc : α → D} {scope : Scope} {own : List (Str × Nat)} {ix : List Nat} (t : α → Bool) (g : α → D) (up : α → Env → Env) (o : Cok k X) (ok : BlkOk X.N X.env.scope scope own) (hix : ∀ i ∈ ix, i ∈ own.map fun p : Str × Nat => p.2) (hlen : xs.length ≤ 100000)
    (hs : ∀ x, foldedSetIterable iter X.env x = pure x) (hi : AI X W tg iter δ (xs.map enc))
    (hg : ∀ (s : Shared) (H : Hp) (C : Addr) (cl : List (Str × Addr)) (fp : List Addr) x, AG (X.blk s H scope (compEnvC scope cl C X.env) fp) tg ix (enc x) (up x))
    (ht : ∀ (s : Shared) (H : Hp) (C : Addr) (cl : List (Str × Addr)) (fp : List Addr) x, x ∈ xs → ATs (X.blk s H scope (compEnvC scope cl C X.env) fp) W ifs (up x (wipeE δ (own.map fun p : Str × Nat => p.2))) (· = t x))
    (he : ∀ (s : Shared) (H : Hp) (C : Addr) (cl : List (Str × Addr)) (fp : List Addr) x, x ∈ xs → t x = true → AEq (X.blk s H scope (compEnvC scope cl C X.env) fp) W elt (up x (wipeE δ (own.map fun p : Str × Nat => p.2))) (.d (g x))) :
    LcJ X W elt tg iter ifs scope own δ (· = .own ((xs.filter t).map g)) := by
  cases xs with
  | nil => exact lcG o ok hix (by simp) (fun _ δ => δ) (fun _ _ => False) (fun _ _ => False) (fun i acc => acc = []) hs hi (fun _ _ _ _ _ i d h => by simp at h) (fun _ _ _ _ _ i d h => by simp at h) (fun _ _ _ _ _ i d h => by simp at h) rfl (fun i acc e h => by simp at h) (fun i acc h => by simp at h) (fun acc h => by rw [h] <;> rfl)
  | cons x0 xr =>
    have hat : ∀ (i : Nat) (d : D), ((x0 :: xr).map enc)[i]? = some d → (x0 :: xr).getD i x0 ∈ (x0 :: xr) ∧ d = enc ((x0 :: xr).getD i x0) := fun i d h => by
      rw [List.getElem?_map] at h
      cases q : (x0 :: xr)[i]? with
      | none =>
        rw [q] at h
        cases h
      | some y =>
        rw [q] at h
        cases h
        rw [List.getD_eq_getElem?_getD, q]
        exact ⟨List.mem_of_getElem? q, rfl⟩
    refine lcG o ok hix (by rw [List.length_map]; exact hlen) (fun i => up ((x0 :: xr).getD i x0)) (fun i b => b = t ((x0 :: xr).getD i x0)) (fun i e => e = g ((x0 :: xr).getD i x0)) (fun i acc => acc = (((x0 :: xr).take i).filter t).map g) hs hi (fun s H C cl fp i d h => ?_) (fun s H C cl fp i d h => ht s H C cl fp _ (hat i d h).1) (fun s H C cl fp i d h p => (he s H C cl fp _ (hat i d h).1 p.symm).toP ⟨_, rfl, rfl⟩) rfl (fun i acc e hi' ha p q => ?_) (fun i acc hi' ha p => ?_) (fun acc ha => ?_)
    · rw [(hat i d h).2]
      exact hg s H C cl fp _
    · rw [List.length_map] at hi'
      have e1 : (x0 :: xr)[i]? = some ((x0 :: xr).getD i x0) := by
        rw [List.getD_eq_getElem?_getD, List.getElem?_eq_getElem hi'] <;> rfl
      rw [ha, q, List.take_add_one, e1, List.filter_append, List.map_append]
      congr 1
      show _ = (List.filter t [(x0 :: xr).getD i x0]).map g
      rw [List.filter_cons, if_pos p.symm] <;> rfl
    · rw [List.length_map] at hi'
      have e1 : (x0 :: xr)[i]? = some ((x0 :: xr).getD i x0) := by
        rw [List.getD_eq_getElem?_getD, List.getElem?_eq_getElem hi'] <;> rfl
      rw [ha, List.take_add_one, e1, List.filter_append, List.map_append]
      show _ = _ ++ (List.filter t [(x0 :: xr).getD i x0]).map g
      rw [List.filter_cons, if_neg (by rw [← p]; decide)]
      simp
    · rw [ha, List.length_map, List.take_length]
end
end NR
namespace NR
open PySem PySem.Spec PyProof.Rows L2

/-! statements -/
structure Post where
  N : Env → Prop
  R : S → Prop
  Bk : Env → Prop := fun _ => False
  Ct : Env → Prop := fun _ => False
structure Cont (K : PySem.W.Frag) (W : Wd) (p : Post) (B H : Hp) (D : Ends) : Prop where
  nx : ∀ B' δ' σ' H', Le B B' → ExT H H' → p.N δ' → SRs K W B' δ' σ' H' → D.nx σ' H'
  rt : ∀ B' s v H', Le B B' → ExT H H' → p.R s → SRr K W B' s v H' → D.rt v H'
  bk : ∀ B' δ' σ' H', Le B B' → ExT H H' → p.Bk δ' → SRs K W B' δ' σ' H' → D.bk σ' H'
  ct : ∀ B' δ' σ' H', Le B B' → ExT H H' → p.Ct δ' → SRs K W B' δ' σ' H' → D.ct σ' H'
theorem Cont.on {K : PySem.W.Frag} {W : Wd} {p : Post} {B H B1 H1 : Hp} {D : Ends} (c : Cont K W p B H D) (l : Le B B1) (e : ExT H H1) : Cont K W p B1 H1 D :=
  ⟨fun B' δ' σ' H' a b => c.nx B' δ' σ' H' (l.trans a) (e.trans b), fun B' s v H' a b => c.rt B' s v H' (l.trans a) (e.trans b), fun B' δ' σ' H' a b => c.bk B' δ' σ' H' (l.trans a) (e.trans b), fun B' δ' σ' H' a b => c.ct B' δ' σ' H' (l.trans a) (e.trans b)⟩
def cS (K : PySem.W.Frag) (W : Wd) (δ : Env) (p : Post) : TS := fun D σ H => ∃ B, SRs K W B δ σ H ∧ Cont K W p B H D
def AS (X : Cx) (W : Wd) (st : Stmt) (δ : Env) (p : Post) : Prop := PS X st (cS X.K W δ p)
def ASs (X : Cx) (W : Wd) (sts : List Stmt) (δ : Env) (p : Post) : Prop := PSs X sts (cS X.K W δ p)
section
variable {X : Cx} {W : Wd} {e a b c elt tg iter : Expr} {es ifs : List Expr} {δ δ' : Env} {P P1 P2 P3 : S → Prop} {B B1 B2 : Bool → Prop} {pos : Pos} {st : Stmt} {rest body : List Stmt} {p q : Post}
theorem ps_weak {t t' : TS} (h : PS X st t) (k : ∀ D σ H, t' D σ H → t D σ H) : PS X st t' := ⟨fun pins s σ H D I q => h.run pins s σ H D I (k D σ H q)⟩
theorem pss_weak {t t' : TS} (h : PSs X rest t) (k : ∀ D σ H, t' D σ H → t D σ H) : PSs X rest t' := ⟨fun pins s σ H D I q => h.run pins s σ H D I (k D σ H q)⟩
theorem pss_ex {ι : Type} {t : ι → TS} (h : ∀ i, PSs X rest (t i)) : PSs X rest (fun D σ H => ∃ i, t i D σ H) := ⟨fun pins s σ H D I ⟨i, q⟩ => (h i).run pins s σ H D I q⟩
theorem ass_nil (h : ∃ δ', p.N δ' ∧ Fg δ δ') : ASs X W [] δ p := pss_weak pss_nil fun D σ H ⟨B, q1, q2⟩ => by
  obtain ⟨δ', h1, h2⟩ := h
  exact q2.nx B δ' σ H (.refl B) (.refl H) h1 (q1.fg h2)
theorem ass_cons (M : Env → Prop) (h : AS X W st δ { p with N := M }) (t : ∀ δ', M δ' → ASs X W rest δ' p) : ASs X W (st :: rest) δ p := by
  have t' : PSs X rest (fun D σ H => ∃ q : {δ' : Env // M δ'}, cS X.K W q.1 p D σ H) := pss_ex fun q => t q.1 q.2
  refine pss_weak (pss_cons h t') fun D σ H ⟨B, q1, q2⟩ => ⟨B, q1, fun B' δ' σ' H' l e m s => ⟨⟨δ', m⟩, B', s, q2.on l e⟩, q2.rt, q2.bk, q2.ct⟩
theorem ass_one (h : AS X W st δ p) : ASs X W [st] δ p := pss_one h
theorem AS.imp (h : AS X W st δ p) (n : ∀ δ, p.N δ → q.N δ) (r : ∀ δ, p.R δ → q.R δ) (b : ∀ δ, p.Bk δ → q.Bk δ) (c : ∀ δ, p.Ct δ → q.Ct δ) : AS X W st δ q :=
  ps_weak h fun D σ H ⟨B, q1, q2⟩ => ⟨B, q1, fun B' δ' σ' H' l e m => q2.nx B' δ' σ' H' l e (n _ m), fun B' s v H' l e m => q2.rt B' s v H' l e (r _ m), fun B' δ' σ' H' l e m => q2.bk B' δ' σ' H' l e (b _ m), fun B' δ' σ' H' l e m => q2.ct B' δ' σ' H' l e (c _ m)⟩
/-- what is known before may be less -/
theorem ASs.fg (h : ASs X W rest δ' p) (f : Fg δ δ') : ASs X W rest δ p := pss_weak h fun D σ H ⟨B, q1, q2⟩ => ⟨B, q1.fg f, q2⟩
/-- a list of one's own is from now on only read -/
theorem SRs.freeze {K : PySem.W.Frag} {B0 H : Hp} {σ : L2.St} {i : Nat} {ds : List D} (h : SRs K W B0 δ σ H) (e : δ[i]? = some (some (.own ds))) : ∃ B', Le B0 B' ∧ SRs K W B' (δ.set i (some (.l ds))) σ H := by
  obtain ⟨v, e1, e2⟩ := h.at_ i _ e
  obtain ⟨a, vs, rfl, e3, e4, e5, e6⟩ := e2
  have hi : i < δ.length := (List.getElem?_eq_some_iff.mp e).1
  have h' : SRs K W B0 (δ.set i none) σ H := h.fg ⟨by rw [List.length_set], fun k s z => (set_none z).2⟩
  obtain ⟨p1, p2⟩ := h'.pin e5 e4 (fun o z => by
    rw [e3] at z
    cases z) fun k t hk m z => by
      obtain ⟨nk, hk'⟩ := set_none hk
      exact h.ne i k _ t a (Ne.symm nk) e hk' trivial m e1 z
  refine ⟨_, p2, p1.j, by rw [List.length_set, h.len], p1.sub, fun k s z => ?_, fun k l s t x nkl z1 z2 m1 m2 => ?_⟩
  · rcases set_some z with ⟨rfl, rfl⟩ | ⟨nk, z'⟩
    · exact ⟨_, e1, a, vs, rfl, SqL.of upd_same, e4, e6⟩
    · exact p1.at_ k s (by rw [List.getElem?_set_ne (Ne.symm nk)]; exact z')
  · rcases set_some z1 with ⟨rfl, rfl⟩ | ⟨nk, z1'⟩
    · exact m1.elim
    · rcases set_some z2 with ⟨rfl, rfl⟩ | ⟨nl, z2'⟩
      · exact m2.elim
      · exact h.ne k l s t x nkl z1' z2' m1 m2
theorem ASs.freeze {ds : List D} (i : Nat) (h : ASs X W rest (δ.set i (some (.l ds))) p) (e : δ[i]? = some (some (.own ds))) : ASs X W rest δ p := pss_weak h fun D σ H ⟨B, q1, q2⟩ => by
  obtain ⟨B', l, s⟩ := q1.freeze e
  exact ⟨B', s, q2.on l (.refl H)⟩

/-! name = e -/
theorem setR_go {K : PySem.W.Frag} {B0 H H1 : Hp} {σ : L2.St} {i : Nat} {s : S} {v : V} (q : SRs K W B0 δ σ H) (f : Fr W H H1) (r : RS K W H H1 s v) (hl : ∀ ds, s ≠ .l ds) : SRs K W B0 (δ.set i (some s)) (σ.set i (some v)) H1 := q.setR f r hl
theorem ass_setG {i : Nat} {x : Str} {pos' : Pos} (hN : X.N.Nodup) (hi : X.N[i]? = some x) (hx : Loc X.env.scope x) (hf : X.fn x = true ∨ X.env.scope.names.lookup x = some .local) (hs : swapsWith e (some (.Name x pos')) pos.line X.env = pure false)
    (h : AE X W e δ P) (hl : ∀ s, P s → ∀ ds, s ≠ .l ds) (t : ∀ s, P s → ASs X W rest (δ.set i (some s)) p) : ASs X W (.Assign [.Name x pos'] e pos :: rest) δ p :=
  ass_cons (fun δ' => ∃ s, P s ∧ δ' = δ.set i (some s)) (ps_weak (ps_set hN hi hx h hs hf) fun D σ H ⟨B, q1, q2⟩ => ⟨q1.sr, fun s v H1 f r z => q2.nx B _ _ H1 (.refl B) (f.ext q1.j) ⟨s, z, rfl⟩ (q1.setR f r (hl s z))⟩) fun δ' ⟨s, z, e⟩ => e ▸ t s z
theorem ass_set {i : Nat} {x : Str} {pos' : Pos} {s : S} (hN : X.N.Nodup) (hi : X.N[i]? = some x) (hx : Loc X.env.scope x) (hf : X.fn x = true ∨ X.env.scope.names.lookup x = some .local) (hs : swapsWith e (some (.Name x pos')) pos.line X.env = pure false)
    (h : AEq X W e δ s) (hl : ∀ ds, s ≠ .l ds) (t : ASs X W rest (δ.set i (some s)) p) : ASs X W (.Assign [.Name x pos'] e pos :: rest) δ p :=
  ass_setG hN hi hx hf hs h (fun _ z => z ▸ hl) fun _ z => z ▸ t
/-- name = [..] -/
theorem ass_lcG {k i : Nat} {x : Str} {pos' : Pos} {scope : Scope} {own : List (Str × Nat)} (o : Cok k X) (hi : X.N[i]? = some x) (hyl : X.env.scope.names.lookup x = some .local)
    (hsw : swapsWith (.ListComp elt [⟨tg, iter, ifs, 0⟩] scope pos) (some (.Name x pos')) pos2.line X.env = pure true)
    (h : LcJ X W elt tg iter ifs scope own δ P) (hl : ∀ s, P s → ∀ ds, s ≠ .l ds) (t : ∀ s, P s → ASs X W rest (δ.set i (some s)) p) : ASs X W (.Assign [.Name x pos'] (.ListComp elt [⟨tg, iter, ifs, 0⟩] scope pos) pos2 :: rest) δ p := by
  obtain ⟨wi, g, tt, te, h1, h2, h3, h4, h5, h6, h7⟩ := h
  exact ass_cons (fun δ' => ∃ s, P s ∧ δ' = δ.set i (some s)) (ps_weak (ps_setLc o.calm o.nd hi hyl hsw h1 h2 h3 h4 h5 h6) fun D σ H ⟨B, q1, q2⟩ => h7 σ H _ ⟨q1.sr, fun s v H1 f r z => q2.nx B _ _ H1 (.refl B) (f.ext q1.j) ⟨s, z, rfl⟩ (q1.setR f r (hl s z))⟩) fun δ' ⟨s, z, e⟩ => e ▸ t s z
/-- a, b = x, y by plain names -/
theorem ass_par {k i j : Nat} {x y : Str} {px py pt : Pos} {kt k2 : Nat} {pt2 : Pos} {A : List S → Prop} (o : Cok k X) (hi : X.N[i]? = some x) (hj : X.N[j]? = some y) (hij : i ≠ j)
    (hx : X.env.scope.names.lookup x = some .local) (hy : X.env.scope.names.lookup y = some .local)
    (hw : swappedStores [.Tuple [.Name x px, .Name y py] kt pt] (.Tuple [a, b] k2 pt2) X.env = pure (some [x, y]))
    (hs : swapsWithSole [.Tuple [.Name x px, .Name y py] kt pt] (.Tuple [a, b] k2 pt2) pos.line X.env = pure false)
    (h : AA X W [a, b] δ A) (hA : ∀ ss, A ss → ∃ s t, ss = [s, t] ∧ (∀ ds, s ≠ .l ds) ∧ (∀ ds, t ≠ .l ds) ∧ (Mutb s → ¬ Mutb t)) (t : ∀ s u, A [s, u] → ASs X W rest ((δ.set i (some s)).set j (some u)) p) :
    ASs X W (.Assign [.Tuple [.Name x px, .Name y py] kt pt] (.Tuple [a, b] k2 pt2) pos :: rest) δ p := by
  refine ass_cons (fun δ' => ∃ s u, A [s, u] ∧ δ' = (δ.set i (some s)).set j (some u)) (ps_weak (ps_par o.calm o.nd hi hj hij hx hy h hw hs) fun D σ H ⟨B, q1, q2⟩ => ⟨q1.sr, fun ss vs H1 f r z => ?_⟩) fun δ' ⟨s, u, z, e⟩ => e ▸ t s u z
  obtain ⟨s, u, rfl, l1, l2, mm⟩ := hA ss z
  cases r with
  | cons r1 r2 =>
    cases r2 with
    | cons r2 r3 =>
      cases r3
      rename_i v w
      refine ⟨v, w, rfl, q2.nx B _ _ H1 (.refl B) (f.ext q1.j) ⟨s, u, z, rfl⟩ ?_⟩
      have s1 := q1.setR (i := i) f r1 l1
      have fr : Fr W H1 H1 := .refl f.2
      -- the second store
      refine s1.setD ?_ ?_
      · have := (q1.setR (i := j) f r2 l2).at_ 
        cases u with
        | d d => exact r2.1
        | l ds => exact absurd rfl (l2 ds)
        | own ds =>
          obtain ⟨a, vs, e1, e2, e3, e4⟩ := r2.1
          refine ⟨a, vs, e1, ?_, e3, e2, e4⟩
          cases zz : B a with
          | none => rfl
          | some o =>
            have z1 := q1.sub a o e3 zz
            rw [r2.2 trivial a e1] at z1
            cases z1
        | hp => exact r2.1
        | dic kvs =>
          obtain ⟨a, e1, e2, e3⟩ := r2.1
          refine ⟨a, e1, ?_, e3, e2⟩
          cases zz : B a with
          | none => rfl
          | some o =>
            have z1 := q1.sub a o e3 zz
            rw [r2.2 trivial a e1] at z1
            cases z1
        | ft ds => exact r2.1
      · intro m k t a nk e mt ev hk
        rcases set_some e with ⟨rfl, rfl⟩ | ⟨nk', e'⟩
        · exact mm mt m
        · rw [List.getElem?_set_ne (Ne.symm nk')] at hk
          obtain ⟨v0, e1, e2⟩ := q1.at_ k t e'
          rw [hk] at e1
          cases e1
          have hn := r2.2 m a ev
          cases t with
          | own ds =>
            obtain ⟨a', vs, z1, _, _, z2, _⟩ := e2
            cases z1
            rw [hn] at z2
            cases z2
          | dic kvs =>
            obtain ⟨a', z1, _, _, z2⟩ := e2
            cases z1
            rw [hn] at z2
            cases z2
          | d d => exact mt
          | l ds => exact mt
          | hp => exact mt
          | ft ds => exact mt
/-- target = a tuple -/
theorem ass_asg {ix : List Nat} {up : D → Env → Env} (hs : swapsWithSole [tg] e pos.line X.env = pure false) (hw : swappedStores [tg] e X.env = pure none) (h1 : (assignEach [tg] X.env).map (·.2) = [assign tg X.env])
    (h : AE X W e δ P) (hP : ∀ s, P s → ∃ d, s = .d d) (hg : ∀ d, P (.d d) → AG X tg ix d (up d)) (t : ∀ d, P (.d d) → ASs X W rest (up d δ) p) : ASs X W (.Assign [tg] e pos :: rest) δ p := by
  have g : PG X tg (fun v σ H Q => ∃ q : {d : D // P (.d d)}, cG X.K ix q.1 (up q.1) v σ H Q) := ⟨fun pins s1 σ1 H1 v u Q I r z => by
    obtain ⟨q, z⟩ := z
    exact (hg q.1 q.2).run pins s1 σ1 H1 v u Q I r z⟩
  refine ass_cons (fun δ' => ∃ d, P (.d d) ∧ δ' = up d δ) (ps_weak (ps_asg h g hs hw h1) fun D σ H ⟨B, q1, q2⟩ => ⟨q1.sr, fun s v H1 f r z => ?_⟩) fun δ' ⟨d, z, e⟩ => e ▸ t d z
  obtain ⟨d, rfl⟩ := hP s z
  exact ⟨⟨d, z⟩, r.1, fun σ' u => q2.nx B _ _ H1 (.refl B) (f.ext q1.j) ⟨d, z, rfl⟩ (u.srs W B _ (q1.fr f))⟩

/-! changing one's own list -/
theorem own_write {K : PySem.W.Frag} {B0 H : Hp} {σ : L2.St} {i : Nat} {ds es : List D} {vs us : List V} {a : Addr} (q : SRs K W B0 δ σ H) (e : δ[i]? = some (some (.own ds))) (ev : σ[i]? = some (some (.ref a))) (hH : H a = some (.lst vs)) (r : RpL K (upd H a (.lst us)) es us) :
    SRs K W B0 (δ.set i (some (.own es))) σ (upd H a (.lst us)) ∧ ExT H (upd H a (.lst us)) := by
  obtain ⟨v, e1, e2⟩ := q.at_ i _ e
  rw [ev] at e1
  cases e1
  obtain ⟨a', vs', z, e3, e4, e5, e6⟩ := e2
  cases z
  have hu : ∀ u, H a = some u → ¬ Stat u := fun u z => by
    rw [hH] at z
    cases z
    exact id
  exact ⟨q.write e ev trivial trivial e3 e4 hu ⟨a, us, rfl, e3, e4, upd_same, r⟩, .mut hu⟩
theorem ass_app {i : Nat} {x : Str} {ds : List D} {pn apos cpos epos : Pos} (he : δ[i]? = some (some (.own ds))) (hN : X.N[i]? = some x) (hv : Vis X.env.scope x) (hd : (x == ("__debug__" : Str)) = false) (hc : (x == ("__classdict__" : Str)) = false) (hlen : ds.length < 100000)
    (h : AE X W e δ P) (hP : ∀ s, P s → ∃ d, s = .d d)
    (hs : swapsWith (.Call (.Attribute (.Name x pn) "append" apos) [e] [] cpos) none epos.line X.env = pure false)
    (hb : attributeBase (.Name x pn) "append" X.env (eval (.Name x pn) X.env) = eval (.Name x pn) X.env)
    (hfew : ((backTo cpos (starEach [e] X.env)).all (fun x => !x.1) && (backToKw cpos (keywordEach [] X.env)).all (fun x => x.1.isSome) && decide ([e].length + ([] : List Keyword).length + (if ([] : List Keyword).isEmpty then 0 else 1) < 30)) = true)
    (hline : (apos.endLine == cpos.line) = true) (hst : starEach [e] X.env = (false, eval e X.env) :: starEach [] X.env) (hpl : (backTo cpos (starEach [] X.env)).any (·.1) = false)
    (t : ∀ d, P (.d d) → ASs X W rest (δ.set i (some (.own (ds ++ [d])))) p) : ASs X W (.Expr (.Call (.Attribute (.Name x pn) "append" apos) [e] [] cpos) epos :: rest) δ p := by
  refine ass_cons (fun δ' => ∃ d, P (.d d) ∧ δ' = δ.set i (some (.own (ds ++ [d])))) (ps_weak (ps_expr (pe_bm PySem.F.plainAttrs_list PySem.F.slot_list_append PySem.F.type_list_append mt_append (pe_var hN hv hd hc) (pa_cons h pa_nil hst) hb hfew hline hst hpl) hs) fun D σ H ⟨B, q1, q2⟩ => ?_) fun δ' ⟨d, z, e⟩ => e ▸ t d z
  obtain ⟨v, e1, e2⟩ := q1.at_ i _ he
  obtain ⟨a, vs, rfl, e3, e4, e5, e6⟩ := e2
  refine ⟨_, e1, .inl ⟨rfl, vs, SqL.of e5⟩, q1.sr, fun s v H1 f r z => ?_⟩
  obtain ⟨d, rfl⟩ := hP s z
  have e7 : H1 a = some (.lst vs) := f.1 _ _ e4 e5
  have e8 : RpL X.K H1 ds vs := RpL.mono (f.ext q1.j) _ _ e6
  refine ⟨a, vs, v, rfl, rfl, e7, by rw [e8.len]; exact Nat.lt_of_lt_of_le hlen (by decide), ?_⟩
  have hu : ∀ u, H1 a = some u → ¬ Stat u := fun u z => by
    rw [e7] at z
    cases z
    exact id
  obtain ⟨w1, w2⟩ := own_write (es := ds ++ [d]) (q1.fr f) he e1 e7 (RpL.mono (.mut hu) _ _ (e8.snoc r.1))
  exact q2.nx B _ _ _ (.refl B) ((f.ext q1.j).trans w2) ⟨d, z, rfl⟩ w1
theorem ass_ext {i : Nat} {x : Str} {ds es : List D} {pn apos cpos epos : Pos} (he : δ[i]? = some (some (.own ds))) (hN : X.N[i]? = some x) (hv : Vis X.env.scope x) (hd : (x == ("__debug__" : Str)) = false) (hc : (x == ("__classdict__" : Str)) = false) (hlen : ds.length + es.length ≤ 1000000)
    (h : AEq X W e δ (.own es))
    (hs : swapsWith (.Call (.Attribute (.Name x pn) "extend" apos) [e] [] cpos) none epos.line X.env = pure false)
    (hb : attributeBase (.Name x pn) "extend" X.env (eval (.Name x pn) X.env) = eval (.Name x pn) X.env)
    (hfew : ((backTo cpos (starEach [e] X.env)).all (fun x => !x.1) && (backToKw cpos (keywordEach [] X.env)).all (fun x => x.1.isSome) && decide ([e].length + ([] : List Keyword).length + (if ([] : List Keyword).isEmpty then 0 else 1) < 30)) = true)
    (hline : (apos.endLine == cpos.line) = true) (hst : starEach [e] X.env = (false, eval e X.env) :: starEach [] X.env) (hpl : (backTo cpos (starEach [] X.env)).any (·.1) = false)
    (t : ASs X W rest (δ.set i (some (.own (ds ++ es)))) p) : ASs X W (.Expr (.Call (.Attribute (.Name x pn) "extend" apos) [e] [] cpos) epos :: rest) δ p := by
  refine ass_cons (fun δ' => δ' = δ.set i (some (.own (ds ++ es)))) (ps_weak (ps_expr (pe_bm PySem.F.plainAttrs_list PySem.F.slot_list_extend PySem.F.type_list_extend mt_extend (pe_var hN hv hd hc) (pa_cons h pa_nil hst) hb hfew hline hst hpl) hs) fun D σ H ⟨B, q1, q2⟩ => ?_) fun δ' e => e ▸ t
  obtain ⟨v, e1, e2⟩ := q1.at_ i _ he
  obtain ⟨a, vs, rfl, e3, e4, e5, e6⟩ := e2
  refine ⟨_, e1, .inl ⟨rfl, vs, SqL.of e5⟩, q1.sr, fun s v H1 f r z => ?_⟩
  subst z
  obtain ⟨b, us, rfl, f1, f2, f3⟩ := r.1
  have e7 : H1 a = some (.lst vs) := f.1 _ _ e4 e5
  have e8 : RpL X.K H1 ds vs := RpL.mono (f.ext q1.j) _ _ e6
  refine ⟨a, b, vs, us, rfl, rfl, e7, f1, by rw [e8.len, f3.len]; exact Nat.le_trans hlen (by decide), ?_⟩
  have hu : ∀ u, H1 a = some u → ¬ Stat u := fun u z => by
    rw [e7] at z
    cases z
    exact id
  obtain ⟨w1, w2⟩ := own_write (es := ds ++ es) (q1.fr f) he e1 e7 (RpL.mono (.mut hu) _ _ (e8.app f3))
  exact q2.nx B _ _ _ (.refl B) ((f.ext q1.j).trans w2) rfl w1
/-- x[i] = e -/
theorem ass_setAt {i j : Nat} {x : Str} {ds : List D} {d : D} {n : Int} {pn spos : Pos} (he : δ[i]? = some (some (.own ds))) (hN : X.N[i]? = some x) (hv : Vis X.env.scope x) (hd : (x == ("__debug__" : Str)) = false) (hc : (x == ("__classdict__" : Str)) = false)
    (h : AEq X W e δ (.d d)) (hi : AEq X W a δ (.d (.int n))) (hn : n = (j : Int)) (hj : j < ds.length)
    (hsw : swapsWithSole [.Subscript (.Name x pn) a spos] e pos.line X.env = pure false) (hw : swappedStores [.Subscript (.Name x pn) a spos] e X.env = pure none) (h1 : (assignEach [.Subscript (.Name x pn) a spos] X.env).map (·.2) = [assign (.Subscript (.Name x pn) a spos) X.env])
    (hg : ∀ {to ti : TE}, PE X (.Name x pn) to → PE X a ti → PG X (.Subscript (.Name x pn) a spos) (gSub to ti rSetL))
    (t : ASs X W rest (δ.set i (some (.own (ds.set j d)))) p) : ASs X W (.Assign [.Subscript (.Name x pn) a spos] e pos :: rest) δ p := by
  subst hn
  refine ass_cons (fun δ' => δ' = δ.set i (some (.own (ds.set j d)))) (ps_weak (ps_asg h (hg (pe_var hN hv hd hc) hi) hsw hw h1) fun D σ H ⟨B, q1, q2⟩ => ⟨q1.sr, fun s v H1 f r z => ?_⟩) fun δ' e => e ▸ t
  subst z
  obtain ⟨u, e1, e2⟩ := q1.at_ i _ he
  obtain ⟨a, vs, rfl, e3, e4, e5, e6⟩ := e2
  refine ⟨_, e1, (q1.fr f).sr, fun s2 v2 H2 f2 r2 z2 => ?_⟩
  subst z2
  have f12 := f.trans f2
  have e7 : H2 a = some (.lst vs) := f12.1 _ _ e4 e5
  have e8 : RpL X.K H2 ds vs := RpL.mono (f12.ext q1.j) _ _ e6
  have hz : ixN vs.length ((j : Nat) : Int) = some j := by
    unfold ixN
    rw [e8.len, if_pos (by omega), if_pos (by omega)] <;> simp
  refine ⟨a, vs, (j : Int), j, rfl, sv_int r2.1, e7, hz, ?_⟩
  have hu : ∀ u, H2 a = some u → ¬ Stat u := fun u z => by
    rw [e7] at z
    cases z
    exact id
  obtain ⟨w1, w2⟩ := own_write (es := ds.set j d) (q1.fr f12) he e1 e7 (RpL.mono (.mut hu) _ _ (e8.set (Rp.mono (f2.ext f.2) _ _ r.1) j))
  exact q2.nx B _ _ _ (.refl B) ((f12.ext q1.j).trans w2) rfl w1

/-! if, return, loops -/
theorem as_ifG {u w : List Stmt} (h : AT X W c δ B) (h1 : B true → ASs X W u δ p) (h2 : B false → ASs X W w δ p) : AS X W (.If c u w pos) δ p := by
  have g1 : PSs X u (fun D σ H => B true ∧ cS X.K W δ p D σ H) := ⟨fun pins s σ H D I q => (h1 q.1).run pins s σ H D I q.2⟩
  have g2 : PSs X w (fun D σ H => B false ∧ cS X.K W δ p D σ H) := ⟨fun pins s σ H D I q => (h2 q.1).run pins s σ H D I q.2⟩
  refine ps_weak (ps_if h g1 g2) fun D σ H ⟨B, q1, q2⟩ => ⟨q1.sr, fun k H1 f z => ?_⟩
  cases k with
  | true => exact ⟨z, B, q1.fr f, q2.on (.refl B) (f.ext q1.j)⟩
  | false => exact ⟨z, B, q1.fr f, q2.on (.refl B) (f.ext q1.j)⟩
theorem as_if {k : Bool} {u w : List Stmt} (h : ATq X W c δ k) (h1 : k = true → ASs X W u δ p) (h2 : k = false → ASs X W w δ p) : AS X W (.If c u w pos) δ p := as_ifG h (fun z => h1 z.symm) fun z => h2 z.symm
/-- an if that may leave -/
theorem ass_ifR {u : List Stmt} (h : AT X W c δ B) (h1 : B true → ASs X W u δ { p with N := fun _ => False }) (h2 : B false → ASs X W rest δ p) : ASs X W (.If c u [] pos :: rest) δ p := by
  refine ass_cons (fun δ' => B false ∧ δ' = δ) (as_ifG h (fun z => ?_) fun z => ass_nil ⟨δ, ⟨z, rfl⟩, .refl δ⟩) fun δ' ⟨z, e⟩ => e ▸ h2 z
  exact pss_weak (h1 z) fun D σ H ⟨B, q1, q2⟩ => ⟨B, q1, fun _ _ _ _ _ _ z => z.elim, q2.rt, q2.bk, q2.ct⟩
/-- an if both ways of which meet -/
theorem ass_ifM {u w : List Stmt} (M : Env → Prop) (h : AT X W c δ B) (h1 : B true → ASs X W u δ { p with N := M }) (h2 : B false → ASs X W w δ { p with N := M }) (t : ∀ δ', M δ' → ASs X W rest δ' p) : ASs X W (.If c u w pos :: rest) δ p :=
  ass_cons M (as_ifG h h1 h2) t
theorem ass_never : ASs X W rest δ { p with N := fun _ => False } → ASs X W rest δ p := fun h => pss_weak h fun D σ H ⟨B, q1, q2⟩ => ⟨B, q1, fun _ _ _ _ _ _ z => z.elim, q2.rt, q2.bk, q2.ct⟩
theorem as_ret (h : AE X W e δ P) (hP : ∀ s, P s → (∀ ds, s ≠ .l ds) ∧ p.R s) : AS X W (.Return (some e) pos) δ p := ps_weak (ps_ret h) fun D σ H ⟨B, q1, q2⟩ => ⟨q1.sr, fun s v H1 f r z => by
  obtain ⟨h1, h2⟩ := hP s z
  refine q2.rt B s v H1 (.refl B) (f.ext q1.j) h2 ⟨f.2, q1.sub.fr f, ?_⟩
  cases s with
  | d d => exact r.1
  | l ds => exact absurd rfl (h1 ds)
  | own ds =>
    obtain ⟨a, vs, e1, e2, e3, e4⟩ := r.1
    refine ⟨a, vs, e1, ?_, e3, e2, e4⟩
    cases z : B a with
    | none => rfl
    | some o =>
      have z1 := q1.sub a o e3 z
      rw [r.2 trivial a e1] at z1
      cases z1
  | hp => exact r.1
  | dic kvs =>
    obtain ⟨a, e1, e2, e3⟩ := r.1
    refine ⟨a, e1, ?_, e3, e2⟩
    cases z : B a with
    | none => rfl
    | some o =>
      have z1 := q1.sub a o e3 z
      rw [r.2 trivial a e1] at z1
      cases z1
  | ft ds => exact r.1⟩
/-- return of one's own list -/
theorem as_retO {i : Nat} {x : Str} {ds : List D} {pn : Pos} (he : δ[i]? = some (some (.own ds))) (hN : X.N[i]? = some x) (hv : Vis X.env.scope x) (hd : (x == ("__debug__" : Str)) = false) (hc : (x == ("__classdict__" : Str)) = false) (hP : p.R (.own ds)) : AS X W (.Return (some (.Name x pn)) pos) δ p :=
  ps_weak (ps_ret (pe_var hN hv hd hc)) fun D σ H ⟨B, q1, q2⟩ => by
    obtain ⟨v, e1, e2⟩ := q1.at_ i _ he
    exact ⟨v, e1, q2.rt B _ v H (.refl B) (.refl H) hP ⟨q1.j, q1.sub, e2⟩⟩
theorem as_cont (h : ∃ δ', p.Ct δ' ∧ Fg δ δ') : AS X W (.Continue pos) δ p := ps_weak ps_continue fun D σ H ⟨B, q1, q2⟩ => by
  obtain ⟨δ', h1, h2⟩ := h
  exact q2.ct B δ' σ H (.refl B) (.refl H) h1 (q1.fg h2)
theorem as_for {k : Nat} {ds : List D} {ix : List Nat} (I : Nat → Env → Prop) (ups : Nat → Env → Env) (o : Cok k X) (hs : ∀ x, foldedSetIterable iter X.env x = pure x) (hI : AIs X W tg iter δ ds) (h0 : ∃ δ', I 0 δ' ∧ Fg δ δ')
    (hg : ∀ (i : Nat) d, ds[i]? = some d → AG X tg ix d (ups i)) (hb : ∀ (i : Nat) d δ', ds[i]? = some d → I i δ' → ASs X W body (ups i δ') ⟨I (i + 1), p.R, p.N, I (i + 1)⟩) (hend : ∀ δ', I ds.length δ' → p.N δ') : AS X W (.For tg iter body [] pos) δ p := by
  have g : PG X tg (fun v σ H Q => ∃ q : {p : Nat × NR.D // ds[p.1]? = some p.2}, cG X.K ix q.1.2 (ups q.1.1) v σ H Q) := ⟨fun pins s1 σ1 H1 v u Q I r z => by
    obtain ⟨q, z⟩ := z
    exact (hg q.1.1 q.1.2 q.2).run pins s1 σ1 H1 v u Q I r z⟩
  have bd : PSs X body (fun D σ H => ∃ q : {q : Nat × NR.D × Env // ds[q.1]? = some q.2.1 ∧ I q.1 q.2.2}, cS X.K W (ups q.1.1 q.1.2.2) ⟨I (q.1.1 + 1), p.R, p.N, I (q.1.1 + 1)⟩ D σ H) := pss_ex fun q => hb q.1.1 q.1.2.1 q.1.2.2 q.2.1 q.2.2
  refine ps_weak (ps_for o.own o.calm hI g bd hs) fun D σ H ⟨B, q1, q2⟩ => ⟨B, q1, fun J B1 H1 l1 x1 s1 it => ?_⟩
  obtain ⟨δ0, i0, f0⟩ := h0
  refine ⟨fun i m σ' H' => m = ds.length - i ∧ i ≤ ds.length ∧ ∃ B' δ', Le B1 B' ∧ ExT H1 H' ∧ I i δ' ∧ SRs X.K W B' δ' σ' H', ⟨ds.length, by simp, Nat.zero_le _, B1, δ0, .refl B1, .refl H1, i0, s1.fg f0⟩, ?_⟩
  rintro i m σ' H' ⟨rfl, hi, B', δ', l2, x2, ii, s2⟩
  have sb : Sub W B1 H' := fun b o nb z => s2.sub b o nb (l2 b o z)
  by_cases hlt : i < ds.length
  · have hd : ds[i]? = some ds[i] := List.getElem?_eq_getElem hlt
    refine .inr ⟨it.go i _ H' hd s2.j sb x2, fun σ'' H'' => i + 1 ≤ ds.length ∧ ∃ B'' δ'', Le B1 B'' ∧ ExT H1 H'' ∧ I (i + 1) δ'' ∧ SRs X.K W B'' δ'' σ'' H'', fun σ'' H'' w => ⟨ds.length - (i + 1), by omega, rfl, w⟩, fun x H2 y => ?_⟩
    obtain ⟨f2, rx⟩ := it.yld i _ H' x H2 hd s2.j sb x2 y
    refine ⟨⟨(i, ds[i]), hd⟩, rx, fun σ2 u => ⟨⟨(i, ds[i], δ'), hd, ii⟩, B', u.srs W B' _ (s2.fr f2), ?_⟩⟩
    have x3 : ExT H1 H2 := x2.trans (f2.ext s2.j)
    exact ⟨fun B3 δ3 σ3 H3 l3 x4 n s3 => ⟨hlt, B3, δ3, l2.trans l3, x3.trans x4, n, s3⟩,
      fun B3 s v H3 l3 x4 n s3 => q2.rt B3 s v H3 ((l1.trans l2).trans l3) ((x1.trans x3).trans x4) n s3,
      fun B3 δ3 σ3 H3 l3 x4 n s3 => q2.nx B3 δ3 σ3 H3 ((l1.trans l2).trans l3) ((x1.trans x3).trans x4) n s3,
      fun B3 δ3 σ3 H3 l3 x4 n s3 => ⟨hlt, B3, δ3, l2.trans l3, x3.trans x4, n, s3⟩⟩
  · have e : i = ds.length := by omega
    subst e
    exact .inl ⟨it.stop _ H' (Nat.le_refl _) s2.j sb x2, q2.nx B' δ' σ' H' (l1.trans l2) (x1.trans x2) (hend δ' ii) s2⟩
theorem as_while {k : Nat} (M : Nat → Env → Prop) (t : Nat → Env → Bool) (o : Cok k X) (h0 : ∃ m, M m δ) (hc : ∀ m δ', M m δ' → ATq X W c δ' (t m δ')) (hb : ∀ m δ', M m δ' → t m δ' = true → ASs X W body δ' ⟨fun δ'' => ∃ m', m' < m ∧ M m' δ'', p.R, p.N, fun δ'' => ∃ m', m' < m ∧ M m' δ''⟩)
    (hend : ∀ m δ', M m δ' → t m δ' = false → p.N δ') : AS X W (.While c body [] pos) δ p := by
  have tc : PT X c (fun σ H Q => ∃ q : {q : Nat × Env // M q.1 q.2}, cT X.K W q.1.2 (· = t q.1.1 q.1.2) σ H Q) := pt_ex fun q => hc q.1.1 q.1.2 q.2
  have bd : PSs X body (fun D σ H => ∃ q : {q : Nat × Env // M q.1 q.2 ∧ t q.1 q.2 = true}, cS X.K W q.1.2 ⟨fun δ'' => ∃ m', m' < q.1.1 ∧ M m' δ'', p.R, p.N, fun δ'' => ∃ m', m' < q.1.1 ∧ M m' δ''⟩ D σ H) := pss_ex fun q => hb q.1.1 q.1.2 q.2.1 q.2.2
  refine ps_weak (ps_while o.own tc bd) fun D σ H ⟨B, q1, q2⟩ => ?_
  obtain ⟨m0, hm0⟩ := h0
  refine ⟨fun m σ' H' => ∃ B' δ', Le B B' ∧ ExT H H' ∧ M m δ' ∧ SRs X.K W B' δ' σ' H', ⟨m0, B, δ, .refl B, .refl H, hm0, q1⟩, ?_⟩
  rintro m σ' H' ⟨B', δ', l, x, hm, s⟩
  refine ⟨⟨(m, δ'), hm⟩, s.sr, fun b H1 f z => ?_⟩
  have x1 : ExT H H1 := x.trans (f.ext s.j)
  cases b with
  | true =>
    refine ⟨fun σ'' H'' => ∃ m', m' < m ∧ ∃ B'' δ'', Le B B'' ∧ ExT H H'' ∧ M m' δ'' ∧ SRs X.K W B'' δ'' σ'' H'', fun σ'' H'' w => w, ⟨(m, δ'), hm, z.symm⟩, B', s.fr f, ?_⟩
    exact ⟨fun B3 δ3 σ3 H3 l3 x4 ⟨m', h1, h2⟩ s3 => ⟨m', h1, B3, δ3, l.trans l3, x1.trans x4, h2, s3⟩,
      fun B3 s v H3 l3 x4 n s3 => q2.rt B3 s v H3 (l.trans l3) (x1.trans x4) n s3,
      fun B3 δ3 σ3 H3 l3 x4 n s3 => q2.nx B3 δ3 σ3 H3 (l.trans l3) (x1.trans x4) n s3,
      fun B3 δ3 σ3 H3 l3 x4 ⟨m', h1, h2⟩ s3 => ⟨m', h1, B3, δ3, l.trans l3, x1.trans x4, h2, s3⟩⟩
  | false => exact q2.nx B' δ' σ' H1 l x1 (hend m δ' hm z.symm) (s.fr f)
end
/-! a def's body -/
abbrev BX (P : Program) (w : World) (K : PySem.W.Frag) (mg : Str → Option Value) (base : Heap) (N : List Str) (qual : Str) (st : Stmt) (f : Addr) (cdv : Value) (A : Around) (outer : List PySem.Env) (s : Shared) (H : Hp) (E : XK) : Cx :=
  (cxOf CX0 P w K mg base N qual (defScope st) f cdv A outer s H E).nox
theorem fn_ok {P : Program} {w : World} {K : PySem.W.Frag} {mg : Str → Option Value} {base : Heap} {W : Wd} {x qual : Str} {st : Stmt} {f : Addr} {fd : FuncData} {N ps : List Str} {k : Nat} {ι : Type} {args : ι → List S} {post : ι → S → Prop}
    (F : Fun K x qual st f fd) (Sc : FnScope N ps (defScope st)) (hl : ∀ i, (args i).length = ps.length) (hm : ∀ i, ∀ s ∈ args i, ¬ Mutb s)
    (h : ∀ cdv A outer s H E, Cok k (BX P w K mg base N qual st f cdv A outer s H E) → ∀ i, ASs (BX P w K mg base N qual st f cdv A outer s H E) W (defBody st) ((args i).map some ++ List.replicate (N.length - (args i).length) none) ⟨fun _ => post i (.d .non), post i, fun _ => False, fun _ => False⟩) :
    FnOk P w K mg base CX0 (k + 1) f fd ps (FS K W args post) := by
  refine F.ok Sc (fun vs H Q E z => ?_) (fun cdv A outer s H vs Q E hr z => ?_)
  · obtain ⟨i, r, _⟩ := z
    rw [← Paired.length r, hl i]
  · obtain ⟨i, r, j, q⟩ := z
    refine ⟨_, h cdv A outer s H E ⟨rfl, Sc.nd, hr, rfl⟩ i, ?_⟩
    classical
    refine ⟨fun b => if W.bd b then none else H b, ?_, ?_⟩
    · have hlen : vs.length = (args i).length := (Paired.length r).symm
      refine ⟨j, ?_, fun b o nb z => ?_, fun n s9 z => ?_, fun n m s9 t' a nm z1 z2 m1 => ?_⟩
      · unfold L2.start
        simp only [List.length_append, List.length_map, List.length_replicate, hlen]
      · have z' : (if W.bd b then none else H b) = some o := z
        rw [if_neg nb] at z'
        exact z'
      · have hn : n < (args i).length := by
          by_cases hn : n < (args i).length
          · exact hn
          · rw [List.getElem?_append_right (by rw [List.length_map]; omega)] at z
            have := List.mem_of_getElem? z
            have := (List.mem_replicate.mp this).2
            cases this
        rw [List.getElem?_append_left (by rw [List.length_map]; exact hn), List.getElem?_map] at z
        cases e : (args i)[n]? with
        | none =>
          rw [e] at z
          cases z
        | some s0 =>
          rw [e] at z
          have ez : s0 = s9 := Option.some.inj (Option.some.inj z)
          subst ez
          have hv : n < vs.length := by omega
          have hget : ∀ {ss : List S} {us : List V} {n : Nat} {s : S}, Paired (fun s v => SV K W s v H) ss us → ss[n]? = some s → ∃ v, us[n]? = some v ∧ SV K W s v H := by
            intro ss us n s r
            induction r generalizing n with
            | nil => intro e; simp at e
            | cons r0 _ ih =>
              intro e
              cases n with
              | zero =>
                simp at e
                subst e
                exact ⟨_, rfl, r0⟩
              | succ n =>
                obtain ⟨v, h1, h2⟩ := ih (by simpa using e)
                exact ⟨v, by simpa using h1, h2⟩
          obtain ⟨v, e1, e2⟩ := hget r e
          refine ⟨v, ?_, ?_⟩
          · unfold L2.start
            rw [List.getElem?_append_left (by rw [List.length_map]; exact hv), List.getElem?_map, e1]
            rfl
          · have nm := hm i s0 (List.mem_of_getElem? e)
            cases s0 with
            | d d => exact e2
            | l ds =>
              obtain ⟨a, us, q1, q2, q3, q4⟩ := e2
              refine ⟨a, us, q1, ?_, q3, q4⟩
              rcases q2 with (q2 | ⟨o, q2⟩) | q2
              · exact .inl (.inl (by
                  show (if W.bd a then none else H a) = _
                  rw [if_neg q3]
                  exact q2))
              · exact .inl (.inr ⟨o, by
                  show (if W.bd a then none else H a) = _
                  rw [if_neg q3]
                  exact q2⟩)
              · exact .inr q2
            | own ds => exact absurd trivial nm
            | hp => exact e2
            | dic kvs => exact absurd trivial nm
            | ft ds => exact e2
      · have hn : n < (args i).length := by
          by_cases hn : n < (args i).length
          · exact hn
          · rw [List.getElem?_append_right (by rw [List.length_map]; omega)] at z1
            have := List.mem_of_getElem? z1
            have := (List.mem_replicate.mp this).2
            cases this
        rw [List.getElem?_append_left (by rw [List.length_map]; exact hn), List.getElem?_map] at z1
        cases e : (args i)[n]? with
        | none =>
          rw [e] at z1
          cases z1
        | some s0 =>
          rw [e] at z1
          have ez : s0 = s9 := Option.some.inj (Option.some.inj z1)
          subst ez
          exact absurd m1 (hm i s0 (List.mem_of_getElem? e))
    · refine ⟨fun B' δ' σ' H' l x n s => ?_, fun B' t v H' l x n s => ?_, fun _ _ _ _ _ _ z => z.elim, fun _ _ _ _ _ _ z => z.elim⟩
      · refine q (.d .non) .non H' ⟨fun b o nb z => s.sub b o nb (l b o ?_), s.j⟩ (.ofd rp_non) n
        show (if W.bd b then none else H b) = some o
        rw [if_neg nb]
        exact z
      · have fr : Fr W H H' := ⟨fun b o nb z => s.sub b o nb (l b o (by
          show (if W.bd b then none else H b) = some o
          rw [if_neg nb]
          exact z)), s.j⟩
        refine q t v H' fr ⟨s.at_.sv s.sub, fun m a e => ?_⟩ n
        have hb : B' a = none ∧ ¬ W.bd a := by
          have sa := s.at_
          cases t with
          | own ds =>
            obtain ⟨a', vs', q1, q2, q3, _⟩ := sa
            rw [q1] at e
            cases e
            exact ⟨q2, q3⟩
          | dic kvs =>
            obtain ⟨a', q1, q2, q3, _⟩ := sa
            rw [q1] at e
            cases e
            exact ⟨q2, q3⟩
          | d d => exact m.elim
          | l ds => exact m.elim
          | hp => exact m.elim
          | ft ds => exact m.elim
        have := l.back hb.1
        have h3 : (if W.bd a then none else H a) = none := this
        rw [if_neg hb.2] at h3
        exact h3
end NR
namespace NR
open PySem PySem.Spec PyProof.Rows L2
section
variable {X : Cx} {W : Wd} {e a b c elt tg iter : Expr} {es ifs : List Expr} {δ δ' : Env} {P P1 P2 P3 : S → Prop} {B B1 B2 : Bool → Prop} {pos : Pos}

/-! isinstance -/
def pyT : D → Option String
  | .non => some "NoneType"
  | .bl _ => some "bool"
  | .int _ => some "int"
  | .str _ => some "str"
  | .tup _ => some "tuple"
  | _ => none
theorem tyx_of {K : PySem.W.Frag} {H : Hp} {d : D} {v : V} {t : String} (h : Rp K H d v) (ht : pyT d = some t) : TyX K H v (.type t) := by
  cases d <;> simp only [Rp] at h <;> simp only [pyT, Option.some.injEq, reduceCtorEq] at ht
  · subst h ht; exact .base .non
  · subst h ht; exact .base (.bl _)
  · subst h ht; exact .base (.int _)
  · subst h ht; exact .base (.str _)
  · obtain ⟨a, vs, rfl, e, _⟩ := h
    subst ht
    exact .base (.tup e)
theorem cd_isi {d : D} {t T : String} {b : Bool} (ht : pyT d = some t) (hk : kitB t T = some b) : CbD X.K W (rIsi X.K) [.d d, .d (.ty T)] (· = .d (.bl b)) := .d2 (fun _ => rp_bl) fun x y H Q _ h1 h2 q => by
  have e2 : y = .ty T := by simpa only [SV, Rp] using h2
  subst e2
  exact ⟨x, .ty T, .type t, .type T, b, rfl, .ty T, tyx_of h1 ht, kit_ty hk, q⟩
/-- what isinstance asks of an own class -/
structure InsT (K : PySem.W.Frag) (C : Addr) : Prop where
  cl : Cls K C
  ha : PySem.W.findIn K (.ref C) "__class__" = some (some (.builtin "object.__class__"))
  hn : PySem.W.specialIn K (.builtin "object.__class__") "__get__" = some (some (.builtin "getset_descriptor.__get__"))
  htk : PySem.W.takesIn K (.builtin "object.__class__") = some true
  hm : PySem.W.mroIn K C (.type "object") = some true
theorem cd_isiC {C C' : Addr} {ns : List Str} {ds : List D} {b : Bool} (h : InsT X.K C) (hk : PySem.W.kitOne X.K (.ref C) (.ref C') = some b) : CbD X.K W (rIsi X.K) [.d (.ins C ns ds), .d (.cls C')] (· = .d (.bl b)) := .d2 (fun _ => rp_bl) fun x y H Q _ h1 h2 q => by
  have e2 : y = .ref C' := by simpa only [SV, Rp] using h2
  subst e2
  simp only [SV, Rp] at h1
  obtain ⟨p, dx, vs, rfl, e, _⟩ := h1
  exact ⟨.ref p, .ref C', .ref C, .ref C', b, rfl, .own C', .base (.ins e h.cl h.ha h.hn h.htk h.hm), hk, q⟩

/-! a ≤ b ≤ c -/
theorem at_chainLe {i j k : Int} (ha : AEq X W a δ (.d (.int i))) (hb : AEq X W b δ (.d (.int j))) (hc : AEq X W c δ (.d (.int k))) (hm : lastMarks [.LtE, .LtE] [b, c] = false) : ATq X W (.Compare a [.LtE, .LtE] [b, c] pos) δ (decide (i ≤ j) && decide (j ≤ k)) :=
  pt_weak (pt_chain op_le op_le ha hb hc hm) fun σ H Q ⟨q1, q2⟩ => ⟨q1, fun s1 x H1 f1 r1 z1 => ⟨q1.mono f1, fun s2 y H2 f2 r2 z2 => by
    subst z1 z2
    refine ⟨i, j, sv_int r1.1, sv_int r2.1, decide (i ≤ j), rfl, ?_⟩
    by_cases hij : i ≤ j
    · rw [if_pos (decide_eq_true hij)]
      refine ⟨(q1.mono f1).mono f2, fun s3 z H3 f3 r3 z3 => ?_⟩
      subst z3
      refine ⟨j, k, sv_int r2.1, sv_int r3.1, decide (j ≤ k), rfl, q2 _ H3 ((f1.trans f2).trans f3) ?_⟩
      rw [decide_eq_true hij]
      rfl
    · rw [if_neg (by rw [decide_eq_false hij]; decide)]
      refine ⟨false, rfl, q2 _ H2 (f1.trans f2) ?_⟩
      rw [decide_eq_false hij]
      rfl⟩⟩

/-! == and != with the empty tuple, the empty list -/
def rEqE (K : PySem.W.Frag) (n : Bool) : R2 := fun x y H Q => ∃ a b xs ys, x = .ref a ∧ y = .ref b ∧ ((SqT K H a xs ∧ SqT K H b ys) ∨ (SqL K H a xs ∧ SqL K H b ys)) ∧ ys = [] ∧ Q (.bl (if n then !xs.isEmpty else xs.isEmpty)) H
theorem empty_size {xs : List V} {its : List Value} (r : Vals xs its) : (its.toArray.size == 0) = xs.isEmpty := by
  have := r.length
  cases xs with
  | nil =>
    have e : its.toArray.size = 0 := by simpa using this.symm
    rw [e] <;> rfl
  | cons x xr =>
    have e : its.toArray.size = xr.length + 1 := by simpa using this.symm
    rw [e] <;> rfl
theorem op_eqE (hu : X.A.units + 64 < cLine) : OpR X (compareOp .Eq) (rEqE X.K false) := by
  intro pins s σ H x y v u Q I rx ry h
  obtain ⟨a, b, xs, ys, rfl, rfl, hq, rfl, q⟩ := h
  cases rx
  cases ry
  rcases hq with ⟨h1, h2⟩ | ⟨h1, h2⟩
  · obtain ⟨its, r1, t1, z1⟩ := I.tuple h1
    obtain ⟨jts, r2, t2, z2⟩ := I.tuple h2
    cases r2
    refine SeqAt.eq_tupleAt (e := fun _ => true) t1 t2 (by omega) (fun j h1 h2 => absurd h2 (Nat.not_lt_zero _)) ⟨.bl _, H, I, rfl, ?_⟩
    have e : ((List.range (min its.toArray.size ([] : List Value).toArray.size)).all (fun _ => true) && its.toArray.size == ([] : List Value).toArray.size) = xs.isEmpty := by
      show ((List.range (min its.toArray.size 0)).all (fun _ => true) && its.toArray.size == 0) = xs.isEmpty
      rw [Nat.min_zero, empty_size r1] <;> rfl
    rw [e]
    exact q
  · obtain ⟨its, r1, t1, z1⟩ := I.list h1
    obtain ⟨jts, r2, t2, z2⟩ := I.list h2
    cases r2
    cases xs with
    | nil =>
      cases r1
      exact SeqAt.eq_listAt (e := fun _ => true) t1.isList t2.isList rfl (by omega) (fun j h1 h2 => absurd h2 (Nat.not_lt_zero _)) ⟨.bl _, H, I, rfl, q⟩
    | cons x xr =>
      have e := empty_size r1
      refine SeqAt.eq_list_lengthsAt t1.isList t2.isList ?_ (by omega) ⟨.bl _, H, I, rfl, q⟩
      show (its.toArray.size != 0) = true
      rw [bne, e] <;> rfl
theorem op_neE (hu : X.A.units + 64 < cLine) : OpR X (compareOp .NotEq) (rEqE X.K true) := by
  intro pins s σ H x y v u Q I rx ry h
  obtain ⟨a, b, xs, ys, rfl, rfl, hq, rfl, q⟩ := h
  cases rx
  cases ry
  rcases hq with ⟨h1, h2⟩ | ⟨h1, h2⟩
  · obtain ⟨its, r1, t1, z1⟩ := I.tuple h1
    obtain ⟨jts, r2, t2, z2⟩ := I.tuple h2
    cases r2
    refine SeqAt.RcNeAt.tuples (e := fun _ => true) t1 t2 (by omega) (fun j h1 h2 => absurd h2 (Nat.not_lt_zero _)) _ _ _ _ ⟨.bl _, H, I, rfl, ?_⟩
    have e : (!((List.range (min its.toArray.size ([] : List Value).toArray.size)).all (fun _ => true) && its.toArray.size == ([] : List Value).toArray.size)) = !xs.isEmpty := by
      show (!((List.range (min its.toArray.size 0)).all (fun _ => true) && its.toArray.size == 0)) = !xs.isEmpty
      rw [Nat.min_zero, empty_size r1] <;> rfl
    rw [e]
    exact q
  · obtain ⟨its, r1, t1, z1⟩ := I.list h1
    obtain ⟨jts, r2, t2, z2⟩ := I.list h2
    cases r2
    cases xs with
    | nil =>
      cases r1
      exact SeqAt.RcNeAt.lists (e := fun _ => true) t1.isList t2.isList rfl (by omega) (fun j h1 h2 => absurd h2 (Nat.not_lt_zero _)) _ _ _ _ ⟨.bl _, H, I, rfl, q⟩
    | cons x xr =>
      have e := empty_size r1
      refine SeqAt.RcNeAt.lists_lengths t1.isList t2.isList ?_ (by omega) _ _ _ _ ⟨.bl _, H, I, rfl, q⟩
      show (its.toArray.size != 0) = true
      rw [bne, e] <;> rfl
theorem isEmpty_rp {K : PySem.W.Frag} {H : Hp} {ds : List D} {vs : List V} (h : RpL K H ds vs) : vs.isEmpty = ds.isEmpty := by
  have := h.len
  cases ds <;> cases vs <;> simp at this ⊢
theorem od_eqE {n : Bool} {s t : S} {ds : List D} (h : (s = .d (.tup ds) ∧ t = .d (.tup [])) ∨ ((s = .own ds ∨ s = .l ds) ∧ t = .own [])) : OpD X.K W (rEqE X.K n) s t (· = .d (.bl (if n then !ds.isEmpty else ds.isEmpty))) := .ofd (fun _ => rp_bl) fun x y H Q _ h1 h2 q => by
  rcases h with ⟨rfl, rfl⟩ | ⟨hs, rfl⟩
  · obtain ⟨a, vs, rfl, e1, e2⟩ := sv_tup h1
    obtain ⟨b, us, rfl, f1, f2⟩ := sv_tup h2
    simp only [RpL] at f2
    subst f2
    exact ⟨a, b, vs, [], rfl, rfl, .inl ⟨SqT.of e1, SqT.of f1⟩, rfl, by rw [isEmpty_rp e2]; exact q⟩
  · obtain ⟨a, vs, rfl, e1, e2⟩ := lst_of hs h1
    obtain ⟨b, us, rfl, f1, f2⟩ := lst_of (.inl rfl) h2
    simp only [RpL] at f2
    subst f2
    exact ⟨a, b, vs, [], rfl, rfl, .inr ⟨e1, f1⟩, rfl, by rw [isEmpty_rp e2]; exact q⟩
theorem at_eqET {k : Nat} {ds : List D} (o : Cok k X) (ha : AEq X W a δ (.d (.tup ds))) (hb : AEq X W b δ (.d (.tup []))) : ATq X W (.Compare a [.Eq] [b] pos) δ ds.isEmpty := at_cmp (op_eqE o.hu) ha hb (nb (by decide) (by decide)) (od_eqE (n := false) (.inl ⟨rfl, rfl⟩))
theorem at_neET {k : Nat} {ds : List D} (o : Cok k X) (ha : AEq X W a δ (.d (.tup ds))) (hb : AEq X W b δ (.d (.tup []))) : ATq X W (.Compare a [.NotEq] [b] pos) δ (!ds.isEmpty) := at_cmp (op_neE o.hu) ha hb (nb (by decide) (by decide)) (od_eqE (n := true) (.inl ⟨rfl, rfl⟩))
theorem ae_neET {k : Nat} {ds : List D} (o : Cok k X) (ha : AEq X W a δ (.d (.tup ds))) (hb : AEq X W b δ (.d (.tup []))) : AEq X W (.Compare a [.NotEq] [b] pos) δ (.d (.bl (!ds.isEmpty))) := ae_cmp (op_neE o.hu) ha hb (nb (by decide) (by decide)) (od_eqE (n := true) (.inl ⟨rfl, rfl⟩))
theorem at_eqEL {k : Nat} {s : S} {ds : List D} (o : Cok k X) (ha : AEq X W a δ s) (hb : AEq X W b δ (.own [])) (hs : s = .own ds ∨ s = .l ds) : ATq X W (.Compare a [.Eq] [b] pos) δ ds.isEmpty := at_cmp (op_eqE o.hu) ha hb (nb (by decide) (by decide)) (od_eqE (n := false) (.inr ⟨hs, rfl⟩))
theorem ae_eqEL {k : Nat} {s : S} {ds : List D} (o : Cok k X) (ha : AEq X W a δ s) (hb : AEq X W b δ (.own [])) (hs : s = .own ds ∨ s = .l ds) : AEq X W (.Compare a [.Eq] [b] pos) δ (.d (.bl ds.isEmpty)) := ae_cmp (op_eqE o.hu) ha hb (nb (by decide) (by decide)) (od_eqE (n := false) (.inr ⟨hs, rfl⟩))
theorem at_neEL {k : Nat} {s : S} {ds : List D} (o : Cok k X) (ha : AEq X W a δ s) (hb : AEq X W b δ (.own [])) (hs : s = .own ds ∨ s = .l ds) : ATq X W (.Compare a [.NotEq] [b] pos) δ (!ds.isEmpty) := at_cmp (op_neE o.hu) ha hb (nb (by decide) (by decide)) (od_eqE (n := true) (.inr ⟨hs, rfl⟩))

/-! tuples of ints as data -/
theorem dp_int1 {K : PySem.W.Frag} {H : Hp} : ∀ (ns : List Int), DpAll K H (ns.map V.int) (ns.map PyData.int)
  | [] => .nil
  | n :: ns => .cons (.int n) (dp_int1 ns)
def pyI (ns : List Int) : PyData := .tuple (ns.map PyData.int)
theorem dp_ints {K : PySem.W.Frag} {H : Hp} {ns : List Int} {v : V} (h : Rp K H (.tup (ns.map D.int)) v) : Dp K H v (pyI ns) := by
  simp only [Rp] at h
  obtain ⟨a, vs, rfl, e1, e2⟩ := h
  rw [RpL.ints e2] at e1
  exact .tup (SqT.of e1) (dp_int1 ns)
theorem lay_int1 : ∀ ns : List Int, PyData.canLayAll0 (ns.map PyData.int) = true
  | [] => by simp [PyData.canLayAll0]
  | n :: ns => by simp [PyData.canLayAll0, PyData.canLay0, lay_int1 ns]
theorem depth_int1 : ∀ ns : List Int, PyData.depthAll (ns.map PyData.int) ≤ 1
  | [] => by simp [PyData.depthAll]
  | n :: ns => by
    have := depth_int1 ns
    simp [PyData.depthAll, PyData.depth]
    omega
theorem pyI_lay (ns : List Int) : (pyI ns).canLay0 = true := by simp [pyI, PyData.canLay0, lay_int1 ns]
theorem pyI_depth (ns : List Int) : (pyI ns).depth ≤ 2 := by
  have := depth_int1 ns
  simp [pyI, PyData.depth]
  omega
theorem pyI_shaped (ns : List Int) : SeqAt.shaped (pyI ns) = true := by
  have := pyI_depth ns
  simp [SeqAt.shaped, pyI_lay]
  omega
theorem eqv_int1 : ∀ (ns ms : List Int), PyData.eqvAll (ns.map PyData.int) (ms.map PyData.int) = decide (ns = ms)
  | [], [] => by simp [PyData.eqvAll]
  | [], _ :: _ => by simp [PyData.eqvAll]
  | _ :: _, [] => by simp [PyData.eqvAll]
  | n :: ns, m :: ms => by
    simp only [List.map_cons, PyData.eqvAll, eqv_int1 ns ms]
    by_cases h : n = m
    · subst h
      simp [PyData.eqv]
    · simp [PyData.eqv, h]
theorem eqv_pyI (ns ms : List Int) : PyData.eqv (pyI ns) (pyI ms) = decide (ns = ms) := by
  unfold pyI
  rw [PyData.eqv, eqv_int1]
theorem od_eqTI {ns ms : List Int} : OpD X.K W (rEqD X.K) (.d (.tup (ns.map D.int))) (.d (.tup (ms.map D.int))) (· = .d (.bl (decide (ns = ms)))) := .ofd (fun _ => rp_bl) fun x y H Q _ h1 h2 q =>
  ⟨pyI ns, pyI ms, dp_ints h1, dp_ints h2, pyI_shaped ns, pyI_shaped ms, by rw [eqv_pyI]; exact q⟩
theorem od_neTI {ns ms : List Int} : OpD X.K W (rNeD X.K) (.d (.tup (ns.map D.int))) (.d (.tup (ms.map D.int))) (· = .d (.bl (!decide (ns = ms)))) := .ofd (fun _ => rp_bl) fun x y H Q _ h1 h2 q =>
  ⟨pyI ns, pyI ms, dp_ints h1, dp_ints h2, pyI_shaped ns, pyI_shaped ms, by rw [eqv_pyI]; exact q⟩
theorem at_eqTI {k : Nat} {ns ms : List Int} (o : Cok k X) (ha : AEq X W a δ (.d (.tup (ns.map D.int)))) (hb : AEq X W b δ (.d (.tup (ms.map D.int)))) : ATq X W (.Compare a [.Eq] [b] pos) δ (decide (ns = ms)) := at_cmp (op_eqD o.hu) ha hb (nb (by decide) (by decide)) od_eqTI
theorem at_neTI {k : Nat} {ns ms : List Int} (o : Cok k X) (ha : AEq X W a δ (.d (.tup (ns.map D.int)))) (hb : AEq X W b δ (.d (.tup (ms.map D.int)))) : ATq X W (.Compare a [.NotEq] [b] pos) δ (!decide (ns = ms)) := at_cmp (op_neD o.hu) ha hb (nb (by decide) (by decide)) od_neTI

/-! a tuple of tuples of ints -/
def tupI (ns : List Int) : D := .tup (ns.map D.int)
theorem dp_tups {K : PySem.W.Frag} {H : Hp} : ∀ {xs : List (List Int)} {vs : List V}, RpL K H (xs.map tupI) vs → DpAll K H vs (xs.map pyI)
  | [], _, h => by
    simp only [List.map_nil, RpL] at h
    subst h
    exact .nil
  | x :: xs, _, h => by
    simp only [List.map_cons, RpL] at h
    obtain ⟨v, r, rfl, e1, e2⟩ := h
    exact .cons (dp_ints e1) (dp_tups e2)
theorem lay_tups : ∀ xs : List (List Int), PyData.canLayAll0 (xs.map pyI) = true
  | [] => by simp [PyData.canLayAll0]
  | n :: ns => by simp [PyData.canLayAll0, pyI_lay, lay_tups ns]
theorem depth_tups : ∀ xs : List (List Int), PyData.depthAll (xs.map pyI) ≤ 2
  | [] => by simp [PyData.depthAll]
  | n :: ns => by
    have := depth_tups ns
    have := pyI_depth n
    simp [PyData.depthAll]
    omega
/-- a tuple, as it is or as it is known -/
def IsT (s : S) (ds : List D) : Prop := s = .d (.tup ds) ∨ s = .ft ds
theorem sv_isT {K : PySem.W.Frag} {H : Hp} {s : S} {ds : List D} {v : V} (i : IsT s ds) (h : SV K W s v H) : ∃ a vs, v = .ref a ∧ SqT K H a vs ∧ RpL K H ds vs := by
  rcases i with rfl | rfl
  · obtain ⟨a, vs, e1, e2, e3⟩ := sv_tup h
    exact ⟨a, vs, e1, SqT.of e2, e3⟩
  · obtain ⟨a, vs, o, e1, e2, _, e3⟩ := h
    exact ⟨a, vs, e1, .inl (.inr ⟨o, e2⟩), e3⟩
def rInTT (K : PySem.W.Frag) (n : Bool) : R2 := fun x y H Q => ∃ d ds, Dp K H x d ∧ Dp K H y (.tuple ds) ∧ d.canLay0 = true ∧ PyData.canLayAll0 ds = true ∧ d.depth ≤ 2 ∧ Q (.bl (if n then !(ds.any fun z => PyData.eqv z d) else ds.any fun z => PyData.eqv z d)) H
theorem op_inTT (hu : X.A.units + 64 < cLine) : OpR X (compareOp .In) (rInTT X.K false) := by
  intro pins s σ H x y v u Q I rx ry h
  obtain ⟨d, ds, hd, he, sd, se, hz, q⟩ := h
  obtain ⟨as, r1⟩ := Dp.reads I d x v hd rx
  obtain ⟨bs, r2⟩ := Dp.reads I (.tuple ds) y u he ry
  exact SeqAt.in_tuple_reads r2 r1 se sd (by omega) ⟨.bl _, H, I, rfl, q⟩
theorem op_niTT (hu : X.A.units + 64 < cLine) : OpR X (compareOp .NotIn) (rInTT X.K true) := by
  intro pins s σ H x y v u Q I rx ry h
  obtain ⟨d, ds, hd, he, sd, se, hz, q⟩ := h
  obtain ⟨as, r1⟩ := Dp.reads I d x v hd rx
  obtain ⟨bs, r2⟩ := Dp.reads I (.tuple ds) y u he ry
  exact SeqAt.notIn_tuple_reads r2 r1 se sd (by omega) ⟨.bl _, H, I, rfl, q⟩
theorem any_pyI (n : List Int) (xs : List (List Int)) : (xs.map pyI).any (fun z => PyData.eqv z (pyI n)) = decide (n ∈ xs) := by
  rw [List.any_map]
  by_cases h : n ∈ xs
  · rw [decide_eq_true h]
    exact List.any_eq_true.mpr ⟨n, h, by show PyData.eqv (pyI n) (pyI n) = true; rw [eqv_pyI]; simp⟩
  · rw [decide_eq_false h]
    refine List.any_eq_false.mpr fun x hx z => h ?_
    have z' : PyData.eqv (pyI x) (pyI n) = true := z
    rw [eqv_pyI] at z'
    exact of_decide_eq_true z' ▸ hx
theorem at_niTT {k : Nat} {n : List Int} {xs : List (List Int)} {s : S} (o : Cok k X) (ha : AEq X W a δ (.d (tupI n))) (hb : AEq X W b δ s) (hs : IsT s (xs.map tupI)) (hm : behindInMarks .NotIn b = false) : ATq X W (.Compare a [.NotIn] [b] pos) δ (!decide (n ∈ xs)) :=
  at_cmp (op_niTT o.hu) ha hb hm (.ofd (fun _ => rp_bl) fun x y H Q _ h1 h2 q => by
    obtain ⟨a, vs, rfl, e1, e2⟩ := sv_isT hs h2
    exact ⟨pyI n, xs.map pyI, dp_ints h1, .tup e1 (dp_tups e2), pyI_lay n, lay_tups xs, pyI_depth n, by rw [any_pyI]; exact q⟩)

/-! xs.index(k) of a list of ints; t.index(k) of a tuple of tuples of ints -/
theorem ae_indexI {n : Int} {ns : List Int} {s : S} {apos cpos : Pos} (ha : AEq X W a δ s) (hs : s = .own (ns.map D.int) ∨ s = .l (ns.map D.int)) (hb : AEq X W b δ (.d (.int n))) (hn : n ∈ ns)
    (hbase : attributeBase a "index" X.env (eval a X.env) = eval a X.env)
    (hfew : ((backTo cpos (starEach [b] X.env)).all (fun x => !x.1) && (backToKw cpos (keywordEach [] X.env)).all (fun x => x.1.isSome) && decide ([b].length + ([] : List Keyword).length + (if ([] : List Keyword).isEmpty then 0 else 1) < 30)) = true)
    (hline : (apos.endLine == cpos.line) = true) (hst : starEach [b] X.env = (false, eval b X.env) :: starEach [] X.env) (hpl : (backTo cpos (starEach [] X.env)).any (·.1) = false) :
    AEq X W (.Call (.Attribute a "index" apos) [b] [] cpos) δ (.d (.int ((ns.idxOf n : Nat) : Int))) :=
  pe_weak (pe_bm PySem.F.plainAttrs_list PySem.F.slot_list_index PySem.F.type_list_index mt_index ha (pa_cons hb pa_nil hst) hbase hfew hline hst hpl) fun σ H Q ⟨q1, q2⟩ => ⟨q1, fun s1 v H1 f1 r1 z1 => by
    subst z1
    obtain ⟨p, vs, rfl, e1, e2⟩ := lst_of hs r1.1
    rw [RpL.ints e2] at e1
    refine ⟨.inl ⟨rfl, _, e1⟩, q1.mono f1, fun s2 w H2 f2 r2 z2 => ?_⟩
    subst z2
    rw [sv_int r2.1]
    have e3 : SqL X.K H2 p (ns.map V.int) := by
      have hb : ¬ W.bd p := by
        rcases hs with rfl | rfl
        · obtain ⟨a', vs', z, _, nb, _⟩ := r1.1
          cases z
          exact nb
        · obtain ⟨a', vs', z, _, nb, _⟩ := r1.1
          cases z
          exact nb
      exact sql_fr f2 hb e1
    have hj : ns.idxOf n < ns.length := List.idxOf_lt_length_iff.mpr hn
    refine ⟨p, ns.map V.int, .int n, ns.idxOf n, .int n, rfl, rfl, e3, rfl, flat_ints ns, ?_, ?_, fun m z' hm hz' => ?_, q2 _ _ H2 (f1.trans f2) (.ofd rp_int) rfl⟩
    · rw [List.getElem?_map, List.getElem?_eq_getElem hj, List.getElem_idxOf hj] <;> rfl
    · show (n == n) = true
      simp
    · rw [List.getElem?_map] at hz'
      have hml : m < ns.length := by omega
      rw [List.getElem?_eq_getElem hml] at hz'
      cases hz'
      show (ns[m] == n) = false
      have := List.not_of_lt_findIdx (p := fun x => x == n) (xs := ns) (i := m) hm
      simpa using this⟩
/-- the first place -/
def idxT (n : List Int) (xs : List (List Int)) : Nat := @List.idxOf (List Int) instBEqOfDecidableEq n xs
theorem ae_indexT {k : Nat} {n : List Int} {xs : List (List Int)} {apos cpos : Pos} (o : Cok k X) (ha : AEq X W a δ (.ft (xs.map tupI))) (hb : AEq X W b δ (.d (tupI n))) (hn : n ∈ xs)
    (hbase : attributeBase a "index" X.env (eval a X.env) = eval a X.env)
    (hfew : ((backTo cpos (starEach [b] X.env)).all (fun x => !x.1) && (backToKw cpos (keywordEach [] X.env)).all (fun x => x.1.isSome) && decide ([b].length + ([] : List Keyword).length + (if ([] : List Keyword).isEmpty then 0 else 1) < 30)) = true)
    (hline : (apos.endLine == cpos.line) = true) (hst : starEach [b] X.env = (false, eval b X.env) :: starEach [] X.env) (hpl : (backTo cpos (starEach [] X.env)).any (·.1) = false) :
    AEq X W (.Call (.Attribute a "index" apos) [b] [] cpos) δ (.d (.int ((idxT n xs : Nat) : Int))) := by
  refine ⟨fun pins s σ H Q I h => ?_⟩
  obtain ⟨q1, q2⟩ := h
  have h0 : cE X.K W δ (fun t => t = .ft (xs.map tupI)) σ H (fun x H1 => SR X.K W δ σ H1 ∧ Fr W H H1 ∧ ∃ p vs ob, x = .ref p ∧ H1 p = some (.frz ob (.tup vs)) ∧ ob.dict = none ∧ RpL X.K H1 (xs.map tupI) vs) := ⟨q1, fun s v H1 f r z => by
    subst z
    obtain ⟨p, vs, ob, e1, e2, e3, e4⟩ := r.1
    exact ⟨q1.mono f, f, p, vs, ob, e1, e2, e3, e4⟩⟩
  refine wpAny_Call_method_late hbase hfew hline rfl (thn (ha.run pins s σ H _ I h0) fun v s1 ⟨x, H1, I1, r1, q3, f1, p, vs, ob, e1, e2, e3, e4⟩ => ?_)
  subst e1
  cases r1
  obtain ⟨hob, hot⟩ := (show ObjOk X.prog X.w H1 s1.heap p (.frz ob (.tup vs)) from I1.hok p _ e2)
  obtain ⟨hz, its, rv, tt⟩ := hot
  have hty : s1.TypeIs (.ref p) "tuple" := by
    obtain ⟨o2, h1, h2, _⟩ := id tt
    exact ⟨o2, h1, h2⟩
  refine ⟨"tuple", "tuple.index", PySem.F.plainAttrs_tuple, PySem.F.slot_tuple_index, PySem.F.type_tuple_index, hty, fun a e => ?_, ?_⟩
  · cases e
    exact ⟨ob, hob, e3⟩
  have h2 : cA X.K W δ (fun t => t = [.d (tupI n)]) σ H1 (fun us H2 => ∃ w, us = [w] ∧ Fr W H1 H2 ∧ Rp X.K H2 (tupI n) w) := ⟨q3, fun ss us H2 f r z => by
    subst z
    cases r with
    | cons ra rb =>
      cases rb
      exact ⟨_, rfl, f, ra.1⟩⟩
  have hA := (aa_cons hb aa_nil hst : AAq X W [b] δ [.d (tupI n)]).run cpos pins s1 σ H1 _ I1 h2
  rw [hst] at hA ⊢
  refine Calls.callWith_builtin (by show (false || (backTo cpos (starEach [] X.env)).any (·.1)) = false; rw [hpl] <;> rfl) (Calls.evalArgs_plain ?_)
  refine thn hA fun us s2 ⟨ws, H2, I2, r2, w, ew, f2, rw2⟩ => ?_
  subst ew
  obtain ⟨uv, eu, ru⟩ := vals1 r2
  subst eu
  · have _ := 0
    obtain ⟨as, rd⟩ := Dp.reads I2 (pyI n) w uv (dp_ints rw2) ru
    have e5 : H2 p = some (.frz ob (.tup vs)) := f2.ext q3.j _ _ e2 trivial
    obtain ⟨its2, rv2, tt2, _⟩ := I2.tuple (show SqT X.K H2 p vs from .inl (.inr ⟨ob, e5⟩))
    obtain ⟨bs, rr⟩ := Dp.readsAll I2 (xs.map pyI) vs its2 (dp_tups (RpL.mono (f2.ext q3.j) _ _ e4)) rv2
    have hhu := o.hu
    have hmap : its2.map (SeqAt.readOf s2.heap) = xs.map pyI := SeqAt.readsAll_map (xs.map pyI) its2 bs (lay_tups xs) rr
    have hlen : its2.length = xs.length := by
      have := congrArg List.length hmap
      simpa using this
    refine SeqAt.call_tuple_index (ks := xs) (k := n) (show s2.heap.IsTuple p its2.toArray from tt2) ⟨hlen, fun j h1 h2 => ?_⟩ hn ⟨.int _, H2, I2.tok _, ⟨_, rfl⟩, q2 _ _ H2 (f1.trans f2) (.ofd rp_int) rfl⟩
    have hj := SeqAt.items_eqAt (A := X.A) (vs := its2.toArray) (show ReadsAll s2.heap its2.toArray.toList (xs.map pyI) bs from rr) rd (lay_tups xs) (pyI_lay n) (by
      have := depth_tups xs
      have := pyI_depth n
      show X.A.units + 1 + _ < _
      omega) its2[j] (by simp)
    have e6 : SeqAt.readOf s2.heap its2[j] = pyI xs[j] := by
      have h3 : (its2.map (SeqAt.readOf s2.heap))[j]? = (xs.map pyI)[j]? := by rw [hmap]
      rw [List.getElem?_map, List.getElem?_map, List.getElem?_eq_getElem h1, List.getElem?_eq_getElem h2] at h3
      exact Option.some.inj h3
    rw [e6, eqv_pyI] at hj
    exact hj
end
end NR
namespace NR
open PySem PySem.Spec PyProof.Rows L2
/-! short words: the same rules, their small premises filled by rfl -/
section
variable {X : Cx} {W : Wd} {e a b c elt tg iter : Expr} {es ifs : List Expr} {δ δ' : Env} {P P1 P2 P3 : S → Prop} {B B1 B2 : Bool → Prop} {pos : Pos} {st : Stmt} {rest body : List Stmt} {p q : Post}
theorem vv (i : Nat) {x : Str} {s : S} (hs : δ[i]? = some (some s) := by rfl) (hm : ¬ Mutb s := by exact id) (hN : X.N[i]? = some x := by rfl) (hv : Vis X.env.scope x := by first | exact Or.inl rfl | exact Or.inr (Or.inl rfl) | exact Or.inr (Or.inr rfl)) (hd : (x == ("__debug__" : Str)) = false := by decide)
    (hc : (x == ("__classdict__" : Str)) = false := by decide) : AEq X W (.Name x pos) δ s := ae_var hs hm hN hv hd hc
theorem vo (i : Nat) {x : Str} {ds : List D} (hs : δ[i]? = some (some (.own ds)) := by rfl) (hN : X.N[i]? = some x := by rfl) (hv : Vis X.env.scope x := by first | exact Or.inl rfl | exact Or.inr (Or.inl rfl) | exact Or.inr (Or.inr rfl)) (hd : (x == ("__debug__" : Str)) = false := by decide)
    (hc : (x == ("__classdict__" : Str)) = false := by decide) : AEq X W (.Name x pos) δ (.l ds) := ae_varO hs hN hv hd hc
theorem wGi {x : Str} {i : Int} {t : Tok} (hm : X.mg x = some (.int i t)) (hg : Gl X x := by rfl) (hd : (x == ("__debug__" : Str)) = false := by decide) : AEq X W (.Name x pos) δ (.d (.int i)) := ae_gint hg hm hd
theorem wGs {x : Str} {i : Str} {t : Tok} (hm : X.mg x = some (.str i t)) (hg : Gl X x := by rfl) (hd : (x == ("__debug__" : Str)) = false := by decide) : AEq X W (.Name x pos) δ (.d (.str i)) := ae_gstr hg hm hd
theorem wCls {x : Str} {C : Addr} (hm : X.mg x = some (.ref C)) (hg : Gl X x := by rfl) (hd : (x == ("__debug__" : Str)) = false := by decide) : AEq X W (.Name x pos) δ (.d (.cls C)) := ae_gcls hg hm hd
theorem wTy {x : Str} {n : String} (hm : X.mg x = none) (hv : bootBuiltins x = some (.type n)) (hg : Gl X x := by rfl) (hn : x ≠ "__name__" := by decide) (hd : (x == ("__debug__" : Str)) = false := by decide) : AEq X W (.Name x pos) δ (.d (.ty n)) := ae_gty hg hm hv hn hd
theorem wIx {s : S} {ds : List D} (j : Nat) {i : Int} {d : D} (ha : AEq X W a δ s) (hb : AEq X W b δ (.d (.int i))) (hs : IsSeq s ds) (h : ds[j]? = some d) (hi : i = (j : Int) := by rfl) (hp : PlainIx b := by exact fun _ _ => rfl) : AEq X W (.Subscript a b pos) δ (.d d) := ae_ix ha hb hp hs hi h
theorem wFld {C : Addr} {ns : List Str} {ds : List D} {f : Str} {d : D} (ha : AEq X W a δ (.d (.ins C ns ds))) (hc : Cls X.K C) (hn : NoAttr X.K C f) (hl : (ns.zip ds).lookup f = some d := by rfl) (hb : attributeBase a f X.env (eval a X.env) = eval a X.env := by rfl) : AEq X W (.Attribute a f pos) δ (.d d) := ae_fld ha hc hn hl hb
theorem aa1 {s : S} (ha : AEq X W a δ s) (hs : starEach [a] X.env = (false, eval a X.env) :: starEach [] X.env := by rfl) : AAq X W [a] δ [s] := aa_cons ha aa_nil hs
theorem aa2 {s t : S} (ha : AEq X W a δ s) (hb : AEq X W b δ t) (hs : starEach [a, b] X.env = (false, eval a X.env) :: starEach [b] X.env := by rfl) (hs2 : starEach [b] X.env = (false, eval b X.env) :: starEach [] X.env := by rfl) : AAq X W [a, b] δ [s, t] := aa_cons ha (aa_cons hb aa_nil hs2) hs
theorem aa3 {s t u : S} (ha : AEq X W a δ s) (hb : AEq X W b δ t) (hc : AEq X W c δ u) (hs : starEach [a, b, c] X.env = (false, eval a X.env) :: starEach [b, c] X.env := by rfl) (hs2 : starEach [b, c] X.env = (false, eval b X.env) :: starEach [c] X.env := by rfl)
    (hs3 : starEach [c] X.env = (false, eval c X.env) :: starEach [] X.env := by rfl) : AAq X W [a, b, c] δ [s, t, u] := aa_cons ha (aa_cons hb (aa_cons hc aa_nil hs3) hs2) hs
/-- built-in functions -/
theorem wB {x : Str} {pn : Pos} {id : String} {r : List V → Hp → VK → Prop} {ss : List S} (hc : CallR X (.builtin id) r) (hv : bootBuiltins x = some (.builtin id)) (hm : X.mg x = none) (ha : AAq X W (e :: es) δ ss) (hr : CbD X.K W r ss P)
    (hg : Gl X x := by rfl) (hn : x ≠ "__name__" := by decide) (hd : (x == ("__debug__" : Str)) = false := by decide) (he : starEach (e :: es) X.env = (false, eval e X.env) :: starEach es X.env := by rfl) (hp : (backTo pos (starEach es X.env)).any (·.1) = false := by rfl) :
    AE X W (.Call (.Name x pn) (e :: es) [] pos) δ P := ae_cb hc hg hm hv ha hr hn hd he hp
theorem wT {x : Str} {pn : Pos} {T : String} {r : List V → Hp → VK → Prop} {ss : List S} (hc : CallR X (.type T) r) (hv : bootBuiltins x = some (.type T)) (hm : X.mg x = none) (ha : AAq X W (e :: es) δ ss) (hr : CbD X.K W r ss P)
    (hg : Gl X x := by rfl) (hn : x ≠ "__name__" := by decide) (hd : (x == ("__debug__" : Str)) = false := by decide) (he : starEach (e :: es) X.env = (false, eval e X.env) :: starEach es X.env := by rfl) (hp : (backTo pos (starEach es X.env)).any (·.1) = false := by rfl) :
    AE X W (.Call (.Name x pn) (e :: es) [] pos) δ P := ae_ct hc hg hm hv ha hr hn hd he hp
theorem wLen {s : S} {ds : List D} {pn : Pos} (hm : X.mg "len" = none) (ha : AEq X W a δ s) (hs : IsSeq s ds) (hg : Gl X "len" := by rfl) (he : starEach [a] X.env = (false, eval a X.env) :: starEach [] X.env := by rfl) (hp : (backTo pos (starEach [] X.env)).any (·.1) = false := by rfl) :
    AEq X W (.Call (.Name "len" pn) [a] [] pos) δ (.d (.int (ds.length : Int))) := ae_cb call_len_seq hg hm PySem.boot_len (aa1 ha he) (cd_len hs) (by decide) (by decide) he hp
theorem wLenS {z : Str} {pn : Pos} (hm : X.mg "len" = none) (ha : AEq X W a δ (.d (.str z))) (hz : z.length ≤ sizeLine) (hg : Gl X "len" := by rfl) (he : starEach [a] X.env = (false, eval a X.env) :: starEach [] X.env := by rfl) (hp : (backTo pos (starEach [] X.env)).any (·.1) = false := by rfl) :
    AEq X W (.Call (.Name "len" pn) [a] [] pos) δ (.d (.int (z.length : Int))) := ae_cb call_len_str hg hm PySem.boot_len (aa1 ha he) (cd_lenS hz) (by decide) (by decide) he hp
theorem wAll {k : Nat} {s : S} {bs : List Bool} {pn : Pos} (o : Cok k X) (hm : X.mg "all" = none) (ha : AEq X W a δ s) (hs : s = .own (bs.map D.bl) ∨ s = .l (bs.map D.bl)) (hg : Gl X "all" := by rfl) (he : starEach [a] X.env = (false, eval a X.env) :: starEach [] X.env := by rfl) (hp : (backTo pos (starEach [] X.env)).any (·.1) = false := by rfl) :
    AEq X W (.Call (.Name "all" pn) [a] [] pos) δ (.d (.bl (bs.all id))) := ae_cb (cr_all o.calm) hg hm PyProof.Rows.boot_all (aa1 ha he) (cd_all hs) (by decide) (by decide) he hp
theorem wAny {k : Nat} {s : S} {bs : List Bool} {pn : Pos} (o : Cok k X) (hm : X.mg "any" = none) (ha : AEq X W a δ s) (hs : s = .own (bs.map D.bl) ∨ s = .l (bs.map D.bl)) (hg : Gl X "any" := by rfl) (he : starEach [a] X.env = (false, eval a X.env) :: starEach [] X.env := by rfl) (hp : (backTo pos (starEach [] X.env)).any (·.1) = false := by rfl) :
    AEq X W (.Call (.Name "any" pn) [a] [] pos) δ (.d (.bl (bs.any id))) := ae_cb (cr_any o.calm) hg hm PyProof.Rows.boot_any (aa1 ha he) (cd_any hs) (by decide) (by decide) he hp
theorem wIsi {d : D} {t T : String} (k : Bool) {pn : Pos} (hm : X.mg "isinstance" = none) (ha : AEq X W a δ (.d d)) (hb : AEq X W b δ (.d (.ty T))) (ht : pyT d = some t := by rfl) (hk : kitB t T = some k := by decide +kernel) (hg : Gl X "isinstance" := by rfl)
    (he : starEach [a, b] X.env = (false, eval a X.env) :: starEach [b] X.env := by rfl) (hs2 : starEach [b] X.env = (false, eval b X.env) :: starEach [] X.env := by rfl) (hp : (backTo pos (starEach [b] X.env)).any (·.1) = false := by rfl) :
    AEq X W (.Call (.Name "isinstance" pn) [a, b] [] pos) δ (.d (.bl k)) := ae_cb call_isi hg hm PyProof.Rows.boot_isinstance (aa2 ha hb he hs2) (cd_isi ht hk) (by decide) (by decide) he hp
theorem wTup {s : S} {ds : List D} {pn : Pos} (hm : X.mg "tuple" = none) (ha : AEq X W a δ s) (hs : s = .own ds ∨ s = .l ds) (hg : Gl X "tuple" := by rfl) (na : starEach [a] X.env = (false, eval a X.env) :: starEach [] X.env := by rfl) : AEq X W (.Call (.Name "tuple" pn) [a] [] pos) δ (.d (.tup ds)) := ae_tuple ha hs hg hm na
theorem wTupG {pn : Pos} (hm : X.mg "tuple" = none) (ha : AE X W a δ P1) (hs : ∀ s, P1 s → ∃ ds, (s = .own ds ∨ s = .l ds) ∧ P (.d (.tup ds))) (hg : Gl X "tuple" := by rfl) (na : starEach [a] X.env = (false, eval a X.env) :: starEach [] X.env := by rfl) : AE X W (.Call (.Name "tuple" pn) [a] [] pos) δ P := ae_tupleG ha hs hg hm na
theorem wR1 {n : Nat} {i : Int} {pn : Pos} (hm : X.mg "range" = none) (ha : AEq X W a δ (.d (.int i))) (hn : n ≤ 1000000) (hi : i = (n : Int) := by rfl) (hg : Gl X "range" := by rfl) (hs : starEach [a] X.env = [(false, eval a X.env)] := by rfl) :
    AI0 X W tg (.Call (.Name "range" pn) [a] [] pos) δ ((List.range n).map fun i : Nat => D.int (i : Int)) := ai_range1 ha hi hn hg hm hs
theorem wName {i : Nat} {k : Nat} {x : Str} {d : D} (o : Cok k X) (hi : X.N[i]? = some x := by rfl) (hx : Loc X.env.scope x := by first | exact Or.inl rfl | exact Or.inr rfl) (hf : X.fn x = true ∨ X.env.scope.names.lookup x = some .local := by first | exact .inl rfl | exact .inr rfl) : AG X (.Name x pos) [i] d (fun δ => δ.set i (some (.d d))) := ag_name o.nd hi hx hf
theorem atv {k : Bool} (h : AEq X W e δ (.d (.bl k))) (he : ∀ whole, isTrue e X.env whole = (do let v ← whole; standAt e.pos; holding [v] (truthy v)) := by intro _; rfl) : ATq X W e δ k := at_v h he
theorem wInI {i : Int} {s : S} {ns : List Int} (ha : AEq X W a δ (.d (.int i))) (hb : AEq X W b δ s) (hs : IsSeq s (ns.map D.int)) (hm : behindInMarks .In b = false := by rfl) : AEq X W (.Compare a [.In] [b] pos) δ (.d (.bl (decide (i ∈ ns)))) := ae_inI ha hb hs hm
theorem tInI {i : Int} {s : S} {ns : List Int} (ha : AEq X W a δ (.d (.int i))) (hb : AEq X W b δ s) (hs : IsSeq s (ns.map D.int)) (hm : behindInMarks .In b = false := by rfl) : ATq X W (.Compare a [.In] [b] pos) δ (decide (i ∈ ns)) := at_inI ha hb hs hm
theorem wNiI {i : Int} {s : S} {ns : List Int} (ha : AEq X W a δ (.d (.int i))) (hb : AEq X W b δ s) (hs : IsSeq s (ns.map D.int)) (hm : behindInMarks .NotIn b = false := by rfl) : AEq X W (.Compare a [.NotIn] [b] pos) δ (.d (.bl (!decide (i ∈ ns)))) := ae_niI ha hb hs hm
theorem tNiI {i : Int} {s : S} {ns : List Int} (ha : AEq X W a δ (.d (.int i))) (hb : AEq X W b δ s) (hs : IsSeq s (ns.map D.int)) (hm : behindInMarks .NotIn b = false := by rfl) : ATq X W (.Compare a [.NotIn] [b] pos) δ (!decide (i ∈ ns)) := at_niI ha hb hs hm
theorem wInS {k : Nat} {z : Str} (ha : AEq X W a δ (.d (.str ⟨#[k]⟩))) (hb : AEq X W b δ (.d (.str z))) (hm : behindInMarks .In b = false := by rfl) : AEq X W (.Compare a [.In] [b] pos) δ (.d (.bl (decide (k ∈ z.cps.toList)))) := ae_inSign ha hb hm
theorem wRet {s : S} (h : AEq X W e δ s) (hP : p.R s) (hl : ∀ ds, s ≠ .l ds := by exact fun _ h => nomatch h) : AS X W (.Return (some e) pos) δ p := as_ret h fun _ z => z ▸ ⟨hl, hP⟩
theorem wRetG (h : AE X W e δ P) (hP : ∀ s, P s → (∀ ds, s ≠ .l ds) ∧ p.R s) : AS X W (.Return (some e) pos) δ p := as_ret h hP
/-- a comprehension, its block's names told -/
theorem wLc {α : Type} {k : Nat} {xs : List α} {enc : α → D} {scope : Scope} (own : List (Str × Nat)) {ix : List Nat} (t : α → Bool) (g : α → D) (up : α → Env → Env) (o : Cok k X) (hlen : xs.length ≤ 100000) (hi : AI X W tg iter δ (xs.map enc))
    (hg : ∀ (s : Shared) (H : Hp) (C : Addr) (cl : List (Str × Addr)) (fp : List Addr) x, AG (X.blk s H scope (compEnvC scope cl C X.env) fp) tg ix (enc x) (up x))
    (ht : ∀ (s : Shared) (H : Hp) (C : Addr) (cl : List (Str × Addr)) (fp : List Addr) x, x ∈ xs → ATs (X.blk s H scope (compEnvC scope cl C X.env) fp) W ifs (up x (wipeE δ (own.map fun p : Str × Nat => p.2))) (· = t x))
    (he : ∀ (s : Shared) (H : Hp) (C : Addr) (cl : List (Str × Addr)) (fp : List Addr) x, x ∈ xs → t x = true → AEq (X.blk s H scope (compEnvC scope cl C X.env) fp) W elt (up x (wipeE δ (own.map fun p : Str × Nat => p.2))) (.d (g x)))
    (ok : BlkOk X.N X.env.scope scope own := by exact blkOk_by (by kernel_rfl)) (hix : ∀ i ∈ ix, i ∈ (own.map fun p : Str × Nat => p.2) := by decide) (hs : ∀ x, foldedSetIterable iter X.env x = pure x := by intro _; rfl) :
    LcJ X W elt tg iter ifs scope own δ (· = .own ((xs.filter t).map g)) := lcM t g up o ok hix hlen hs hi hg ht he
/-! known defs -/
end
def Df (K : PySem.W.Frag) (mg : Str → Option Value) (x : Str) (st : Stmt) (ps : List Str) : Prop := ∃ f fd, Fun K x x st f fd ∧ mg x = some (.ref f) ∧ Binds K fd ps []
def Kn (P : Program) (w : World) (K : PySem.W.Frag) (mg : Str → Option Value) (base : Heap) (W : Wd) (k : Nat) (x : Str) (ps : List Str) {ι : Type} (args : ι → List S) (post : ι → S → Prop) : Prop :=
  ∃ f fd, FnOk P w K mg base CX0 k f fd ps (FS K W args post) ∧ mg x = some (.ref f) ∧ PySem.W.keepIn K (.ref f) = true ∧ Binds K fd ps []
theorem kn_ok {P : Program} {w : World} {K : PySem.W.Frag} {mg : Str → Option Value} {base : Heap} {W : Wd} {x : Str} {st : Stmt} {N ps : List Str} {k : Nat} {ι : Type} {args : ι → List S} {post : ι → S → Prop}
    (d : Df K mg x st ps) (Sc : FnScope N ps (defScope st)) (hl : ∀ i, (args i).length = ps.length) (hm : ∀ i, ∀ s ∈ args i, ¬ Mutb s)
    (h : ∀ f cdv A outer s H E, Cok k (BX P w K mg base N x st f cdv A outer s H E) → ∀ i, ASs (BX P w K mg base N x st f cdv A outer s H E) W (defBody st) ((args i).map some ++ List.replicate (N.length - (args i).length) none) ⟨fun _ => post i (.d .non), post i, fun _ => False, fun _ => False⟩) :
    Kn P w K mg base W (k + 1) x ps args post := by
  obtain ⟨f, fd, F, m, b⟩ := d
  exact ⟨f, fd, fn_ok F Sc hl hm (h f), m, F.kp, b⟩
section
variable {X : Cx} {W : Wd} {e a b c elt tg iter : Expr} {es ifs : List Expr} {δ δ' : Env} {P P1 P2 P3 : S → Prop} {pos : Pos}
theorem wCall {k j : Nat} {x : Str} {ps : List Str} {ι : Type} {args : ι → List S} {post : ι → S → Prop} {pn : Pos} {ss : List S} (G : Kn X.prog X.w X.K X.mg X.base W k x ps args post) (o : Cok j X) (ha : AAq X W (e :: es) δ ss) (i : ι) (hi : ss = args i := by rfl) (hk : k ≤ j := by decide) (hg : Gl X x := by rfl)
    (hd : (x == ("__debug__" : Str)) = false := by decide) (he : starEach (e :: es) X.env = (false, eval e X.env) :: starEach es X.env := by rfl) (hp : (backTo pos (starEach es X.env)).any (·.1) = false := by rfl) : AE X W (.Call (.Name x pn) (e :: es) [] pos) δ (post i) := by
  obtain ⟨f, fd, F, m, kp, bb⟩ := G
  exact ae_call F o hk hg m kp bb ha i hi hd he hp
/-- .. by a def whose answer is one -/
theorem wCallE {k j : Nat} {x : Str} {ps : List Str} {ι : Type} {args : ι → List S} {f : ι → S} {pn : Pos} {ss : List S} (G : Kn X.prog X.w X.K X.mg X.base W k x ps args (fun i s => s = f i)) (o : Cok j X) (ha : AAq X W (e :: es) δ ss) (i : ι) (hi : ss = args i := by rfl) (hk : k ≤ j := by decide) (hg : Gl X x := by rfl)
    (hd : (x == ("__debug__" : Str)) = false := by decide) (he : starEach (e :: es) X.env = (false, eval e X.env) :: starEach es X.env := by rfl) (hp : (backTo pos (starEach es X.env)).any (·.1) = false := by rfl) : AEq X W (.Call (.Name x pn) (e :: es) [] pos) δ (f i) := wCall G o ha i hi hk hg hd he hp
end
end NR
/-! enumerate of a tuple -/
namespace PySem
open Sem (wp)
theorem nr_enum_new {v : Value} {o : Obj} {G : Heap → Prop} (b : Begins v o G) :
    Meets (Builtin.«enumerate.__new__» ⟨[.type "enumerate", v], []⟩) (fun _ R z => G z.heap ∧ R (.ok (.ret (.ref (z.heap.push o).objs.size))) { z with heap := (z.heap.push o).push { cls := .type "enumerate", data := .fields #[.none, .bool false, .ref z.heap.objs.size, rawInt 0, .none, .none] } }) :=
  .of_wp fun prog w A R z hz => by
    obtain ⟨hp, g, d, tk, os⟩ := z
    obtain ⟨g1, hz⟩ := hz
    have hsb := sub_enumerate
    have itr : ∀ {A' : Around} {E Q : Value → Shared → Prop}, Q (.ref hp.objs.size) ⟨hp.push o, g, d, tk, os⟩ → wpAny (model prog w) A' (pyIter v) Q E ⟨hp, g, d, tk, os⟩ := fun q => b.iter prog w _ _ ⟨hp, g, d, tk, os⟩ _ g1 q
    wp_walk using itr
    refine wpAny_stack_any fun _ => wpAny_pure ?_
    split
    · rename_i c _ _ _ _ _
      cases (c == Value.type "enumerate") <;> (wp_walk using itr; exact ⟨_, rfl, hz⟩)
    · wp_walk using itr
      exact ⟨_, rfl, hz⟩
theorem nr_call_enum {prog : Program} {w : World} {A : Around} {E : Value → Shared → Prop} {z : Shared} {v : Value} {o : Obj} {G : Heap → Prop} {Q : Value → Shared → Prop} (b : Begins v o G) (g1 : G z.heap)
    (h : ∀ h', IsEnum h' (z.heap.objs.size + 1) z.heap.objs.size 0 .none → h'.get? z.heap.objs.size = some o → (∀ c u, z.heap.get? c = some u → h'.get? c = some u) → Q (.ref (z.heap.objs.size + 1)) { z with heap := h' }) :
    wpAny (model prog w) A (call (.type "enumerate") [v]) Q E z := by
  refine callType_new F.called_enumerate (by decide) (F.typeCall_enumerate_1 _) (F.newCall_enumerate_1 _) (fun obj => F.args_object_init_2 obj _) F.entry_enumerate_new (nr_enum_new b) ⟨g1, ?_⟩
  have e1 : (z.heap.push o).objs.size = z.heap.objs.size + 1 := Heap.size_push ..
  show _ ∧ _
  rw [e1]
  have he : IsEnum ((z.heap.push o).push { cls := .type "enumerate", data := .fields #[.none, .bool false, .ref z.heap.objs.size, rawInt 0, .none, .none] }) (z.heap.objs.size + 1) z.heap.objs.size 0 .none := by
    have q := Heap.get?_push_size (z.heap.push o) (o := { cls := .type "enumerate", data := .fields #[.none, .bool false, .ref z.heap.objs.size, rawInt 0, .none, .none] }) rfl
    rwa [e1] at q
  exact ⟨⟨_, he, rfl⟩, h _ he (Heap.get?_push_of_some _ (Heap.get?_push_size _ b.free)) fun c u x => Heap.get?_push_of_some _ (Heap.get?_push_of_some _ x)⟩
end PySem
namespace NR
open PySem PySem.Spec PyProof.Rows L2
/-- the tuple at a, its items in new pairs with their places -/
def IteT (K : PySem.W.Frag) (a : Addr) : It :=
  ⟨fun i H => ∃ (xs : List L2.V) (x : L2.V), SqT K H a xs ∧ xs[i]? = some x, fun i H v H' => ∃ T x, v = .ref T ∧ H T = none ∧ H' = upd H T (.tup [.int (i : Nat), x]) ∧ ∀ xs, SqT K H a xs → xs[i]? = some x, fun i H => ∃ xs : List L2.V, SqT K H a xs ∧ xs.length ≤ i⟩
theorem turn_enumT {P : Program} {w : World} {K : PySem.W.Frag} {elts : List Expr} {kk : Nat} {tpos : Pos} (a e it : Addr) :
    Turn P w K (.Tuple elts kk tpos) (IteT K a) [e, it] e (fun i h => (∃ old, IsEnum h e it ((i : Nat) : Int) old) ∧ h.IsTupleIter it a i ∧ e ≠ it ∧ e ≠ a ∧ a ≠ it) where
  mem := by simp
  obj := fun i h st b hb => by
    obtain ⟨⟨old, he⟩, ⟨o, ho, hc, hd⟩, _⟩ := st
    rcases (show b = e ∨ b = it by simpa using hb) with z | z
    · subst z
      exact ⟨_, he, fun v q => nomatch q⟩
    · subst z
      exact ⟨o, ho, fun v q => by rw [hd] at q; cases q⟩
  keep := fun i h h' st k => by
    obtain ⟨⟨old, he⟩, hi, hn⟩ := st
    exact ⟨⟨old, k e (by simp) _ he⟩, hi.at fun o q => k it (by simp) o q, hn⟩
  item := by
    intro X hP hw hK hc i pins s σ H E I hf st hg
    subst hP hw hK
    obtain ⟨⟨old, he⟩, hit, hne, hea, hai⟩ := st
    obtain ⟨xs, x, hq, hx⟩ := hg
    obtain ⟨its, rv, p, hz⟩ := I.tuple hq
    obtain ⟨u, hu, ru⟩ := rv.get hx
    have hel : e < s.heap.objs.size := Heap.lt_size he
    have hil : it < s.heap.objs.size := by
      obtain ⟨_, q, _⟩ := hit
      exact Heap.lt_size q
    have hp : s.heap.IsTuple a its.toArray := p
    refine wpAny_pyNext_enum_itemD (Draws.tuple (A := X.A.in1) (I.ok.hd hc) it a hai its.toArray) he ⟨hit, hp⟩ (by
      have := (List.getElem?_eq_some_iff.mp hu).1
      simpa using this) hne (by simp [hne, hea]) fun x' h' tk hPx ho hst hT hsz hk => ?_
    have ex : x' = u := by
      have h1 : its.toArray[i]? = some x' := hPx
      have h2 : its.toArray[i]? = some u := by simpa using hu
      rw [h1] at h2
      exact Option.some.inj h2
    subst ex
    refine ⟨_, rfl, wpAny_letOwnedTupleGo_enum (s := { s with heap := h', toks := tk + 1 }) ho fun h'' he' sb => ?_⟩
    have hT2 : h''.get? s.heap.objs.size = some { cls := .type "tuple", data := .seq #[.int i tk, x'] } := (sb.2 _ (Nat.ne_of_gt hel)).trans hT
    have new : ObjOk X.prog X.w (upd H s.heap.objs.size (.tup [.int (i : Nat), x])) h'' s.heap.objs.size (.tup [.int (i : Nat), x]) :=
      ⟨(by decide : 2 ≤ sizeLine), [.int i tk, x'], .cons ⟨_, rfl⟩ (.cons ru .nil), ⟨_, hT2, rfl, _, rfl⟩⟩
    have I1 : Inv X pins σ (upd H s.heap.objs.size (.tup [.int (i : Nat), x])) { s with heap := h'', toks := tk + 1 } :=
      I.turnedNew (ch := [e, it]) (fun b ob hb q => (sb.2 b (fun z => hb (by simp [z]))).trans (hk b ob (fun z => hb (by simp [z])) (fun z => hb (by simp [z])) q)) hf (Nat.le_refl _) new
    refine ⟨.ref s.heap.objs.size, _, I1, rfl, ⟨_, x, rfl, I.hok.fresh (Nat.le_refl _), rfl, fun ys hy => by rw [I.tuple_inj hy hq]; exact hx⟩, ⟨⟨x', ?_⟩, hst.1.at fun o q => (sb.2 it (Ne.symm hne)).trans q, hne, hea, hai⟩, fun b hb => ?_⟩
    · rw [show ((i + 1 : Nat) : Int) = (i : Int) + 1 by omega]
      exact he'
    · have hb' : b < s.heap.objs.size := by
        rcases (show b = e ∨ b = it by simpa using hb) with z | z
        · subst z; exact hel
        · subst z; exact hil
      rw [upd_ne (Nat.ne_of_lt hb')]
      exact (hf b hb).1
  done := by
    intro X hP hw hK hc i pins s σ H E I hf st hg
    subst hP hw hK
    obtain ⟨⟨old, he⟩, hit, hne, hea, hai⟩ := st
    obtain ⟨xs, hq, hx⟩ := hg
    obtain ⟨its, rv, p, hz⟩ := I.tuple hq
    obtain ⟨f0, f1, f2, f3, f4, f5⟩ := hf it (by simp)
    have hl := rv.length
    have hp : s.heap.IsTuple a its.toArray := p
    have hT : s.TypeIs (.ref e) "enumerate" := ⟨_, he, rfl⟩
    unfold pyNext
    refine wpAny_bind (wpAny_attempt (wpAny_callSpecial?_slot (name := Str.ofString "__next__") hT F.slot_enumerate_next (wpAny_call_entry F.slot_enumerate_next hT F.entry_enumerate_next ?_ (F.args_enumerate_next_1 _))))
    show wpAny _ _ (field (.ref e) 2 >>= _) _ _ _
    refine wpAny_bind (wpAny_field he rfl (x := .ref it) rfl ?_)
    refine wpAny_bind (wpAny_nextOf_tuple_end (I.ok.hd hc) hit hp (by simp; omega) fun h' x eb hx' => ?_)
    obtain ⟨o, ho, hcl⟩ := hx'
    refine wpAny_bind (wpAny_isInstance (T := "StopIteration") (b := true) ⟨o, ho, hcl⟩ isSubtype_stop (wpAny_pure ?_))
    exact ⟨rfl, I.turned (t' := s.toks) (fun b o hb q => eb b o hb q) f0 f1 f3 f4 f5⟩
  self := fun A i s Q E st h => by
    obtain ⟨⟨_, he⟩, _⟩ := st
    exact wpAny_pyIter_enum he h
def iEnumT (K : PySem.W.Frag) (ta : TA) : TI := fun σ H R => ta σ H fun vs H1 => ∃ a xs, vs = [.ref a] ∧ SqT K H1 a xs ∧ R (IteT K a) H1
theorem pi_enumT {X : Cx} {e : Expr} {ta : TA} {p pos tpos : Pos} {elts : List Expr} {kk : Nat} (hg : Gl X "enumerate") (hm : X.mg "enumerate" = none) (ha : PA X [e] ta) (hs : starEach [e] X.env = [(false, eval e X.env)]) :
    PI X (.Tuple elts kk tpos) (.Call (.Name "enumerate" p) [e] [] pos) (iEnumT X.K ta) := by
  refine ⟨fun pins s σ H R I h => ?_⟩
  refine Call_ (ld_blt I hg hm boot_enumerate (PyProof.Rows.callWith_type1 (thn (ha.run pos pins s σ H _ I h) fun us s1 ⟨vs, H1, I1, r1, q1⟩ => ?_) hs rfl))
  obtain ⟨a, xs, ex, hq, q⟩ := q1
  subst ex
  obtain ⟨u, eu, ru⟩ := vals1 r1
  subst eu
  cases ru
  obtain ⟨its, rv, p', hz⟩ := I1.tuple hq
  have hp : s1.heap.IsTuple a its.toArray := p'
  have hal : a < s1.heap.objs.size := by
    obtain ⟨_, q, _⟩ := hp
    exact Heap.lt_size q
  refine nr_call_enum (begins_tuple a its.toArray) hp fun h' he hit hk => wpAny_pyIter_enum he ?_
  have I2 : Inv X pins σ H1 { s1 with heap := h' } := I1.kept (t' := s1.toks) hk
  refine ⟨s1.heap.objs.size + 1, [s1.heap.objs.size + 1, s1.heap.objs.size], _, _, H1, rfl, I2, turn_enumT a (s1.heap.objs.size + 1) s1.heap.objs.size, ⟨⟨.none, he⟩, ⟨_, hit, rfl, rfl⟩, Nat.succ_ne_self _, Nat.ne_of_gt (Nat.lt_succ_of_lt hal), Nat.ne_of_lt hal⟩, fun b hb => ?_, q⟩
  have hle : s1.heap.objs.size ≤ b := by
    rcases (show b = s1.heap.objs.size + 1 ∨ b = s1.heap.objs.size by simpa using hb) with z | z
    · rw [z]
      exact Nat.le_succ _
    · rw [z]
      exact Nat.le_refl _
  exact I1.fpOk hle (I1.hok.fresh hle)
/-- the items of enumerate(..) -/
def enD (ds : List D) : List D := ds.zipIdx.map fun p => .tup [.int (p.2 : Int), p.1]
theorem enD_map {α : Type} (xs : List α) (enc : α → D) : enD (xs.map enc) = xs.zipIdx.map fun p => .tup [.int (p.2 : Int), enc p.1] := by
  unfold enD
  rw [List.zipIdx_map, List.map_map]
  rfl
theorem enD_get {ds : List D} {i : Nat} {d : D} (h : (enD ds)[i]? = some d) : ∃ x, ds[i]? = some x ∧ d = .tup [.int (i : Int), x] := by
  unfold enD at h
  rw [List.getElem?_map, List.getElem?_zipIdx] at h
  cases e : ds[i]? with
  | none =>
    rw [e] at h
    cases h
  | some x =>
    rw [e] at h
    cases h
    exact ⟨x, rfl, by simp⟩
theorem enD_len (ds : List D) : (enD ds).length = ds.length := by
  unfold enD
  rw [List.length_map, List.length_zipIdx]
section
variable {X : Cx} {W : Wd} {e a b c elt tg iter : Expr} {es ifs : List Expr} {δ δ' : Env} {P P1 P2 P3 : S → Prop} {B B1 B2 : Bool → Prop} {pos : Pos}
theorem ai_enumT {s : S} {ds : List D} {elts : List Expr} {kk : Nat} {tpos p : Pos} (hg : Gl X "enumerate") (hm : X.mg "enumerate" = none) (ha : AEq X W e δ s) (hs : IsT s ds) (hst : starEach [e] X.env = [(false, eval e X.env)]) :
    AI0 X W (.Tuple elts kk tpos) (.Call (.Name "enumerate" p) [e] [] pos) δ (enD ds) := pi_weak (pi_enumT hg hm (aa_cons ha aa_nil hst) hst) fun σ H R ⟨q1, q2⟩ => ⟨q1, fun ss vs H1 f r z => by
  subst z
  cases r with
  | cons r1 r2 =>
    cases r2
    obtain ⟨a, us, rfl, e2, e3⟩ := sv_isT hs r1.1
    refine ⟨a, us, rfl, e2, q2 _ H1 f fun B => ⟨fun i d H' hd _ _ ex => ?_, fun i d H' x H'' hd j _ ex y => ?_, fun i H' hi _ _ ex => ⟨us, ex.sqt e2, by rw [e3.len]; rw [enD_len] at hi; exact hi⟩⟩⟩
    · obtain ⟨x, hx, _⟩ := enD_get hd
      obtain ⟨u, hu, _⟩ := e3.get hx
      exact ⟨us, u, ex.sqt e2, hu⟩
    · obtain ⟨T, u, rfl, hT, rfl, y⟩ := y
      obtain ⟨x, hx, rfl⟩ := enD_get hd
      obtain ⟨u', hu, ru⟩ := e3.get hx
      have := y us (ex.sqt e2)
      rw [hu] at this
      cases this
      exact rs_tup (ds := [.int (i : Int), x]) j hT (.cons rp_int (.cons (Rp.mono ex _ _ ru) .nil)) |>.imp id fun z => z.1⟩
theorem lst_nb {K : PySem.W.Frag} {H : Hp} {s : S} {ds : List D} {v : L2.V} (hs : s = .own ds ∨ s = .l ds) (h : SV K W s v H) : ∃ a vs, v = .ref a ∧ SqL K H a vs ∧ ¬ W.bd a ∧ RpL K H ds vs := by
  rcases hs with rfl | rfl
  · obtain ⟨a, us, e1, e2, e3, e4⟩ := h
    exact ⟨a, us, e1, SqL.of e2, e3, e4⟩
  · exact h
/-- a list, in an expression -/
theorem ai_enumL {s : S} {ds : List D} {elts : List Expr} {kk : Nat} {tpos p : Pos} (hg : Gl X "enumerate") (hm : X.mg "enumerate" = none) (ha : AEq X W e δ s) (hs : s = .own ds ∨ s = .l ds) (hst : starEach [e] X.env = [(false, eval e X.env)]) :
    AI X W (.Tuple elts kk tpos) (.Call (.Name "enumerate" p) [e] [] pos) δ (enD ds) := pi_weak (pi_enum hg hm (aa_cons ha aa_nil hst) hst) fun σ H R ⟨q1, q2⟩ => ⟨q1, fun ss vs H1 f r z => by
  subst z
  cases r with
  | cons r1 r2 =>
    cases r2
    obtain ⟨a, us, rfl, e2, en, e3⟩ := lst_nb hs r1.1
    refine ⟨a, us, rfl, e2, q2 _ H1 f ⟨fun i d H' hd j sb ex => ?_, fun i d H' x H'' hd j sb ex y => ?_, fun i H' hi j sb ex => ⟨us, sql_fr ⟨sb, j⟩ en e2, by rw [e3.len]; rw [enD_len] at hi; exact hi⟩⟩⟩
    · obtain ⟨x, hx, _⟩ := enD_get hd
      obtain ⟨u, hu, _⟩ := e3.get hx
      exact ⟨us, u, sql_fr ⟨sb, j⟩ en e2, hu⟩
    · obtain ⟨T, u, rfl, hT, rfl, y⟩ := y
      obtain ⟨x, hx, rfl⟩ := enD_get hd
      obtain ⟨u', hu, ru⟩ := e3.get hx
      have := y us (sql_fr ⟨sb, j⟩ en e2)
      rw [hu] at this
      cases this
      exact rs_tup (ds := [.int (i : Int), x]) j hT (.cons rp_int (.cons (Rp.mono ex _ _ ru) .nil)) |>.imp id fun z => z.1⟩
/-- a list that a slot holds, in a for -/
theorem ais_enumV {i : Nat} {x : Str} {ds : List D} {elts : List Expr} {kk : Nat} {tpos p : Pos} (hs : δ[i]? = some (some (.l ds))) (hN : X.N[i]? = some x) (hv : Vis X.env.scope x) (hd : (x == ("__debug__" : Str)) = false) (hc : (x == ("__classdict__" : Str)) = false)
    (hg : Gl X "enumerate") (hm : X.mg "enumerate" = none) (hst : starEach [.Name x pos] X.env = [(false, eval (.Name x pos) X.env)]) {pos2 : Pos} :
    AIs X W (.Tuple elts kk tpos) (.Call (.Name "enumerate" p) [.Name x pos] [] pos2) δ (enD ds) :=
  pi_weak (pi_enum hg hm (pa_cons (pe_var hN hv hd hc) pa_nil hst) hst) fun σ H R ⟨B, q1, q2⟩ => by
    obtain ⟨v, e1, e2⟩ := q1.at_ i _ hs
    obtain ⟨a, vs, rfl, e3, en, e4⟩ := e2
    refine ⟨_, e1, a, vs, rfl, q1.sub.sql en e3, q2 _ B H (.refl B) (.refl H) q1 ⟨fun i d H' hd j sb ex => ?_, fun i d H' x H'' hd j sb ex y => ?_, fun i H' hi j sb ex => ⟨vs, sb.sql en e3, by rw [e4.len]; rw [enD_len] at hi; exact hi⟩⟩⟩
    · obtain ⟨x, hx, _⟩ := enD_get hd
      obtain ⟨u, hu, _⟩ := e4.get hx
      exact ⟨vs, u, sb.sql en e3, hu⟩
    · obtain ⟨T, u, rfl, hT, rfl, y⟩ := y
      obtain ⟨x, hx, rfl⟩ := enD_get hd
      obtain ⟨u', hu, ru⟩ := e4.get hx
      have := y vs (sb.sql en e3)
      rw [hu] at this
      cases this
      exact rs_tup (ds := [.int (i : Int), x]) j hT (.cons rp_int (.cons (Rp.mono ex _ _ ru) .nil)) |>.imp id fun z => z.1
/-- for over a tuple that may be known -/
theorem ai_isT {s : S} {ds : List D} (h : AEq X W e δ s) (hs : IsT s ds) : AI0 X W tg e δ ds := pi_weak (pi_tup h) fun σ H R ⟨q1, q2⟩ => ⟨q1, fun t v H1 f r z => by
  subst z
  obtain ⟨a, vs, rfl, e2, e3⟩ := sv_isT hs r.1
  refine ⟨a, rfl, ⟨vs, e2⟩, q2 _ H1 f fun B => ⟨fun i d H' hd _ _ ex => ?_, fun i d H' x H'' hd j _ ex y => ?_, fun i H' hi _ _ ex => ⟨vs, ex.sqt e2, by rw [e3.len]; exact hi⟩⟩⟩
  · obtain ⟨u, hu, _⟩ := e3.get hd
    exact ⟨vs, u, ex.sqt e2, hu⟩
  · obtain ⟨rfl, y⟩ := y
    obtain ⟨u, hu, ru⟩ := e3.get hd
    have := y vs (ex.sqt e2)
    rw [hu] at this
    cases this
    exact ⟨.refl j, Rp.mono ex _ _ ru⟩⟩
end
end NR
namespace NR
open PySem PySem.Spec PyProof.Rows L2
/-! min of a list of pairs of ints -/
def eP (p : Int × Int) : D := .tup [.int p.1, .int p.2]
def pyP (p : Int × Int) : PyData := .tuple [.int p.1, .int p.2]
def ltP (y a : Int × Int) : Bool := decide (y.1 < a.1 ∨ (y.1 = a.1 ∧ y.2 < a.2))
def minP : List (Int × Int) → Int × Int
  | [] => (0, 0)
  | x :: xs => xs.foldl (fun a y => if ltP y a then y else a) x
theorem minD_pairs (x : Int × Int) : ∀ (xs : List (Int × Int)), PySem.W.minD (pyP x) (xs.map pyP) = pyP (xs.foldl (fun a y => if ltP y a then y else a) x) := by
  intro xs
  unfold PySem.W.minD
  induction xs generalizing x with
  | nil => rfl
  | cons y ys ih =>
    rw [List.map_cons, List.foldl_cons, List.foldl_cons, ← ih]
    congr 1
    show (if PySem.W.dataLt (pyP y) (pyP x) = true then pyP y else pyP x) = pyP (if ltP y x = true then y else x)
    rw [show PySem.W.dataLt (pyP y) (pyP x) = ltP y x from PySem.W.dataLt_ii _ _ _ _]
    split <;> rfl
theorem dp_pair {K : PySem.W.Frag} {H : Hp} {p : Int × Int} {v : V} (h : Rp K H (eP p) v) : Dp K H v (pyP p) := by
  unfold eP at h
  simp only [Rp] at h
  obtain ⟨a, vs, rfl, e1, e2⟩ := h
  have e2' : RpL K H ([p.1, p.2].map D.int) vs := e2
  rw [RpL.ints e2'] at e1
  exact .tup (SqT.of e1) (dp_int1 [p.1, p.2])
theorem dp_pairs {K : PySem.W.Frag} {H : Hp} : ∀ {xs : List (Int × Int)} {vs : List V}, RpL K H (xs.map eP) vs → DpAll K H vs (xs.map pyP)
  | [], _, h => by
    simp only [List.map_nil, RpL] at h
    subst h
    exact .nil
  | x :: xs, _, h => by
    simp only [List.map_cons, RpL] at h
    obtain ⟨v, r, rfl, e1, e2⟩ := h
    exact .cons (dp_pair e1) (dp_pairs e2)
theorem depth_pairs : ∀ xs : List (Int × Int), PyData.depthAll (xs.map pyP) ≤ 2
  | [] => by simp [PyData.depthAll]
  | n :: ns => by
    have := depth_pairs ns
    simp [PyData.depthAll, pyP, PyData.depth]
    omega
theorem pyP_lay (p : Int × Int) : (pyP p).canLay0 = true := by simp [pyP, PyData.canLay0, PyData.canLayAll0]
theorem alike_pairs (xs : List (Int × Int)) : PySem.W.AlikeAll (xs.map pyP) := by
  refine ⟨fun x hx y hy => ?_, fun x hx => ?_⟩
  · obtain ⟨p, _, rfl⟩ := List.mem_map.mp hx
    obtain ⟨q, _, rfl⟩ := List.mem_map.mp hy
    simp [pyP, PySem.W.alike, PySem.W.alikeAll]
  · obtain ⟨p, _, rfl⟩ := List.mem_map.mp hx
    simp [pyP]
theorem pyP_inj {p q : Int × Int} (h : pyP p = pyP q) : p = q := by
  unfold pyP at h
  simp at h
  exact Prod.ext h.1 h.2
section
variable {X : Cx} {W : Wd} {e a b c elt tg iter : Expr} {es ifs : List Expr} {δ δ' : Env} {P P1 P2 P3 : S → Prop} {B B1 B2 : Bool → Prop} {pos : Pos}
def rMinP (K : PySem.W.Frag) : List V → Hp → VK → Prop := fun vs H Q => ∃ (a : Addr) (xs : List V) (ps : List (Int × Int)), vs = [.ref a] ∧ SqL K H a xs ∧ RpL K H (ps.map eP) xs ∧ ps ≠ [] ∧ ∀ v, Rp K H (eP (minP ps)) v → Q v H
theorem cr_minP {k : Nat} (o : Cok k X) : CallR X (.builtin "min") (rMinP X.K) := by
  intro pins s σ H vs us Q I r h
  obtain ⟨a, xs, ps, rfl, hs, hr, hne, q⟩ := h
  obtain ⟨its, rv, hl, hz⟩ := I.list hs
  rw [Vals.ref1 r]
  obtain ⟨bs, rs⟩ := Dp.readsAll I _ _ _ (dp_pairs hr) rv
  have hhu := o.hu
  match ps, hne with
  | p0 :: pr, _ =>
    refine PySem.W.min_list_data (x := pyP p0) (xs := pr.map pyP) (I.ok.hd o.calm) hl.isList rs (alike_pairs (p0 :: pr)) (by
      have := depth_pairs (p0 :: pr)
      have e : PyData.depthAll (pyP p0 :: pr.map pyP) = PyData.depthAll ((p0 :: pr).map pyP) := rfl
      omega) fun i v h' tk bs' hi hv hk => ?_
    have hlen := rv.length
    have hil : i < xs.length := by
      have := (Array.getElem?_eq_some_iff.mp hi).1
      rw [List.size_toArray] at this
      omega
    obtain ⟨u, hu, ru⟩ := rv.get (List.getElem?_eq_getElem hil)
    have huv : u = v := by
      have h1 : its[i]? = some v := by simpa using hi
      rw [hu] at h1
      exact Option.some.inj h1
    subst huv
    have hpl : i < (p0 :: pr).length := by
      have := hr.len
      rw [List.length_map] at this
      omega
    have hgp : ((p0 :: pr).map eP)[i]? = some (eP (p0 :: pr)[i]) := by rw [List.getElem?_map, List.getElem?_eq_getElem hpl] <;> rfl
    obtain ⟨x', hx', rx⟩ := hr.get hgp
    rw [List.getElem?_eq_getElem hil] at hx'
    cases hx'
    obtain ⟨cs, rd⟩ := Dp.reads I _ _ _ (dp_pair rx) ru
    have e1 := PySem.SeqAt.Reads.unique _ _ _ _ _ (pyP_lay _) (PySem.W.reads_keeps hk rd) hv
    rw [minD_pairs] at e1
    have e2 : (p0 :: pr)[i] = minP (p0 :: pr) := pyP_inj e1
    exact ⟨_, H, I.kept hk, ru, q _ (e2 ▸ rx)⟩
/-- min(pairs) -/
theorem wMinP {k : Nat} {s : S} {ps : List (Int × Int)} {pn : Pos} (o : Cok k X) (hm : X.mg "min" = none) (ha : AEq X W a δ s) (hs : s = .own (ps.map eP) ∨ s = .l (ps.map eP)) (hne : ps ≠ []) (hg : Gl X "min" := by rfl) (he : starEach [a] X.env = (false, eval a X.env) :: starEach [] X.env := by rfl) (hp : (backTo pos (starEach [] X.env)).any (·.1) = false := by rfl) :
    AEq X W (.Call (.Name "min" pn) [a] [] pos) δ (.d (eP (minP ps))) := ae_cb (cr_minP o) hg hm PyProof.Rows.boot_min (aa1 ha he) (fun vs H Q j r q => by
  cases r with
  | cons r1 r2 =>
    cases r2
    obtain ⟨a, us, rfl, e2, e3⟩ := lst_of hs r1
    exact ⟨a, us, ps, rfl, e2, e3, hne, fun v rv => q _ v H (.refl j) (.ofd rv) rfl⟩) (by decide) (by decide) he hp

/-! sum of a tuple of ints -/
def rSumT (K : PySem.W.Frag) : List V → Hp → VK → Prop := fun vs H Q => ∃ (a : Addr) (ns : List Int), vs = [.ref a] ∧ SqT K H a (ns.map V.int) ∧ Q (.int ns.sum) H
theorem cr_sumT {k : Nat} (o : Cok k X) : CallR X (.builtin "sum") (rSumT X.K) := by
  intro pins s σ H vs us Q I r h
  obtain ⟨a, ns, rfl, hs, q⟩ := h
  obtain ⟨its, rv, hl, hz⟩ := I.tuple hs
  rw [Vals.ref1 r]
  have hi := rv.ints
  have hl : s.heap.IsTuple a its.toArray := hl
  obtain ⟨xs, hx⟩ := hi.allInts.items
  have hn : numsOf its.toArray.toList = ns := by rw [show its.toArray.toList = its from rfl, hi.numsOf]
  rw [hx] at hl hn
  rw [nums_intItems] at hn
  refine PySem.W.ktm_sumG (I.ok.hd o.calm) hl fun h' tk t' hk => ?_
  rw [preSum_eq, List.take_of_length_le (by simp), hn]
  exact ⟨.int _, H, I.kept hk, ⟨_, rfl⟩, q⟩
theorem wSumT {k : Nat} {ns : List Int} {pn : Pos} (o : Cok k X) (hm : X.mg "sum" = none) (ha : AEq X W a δ (.d (tupI ns))) (hg : Gl X "sum" := by rfl) (he : starEach [a] X.env = (false, eval a X.env) :: starEach [] X.env := by rfl) (hp : (backTo pos (starEach [] X.env)).any (·.1) = false := by rfl) :
    AEq X W (.Call (.Name "sum" pn) [a] [] pos) δ (.d (.int ns.sum)) := ae_cb (cr_sumT o) hg hm PyProof.Rows.boot_sum (aa1 ha he) (.d1 (fun _ => rp_int) fun x H Q _ h q => by
  obtain ⟨p, vs, rfl, e1, e2⟩ := sv_tup h
  rw [RpL.ints e2] at e1
  exact ⟨p, ns, rfl, SqT.of e1, q⟩) (by decide) (by decide) he hp

/-! sorted -/
theorem wSortS {xs : List Str} {s : S} {pn : Pos} (hm : X.mg "sorted" = none) (ha : AEq X W a δ s) (hs : s = .own (xs.map D.str) ∨ s = .l (xs.map D.str)) (hl : xs.length < 64) (hg : Gl X "sorted" := by rfl) (he : starEach [a] X.env = (false, eval a X.env) :: starEach [] X.env := by rfl) (hp : (backTo pos (starEach [] X.env)).any (·.1) = false := by rfl) :
    AE X W (.Call (.Name "sorted" pn) [a] [] pos) δ (fun s => ∃ ys : List Str, s = .own (ys.map D.str) ∧ ys.Perm xs ∧ sortedS ys = true) := ae_cb cr_sortedS hg hm PyProof.Rows.boot_sorted (aa1 ha he) (fun vs H Q j r q => by
  cases r with
  | cons r1 r2 =>
    cases r2
    obtain ⟨a, us, rfl, e2, e3⟩ := lst_of hs r1
    rw [RpL.strs e3] at e2
    refine ⟨a, xs, rfl, e2, hl, fun ys p h1 h2 hp => ?_⟩
    obtain ⟨f, r⟩ := rs_lst (W := W) j hp (RpL.of_strs (K := X.K) (H := H) ys)
    exact q _ _ _ f r ⟨ys, rfl, h1, h2⟩) (by decide) (by decide) he hp
/-- the ints, upwards -/
theorem perm_sort_unique {xs ys : List Int} (p : xs.Perm ys) (hx : xs.Pairwise (· ≤ ·)) (hy : ys.Pairwise (· ≤ ·)) : xs = ys := p.eq_of_pairwise (fun a b _ _ h1 h2 => Int.le_antisymm h1 h2) hx hy
end
end NR
/-! sorted of a tuple of ints -/
namespace SrtO
open PySem PySem.Spec PyProof.Rows Srt PySem.Calls
section
variable {prog : Program} {w : World} {A : Around} {E : Value → Shared → Prop} {s : Shared}
theorem nr_sorted_tup {l : Addr} {vs : List Value} {ltv : Value → Value → Bool} {Q : Value → Shared → Prop} (O : Swo ltv) (hl : s.heap.IsTuple l vs.toArray) (hz : vs.length ≤ sizeLine)
    (hS : 2 ≤ vs.length → ∀ (h₁ : Heap) (a : Addr), h₁.get? a = some (seqObj "list" vs.toArray 0) → SortableO prog w A.in1.in1 { s with heap := h₁ } a vs ltv)
    (h : ∀ (out : List Value) (h' : Heap), Srtd ltv out → Stb ltv out vs → (∀ b o, s.heap.get? b = some o → h'.get? b = some o) → Q (.ref h'.objs.size) { s with heap := sortedHeap (h'.push (seqObj "list" vs.toArray 0)) h'.objs.size vs out.toArray }) :
    wpAny (model prog w) A (call (.builtin "sorted") [.ref l]) Q E s := by
  refine Calls.call_function_entry kind_sorted plain_sorted entry_sorted (args_sorted1 _) ?_
  unfold Builtin.«sorted»
  refine wpAny_bind (m := checkCount "sorted" 1 1 _) (wpAny_pure ?_)
  obtain ⟨o, ho, hc, n, hd⟩ := id hl
  refine wpAny_bind (wpAny_collect_seq l (.inr rfl) ho hc hd (fun h' hk => ?_) (by rw [List.size_toArray]; exact hz))
  refine wpAny_bind (wpAny_newList ?_ hz)
  have hoL : (h'.push (seqObj "list" vs.toArray 0)).get? h'.objs.size = some (seqObj "list" vs.toArray 0) := Heap.get?_push_size _ rfl
  refine wpAny_bind (wpAny_holding (wpAny_call_entry slot_list_sort ⟨_, hoL, rfl⟩ entry_list_sort (list_sort_ord O hoL hz (fun h2 => hS h2 _ _ hoL) fun out hs hb => ⟨_, rfl, ?_⟩) (args_list_sort _)))
  exact wpAny_pure ⟨_, rfl, h out h' hs hb hk⟩
end
end SrtO
/-! set(list of ints), the set's table told -/
namespace L2
open PySem PySem.Spec PyProof.Rows PySem.Calls
section
variable {P : Program} {w : World} {A : Around} {E : Value → Shared → Prop} {s : Shared}
set_option maxRecDepth 100000 in
set_option maxHeartbeats 3200000 in
theorem nr_set_listI {l : Addr} {items : Array Value} (ns : List Int) {Q : Value → Shared → Prop} (hh : A.handled = none) (hl : s.heap.IsList l items) (hit : IntsAre items.toList ns) (hb : ns.length + 1 < scanBound)
    (h : ∀ (h' : Heap) (tk c : Nat), SetR w h' s.heap.objs.size (fun j => decide (j ∈ ns)) c → c ≤ ns.length → (∀ b o, s.heap.get? b = some o → h'.get? b = some o) → Q (.ref s.heap.objs.size) { s with heap := h', toks := tk }) :
    wpAny (model P w) A (call (.type "set") [.ref l]) Q E s := by
  have hisz : items.size = ns.length := by
    have q := IntsAre.length hit
    rw [Array.length_toList] at q
    exact q
  obtain ⟨c, tl, hmro⟩ := F.called_set.mro
  have hmade := F.called_set.made
  have hsub := F.called_set.sub
  refine wpAny_call (codeAny_of_tree ?_)
  show wpAny _ _ (callAny (.type "set") _) _ _ _
  refine wpAny_pure ⟨Code.quiet_builtin _ (by decide +kernel), codeAny_builtin F.entry_type_call ?_⟩
  rw [Around.under_plain (weight_type_call_type "set" [.ref l] []) rfl]
  have h1 := F.called_set.notType
  have h2 := F.called_set.canCreate
  have hct := F.typeCall_set_1 (.ref l)
  repeat (any_goals (first | assumption | wp_step))
  refine codeAny_mono (code_set_led1 (.ref l) (E := E) (Q₁ := fun obj s₁ => obj = .ref s.heap.objs.size ∧ s₁ = { s with heap := s.heap.push { cls := .type "set", dict := none, data := .set #[] 0 (.fresh 0 0 (!w.params.followText "set-order")) } }) ⟨rfl, rfl⟩) fun r s₁ hr => ?_
  cases r with
  | error e => exact hr
  | ok fl =>
    cases fl with
    | ret obj =>
      obtain ⟨rfl, rfl⟩ := hr
      have hS : (s.heap.push { cls := .type "set", dict := none, data := .set #[] 0 (.fresh 0 0 (!w.params.followText "set-order")) }).get? s.heap.objs.size = some { cls := .type "set", dict := none, data := .set #[] 0 (.fresh 0 0 (!w.params.followText "set-order")) } := Heap.get?_push_size _ rfl
      have hT : Shared.TypeIs { s with heap := s.heap.push { cls := .type "set", dict := none, data := .set #[] 0 (.fresh 0 0 (!w.params.followText "set-order")) } } (.ref s.heap.objs.size) "set" := ⟨_, hS, rfl⟩
      have hli := F.called_set.init.lookup
      have hbi := F.called_set.init.bind (.ref s.heap.objs.size)
      repeat (any_goals (first | assumption | wp_step))
      refine codeAny_mono (codeAny_call_builtin (R := wants (fun r s₂ => r = .none ∧ ∃ h' tk c, s₂ = { s with heap := h', toks := tk } ∧ SetR w h' s.heap.objs.size (fun j => decide (j ∈ ns)) c ∧ c ≤ ns.length ∧
          (∀ b o, s.heap.get? b = some o → h'.get? b = some o)) E) F.called_set.init.plain F.entry_set_init (check_set_init_1 hT ?_)) fun r₂ s₂ hr₂ => ?_
      · obtain ⟨ol, hol, hcl, nl, hdl⟩ := hl
        obtain ⟨ocls, odict, odata, oslots⟩ := ol
        simp only at hcl hdl
        subst hcl; subst hdl
        have hol' : (s.heap.push { cls := .type "set", dict := none, data := .set #[] 0 (.fresh 0 0 (!w.params.followText "set-order")) }).get? l = some { cls := .type "list", dict := odict, data := .seq items nl, slots := oslots } := Heap.get?_push_of_some _ hol
        have hsls := F.sub_list_set
        have hslf := F.sub_list_frozenset
        have hne : (Value.type "list" == Value.type "dict") = false := by decide
        have hl1 : (s.heap.push { cls := .type "set", dict := none, data := .set #[] 0 (.fresh 0 0 (!w.params.followText "set-order")) }).IsList l items := ⟨_, hol', rfl, nl, rfl⟩
        unfold Builtin.«set.__init__» noKeywords Builtin.Frozenset.updateFrom
        generalize hPI : pyIter = PI
        wp_walk
        subst hPI
        refine wpAny_pyIter_list hl1 ?_
        refine wpAny_bind (wpAny_runValue ?_)
        have hlS : l < s.heap.objs.size := Heap.lt_size hol
        have hh3 : A.in1.in1.in1.handled = none := by simp [hh]
        have hz1 : (s.heap.push { cls := .type "set", dict := none, data := .set #[] 0 (.fresh 0 0 (!w.params.followText "set-order")) }).objs.size = s.heap.objs.size + 1 := Heap.size_push ..
        have hneI : l ≠ (s.heap.push { cls := .type "set", dict := none, data := .set #[] 0 (.fresh 0 0 (!w.params.followText "set-order")) }).objs.size := by
          rw [Heap.size_push]; exact Nat.ne_of_lt (Nat.lt_succ_of_lt hlS)
        have hSf : s.heap.objs.size ∉ [(s.heap.push { cls := .type "set", dict := none, data := .set #[] 0 (.fresh 0 0 (!w.params.followText "set-order")) }).objs.size, l] := by
          rw [Heap.size_push]; simp only [List.mem_cons, List.mem_singleton, List.not_mem_nil, or_false, not_or]
          exact ⟨Nat.ne_of_lt (Nat.lt_succ_self _), Nat.ne_of_gt hlS⟩
        have hval : ∀ (i : Nat) (v : Value), items[i]? = some v → ∃ k t, ns[i]? = some k ∧ v = .int k t := fun i v hv => by
          have hi : i < ns.length := by rw [← hisz]; exact (Array.getElem?_eq_some_iff.mp hv).1
          obtain ⟨t, e⟩ := PyProof.Rows.IntsAre.int_at hit i v (by rw [Array.getElem?_toList]; exact hv)
          refine ⟨ns[i], t, List.getElem?_eq_getElem hi, ?_⟩
          rw [e, List.getD_eq_getElem?_getD, List.getElem?_eq_getElem hi] <;> rfl
        refine set_update_ints ((Walks.list hh3 _ l hneI items).toS) s.heap.objs.size
          hSf ns hisz hb hval (items.size - 0) 0 _ (by omega) (Nat.zero_le _)
          ⟨⟨_, Heap.get?_push_size _ rfl, rfl, rfl⟩, (hl1.push _)⟩ ?hS0 ?hR
        case hS0 =>
          have hget : ((s.heap.push { cls := .type "set", dict := none, data := .set #[] 0 (.fresh 0 0 (!w.params.followText "set-order")) }).push { cls := .type "list_iterator", data := .fields #[.ref l, .int 0 0] }).get? s.heap.objs.size
              = some { cls := .type "set", dict := none, data := .set #[] 0 (.fresh 0 0 (!w.params.followText "set-order")) } := Heap.get?_push_of_some _ hS
          exact ⟨0, Nat.le_refl 0, setR_new_at hget⟩
        case hR =>
          intro s' c' hm hc' hS'
          obtain ⟨h', g2, d', tk', os'⟩ := s'
          have eg : g2 = s.gens := hm.gens
          have ed : d' = s.drawn := hm.drawn
          have eo : os' = s.os := hm.os
          subst eg; subst ed; subst eo
          show wpAny _ _ _ _ _ _
          refine wpAny_pure ?_
          show wpAny _ _ (ret Value.none) _ _ _
          rw [hisz] at hc'
          refine wpAny_pure ⟨rfl, h', tk', c', rfl, hS', hc', fun b o e => ?_⟩
          have hb0 : b < s.heap.objs.size := Heap.lt_size e
          have hb1 : b ≠ s.heap.objs.size := Nat.ne_of_lt hb0
          have hb2 : b ≠ (s.heap.push { cls := .type "set", dict := none, data := .set #[] 0 (.fresh 0 0 (!w.params.followText "set-order")) }).objs.size := by
            rw [Heap.size_push]; exact Nat.ne_of_lt (Nat.lt_succ_of_lt hb0)
          exact hm.heap b o (by simp only [List.mem_cons, List.mem_singleton, List.not_mem_nil, or_false, not_or]; exact ⟨hb1, hb2⟩) (Heap.get?_push_of_some _ (Heap.get?_push_of_some _ e))
      · cases r₂ with
        | error e => exact hr₂
        | ok fl₂ =>
          cases fl₂ with
          | ret r =>
            obtain ⟨rfl, h', tk, c', rfl, hS', hc', hk'⟩ := hr₂
            repeat (any_goals (first | assumption | wp_step))
            exact h _ _ _ hS' hc' hk'
          | _ => exact hr₂.elim
    | _ => exact hr.elim
end
end L2
namespace NR
open PySem PySem.Spec PyProof.Rows L2
section
variable {X : Cx} {W : Wd} {e a b c elt tg iter : Expr} {es ifs : List Expr} {δ δ' : Env} {P P1 P2 P3 : S → Prop} {B B1 B2 : Bool → Prop} {pos : Pos}
def rSortTI (K : PySem.W.Frag) : List V → Hp → VK → Prop := fun vs H Q => ∃ (a : Addr) (ns : List Int), vs = [V.ref a] ∧ SqT K H a (ns.map V.int) ∧
  ∀ (ns' : List Int) (p : Addr), ns'.Perm ns → ns'.Pairwise (· ≤ ·) → H p = none → Q (.ref p) (upd H p (.lst (ns'.map V.int)))
theorem cr_sortTI : CallR X (.builtin "sorted") (rSortTI X.K) := by
  intro pins s σ H vs us Q I r h
  obtain ⟨a, ns, rfl, hs, q⟩ := h
  obtain ⟨its, rv, hl, hz⟩ := I.tuple hs
  rw [Vals.ref1 r]
  have hi := rv.ints
  refine SrtO.nr_sorted_tup SrtO.swo_int (show s.heap.IsTuple a its.toArray from hl) (by rw [← rv.length]; exact hz) (fun h2 h₁ a' e => SrtO.ints_sortable hi h2) fun out h' h1 h2 hk => ?_
  obtain ⟨k1, k2, k3⟩ := SrtO.ints_out hi h1 h2
  have hlen : ((out.map SrtO.iv).map V.int).length ≤ sizeLine := by
    rw [List.length_map, k2.length_eq]
    rw [List.length_map] at hz
    exact hz
  have I1 : Inv X pins σ H { s with heap := h' } := I.kept (t' := s.toks) hk
  have hoL : (h'.push (seqObj "list" its.toArray 0)).get? h'.objs.size = some (seqObj "list" its.toArray 0) := Heap.get?_push_size _ rfl
  obtain ⟨ep, he'⟩ := PyProof.Rows.sortedHeap_at (vs := its) (out := out.toArray) hoL
  exact ⟨.ref _, upd H h'.objs.size (.lst ((out.map SrtO.iv).map V.int)), I1.laid (t' := s.toks) (fun b o e => by
    have hb : b < h'.objs.size := Heap.lt_size e
    rw [PyProof.Rows.sortedHeap_old (Nat.ne_of_lt hb) (by rw [Heap.size_push]; exact Nat.lt_succ_of_lt hb)]
    exact Heap.get?_push_of_some _ e) (Nat.le_refl _) ⟨hlen, out, ep, vals_of_ints k1, he'⟩, rfl, q _ _ k2 k3 (I1.hok.fresh (Nat.le_refl _))⟩
end
end NR
namespace NR
open PySem PySem.Spec PyProof.Rows L2
/-! the distinct ints, upwards -/
def insI (k : Int) : List Int → List Int
  | [] => [k]
  | x :: xs => if k < x then k :: x :: xs else if k = x then x :: xs else x :: insI k xs
def setS : List Int → List Int
  | [] => []
  | x :: xs => insI x (setS xs)
theorem insI_mem (k j : Int) : ∀ xs, j ∈ insI k xs ↔ j = k ∨ j ∈ xs
  | [] => by simp [insI]
  | x :: xs => by
    unfold insI
    split
    · simp
    · split
      · rename_i h
        subst h
        simp
      · simp only [List.mem_cons, insI_mem k j xs]
        constructor
        · rintro (h | h | h)
          · exact .inr (.inl h)
          · exact .inl h
          · exact .inr (.inr h)
        · rintro (h | h | h)
          · exact .inr (.inl h)
          · exact .inl h
          · exact .inr (.inr h)
theorem insI_pw (k : Int) : ∀ xs, xs.Pairwise (· < ·) → (insI k xs).Pairwise (· < ·)
  | [], _ => by simp [insI]
  | x :: xs, h => by
    obtain ⟨h1, h2⟩ := List.pairwise_cons.mp h
    unfold insI
    split
    · rename_i hk
      refine List.pairwise_cons.mpr ⟨fun y hy => ?_, h⟩
      rcases List.mem_cons.mp hy with rfl | hy
      · exact hk
      · exact Int.lt_trans hk (h1 y hy)
    · split
      · exact h
      · rename_i a b
        refine List.pairwise_cons.mpr ⟨fun y hy => ?_, insI_pw k xs h2⟩
        rcases (insI_mem k y xs).mp hy with rfl | hy
        · omega
        · exact h1 y hy
theorem setS_mem (j : Int) : ∀ xs, j ∈ setS xs ↔ j ∈ xs
  | [] => by simp [setS]
  | x :: xs => by
    unfold setS
    rw [insI_mem, setS_mem j xs, List.mem_cons]
theorem setS_pw : ∀ xs, (setS xs).Pairwise (· < ·)
  | [] => .nil
  | x :: xs => insI_pw x _ (setS_pw xs)
theorem pw_nodup {xs : List Int} (h : xs.Pairwise (· < ·)) : xs.Nodup := h.imp fun {a b} h e => by omega
theorem nodup_sub_le {α : Type} [DecidableEq α] : ∀ {xs ys : List α}, xs.Nodup → (∀ x ∈ xs, x ∈ ys) → xs.length ≤ ys.length
  | [], _, _, _ => Nat.zero_le _
  | x :: xs, ys, h, k => by
    obtain ⟨h1, h2⟩ := List.nodup_cons.mp h
    have hx : x ∈ ys := k x List.mem_cons_self
    have hl := List.length_erase_of_mem hx
    have hp := List.length_pos_of_mem hx
    have := nodup_sub_le (xs := xs) (ys := ys.erase x) h2 fun y hy => (List.mem_erase_of_ne (fun e : y = x => h1 (e ▸ hy))).mpr (k y (List.mem_cons_of_mem _ hy))
    rw [List.length_cons]
    omega
theorem pw_ext {xs ys : List Int} (hx : xs.Pairwise (· < ·)) (hy : ys.Pairwise (· < ·)) (h : ∀ k, k ∈ xs ↔ k ∈ ys) : xs = ys := by
  have p : xs.Perm ys := (List.perm_ext_iff_of_nodup (pw_nodup hx) (pw_nodup hy)).mpr h
  exact p.eq_of_pairwise (fun a b _ _ h1 h2 => absurd h1 (by omega)) hx hy
/-! the ints, upwards -/
def sortI (ns : List Int) : List Int := ns.mergeSort fun a b => decide (a ≤ b)
theorem sortI_perm (ns : List Int) : (sortI ns).Perm ns := List.mergeSort_perm _ _
theorem sortI_pw (ns : List Int) : (sortI ns).Pairwise (· ≤ ·) := by
  have h := List.pairwise_mergeSort (le := fun a b : Int => decide (a ≤ b)) (fun a b c h1 h2 => by simp at h1 h2 ⊢; omega) (fun a b => by simp; omega) ns
  exact h.imp fun {a b} h => by simpa using h
section
variable {X : Cx} {W : Wd} {e a b c elt tg iter : Expr} {es ifs : List Expr} {δ δ' : Env} {P P1 P2 P3 : S → Prop} {B B1 B2 : Bool → Prop} {pos : Pos}
theorem wSortTI {ns : List Int} {pn : Pos} (hm : X.mg "sorted" = none) (ha : AEq X W a δ (.d (tupI ns))) (hg : Gl X "sorted" := by rfl) (he : starEach [a] X.env = (false, eval a X.env) :: starEach [] X.env := by rfl) (hp : (backTo pos (starEach [] X.env)).any (·.1) = false := by rfl) :
    AEq X W (.Call (.Name "sorted" pn) [a] [] pos) δ (.own ((sortI ns).map D.int)) := ae_cb cr_sortTI hg hm PyProof.Rows.boot_sorted (aa1 ha he) (fun vs H Q j r q => by
  cases r with
  | cons r1 r2 =>
    cases r2
    obtain ⟨p, vs, rfl, e1, e2⟩ := sv_tup r1
    rw [RpL.ints e2] at e1
    refine ⟨p, ns, rfl, SqT.of e1, fun ns' q' h1 h2 hn => ?_⟩
    have e : ns' = sortI ns := perm_sort_unique (h1.trans (sortI_perm ns).symm) h2 (sortI_pw ns)
    subst e
    obtain ⟨f, r⟩ := rs_lst (W := W) j hn (RpL.of_ints (K := X.K) (H := H) (sortI ns))
    exact q _ _ _ f r rfl) (by decide) (by decide) he hp
/-! sorted(set(a list of ints)) -/
def rSetLI (K : PySem.W.Frag) (w : World) : List V → Hp → VK → Prop := fun xs H Q => ∃ (a : Addr) (ns : List Int), xs = [.ref a] ∧ SqL K H a (ns.map V.int) ∧ ns.length + 1 < scanBound ∧
  ∀ p, H p = none → Q (.ref p) (upd H p (SetO w p (fun j => decide (j ∈ ns)) (setS ns).length))
theorem setR_len {w : World} {h : Heap} {a : Addr} {ns : List Int} {c : Nat} (R : SetR w h a (fun j => decide (j ∈ ns)) c) : c = (setS ns).length := by
  obtain ⟨o, es, ep, t, ho, hex, hd, g, nd, hm, hb, hf, hn, r⟩ := R
  have hm' : ∀ k, k ∈ setS ns ↔ k ∈ es.toList.map keyOf := fun k => by
    rw [setS_mem, ← hm k]
    simp
  have h1 := nodup_sub_le nd fun k hk => (hm' k).mpr hk
  have h2 := nodup_sub_le (pw_nodup (setS_pw ns)) fun k hk => (hm' k).mp hk
  rw [List.length_map] at h1 h2
  have h3 : es.toList.length = es.size := Array.length_toList
  omega
theorem cr_setLI {k : Nat} (o : Cok k X) : CallR X (.type "set") (rSetLI X.K X.w) := by
  intro pins s σ H xs us Q I r h
  obtain ⟨a, ns, rfl, hs, hb, q⟩ := h
  obtain ⟨its, rv, hl, hz⟩ := I.list hs
  rw [Vals.ref1 r]
  refine nr_set_listI (items := its.toArray) ns (I.ok.hd o.calm) hl.isList rv.ints hb fun h' tk c R hc hk => ?_
  have e := setR_len R
  subst e
  exact ⟨.ref _, upd H s.heap.objs.size (SetO X.w s.heap.objs.size (fun j => decide (j ∈ ns)) (setS ns).length), I.laid (t' := tk) hk (Nat.le_refl _) (setO_new R), rfl, q _ (I.hok.fresh (Nat.le_refl _))⟩
theorem wSortSet {k : Nat} {s : S} {ns : List Int} {pn pn2 pos2 : Pos} (o : Cok k X) (hm : X.mg "sorted" = none) (hm2 : X.mg "set" = none) (ha : AEq X W a δ s) (hs : s = .own (ns.map D.int) ∨ s = .l (ns.map D.int)) (hl : ns.length ≤ 1000) (h64 : (setS ns).length < 64)
    (hg : Gl X "sorted" := by rfl) (hg2 : Gl X "set" := by rfl) (he : starEach [a] X.env = (false, eval a X.env) :: starEach [] X.env := by rfl)
    (he2 : starEach [.Call (.Name "set" pn2) [a] [] pos2] X.env = (false, eval (.Call (.Name "set" pn2) [a] [] pos2) X.env) :: starEach [] X.env := by rfl)
    (hp : (backTo pos (starEach [] X.env)).any (·.1) = false := by rfl) (hp2 : (backTo pos2 (starEach [] X.env)).any (·.1) = false := by rfl) :
    AEq X W (.Call (.Name "sorted" pn) [.Call (.Name "set" pn2) [a] [] pos2] [] pos) δ (.own ((setS ns).map D.int)) :=
  pe_weak (pe_callB (cr_sortedSet o.calm) hg hm PyProof.Rows.boot_sorted (pa_cons (pe_callTy (cr_setLI o) hg2 hm2 boot_set (aa1 ha he) (by decide) (by decide) he hp2) pa_nil he2) (by decide) (by decide) he2 hp) fun σ H Q ⟨q1, q2⟩ => ⟨q1, fun ss vs H1 f r z => by
    subst z
    cases r with
    | cons r1 r2 =>
      cases r2
      obtain ⟨p, us, rfl, e1, e2⟩ := lst_of hs r1.1
      rw [RpL.ints e2] at e1
      refine ⟨p, ns, rfl, e1, Nat.lt_of_le_of_lt (Nat.succ_le_succ hl) (by decide), fun q' hq => ?_⟩
      refine ⟨q', _, _, rfl, upd_same, h64, fun ns' t h1 h2 h3 ht => ?_⟩
      have e : ns' = setS ns := pw_ext h1 (setS_pw ns) fun k => by
        rw [h2 k, setS_mem]
        simp
      subst e
      have f1 : Fr W H1 (upd H1 q' (SetO X.w q' (fun j => decide (j ∈ ns)) (setS ns).length)) := .new f.2 hq
      obtain ⟨f2, r⟩ := rs_lst (W := W) f1.2 ht (RpL.of_ints (K := X.K) (H := upd H1 q' (SetO X.w q' (fun j => decide (j ∈ ns)) (setS ns).length)) (setS ns))
      exact q2 _ _ _ ((f.trans f1).trans f2) (r.back q1.j (f.trans f1)) rfl⟩
/-! tuple(range(n)) -/
theorem wTupRg {k n : Nat} {i : Int} {p2 pos2 pn : Pos} (o : Cok k X) (hm : X.mg "tuple" = none) (hm2 : X.mg "range" = none) (ha : AEq X W a δ (.d (.int i))) (hi : i = (n : Int)) (hn : n ≤ 1000) (hg : Gl X "tuple" := by rfl) (hg2 : Gl X "range" := by rfl) (na : starEach [a] X.env = (false, eval a X.env) :: starEach [] X.env := by rfl)
    (na2 : starEach [.Call (.Name "range" p2) [a] [] pos2] X.env = (false, eval (.Call (.Name "range" p2) [a] [] pos2) X.env) :: starEach [] X.env := by rfl) :
    AEq X W (.Call (.Name "tuple" pn) [.Call (.Name "range" p2) [a] [] pos2] [] pos) δ (.d (.tup ((List.range n).map fun i : Nat => D.int (i : Int)))) := by
  subst hi
  exact pe_weak (pe_tupRg o.calm hg hm (prg_1 hg2 hm2 ha na) na2) fun σ H Q ⟨q1, q2⟩ => ⟨q1, fun s v H1 f r z => by
    subst z
    refine ⟨n, sv_int r.1, RgOk.of_le (by decide) (by omega) (by decide) (by omega), fun t ht => ?_⟩
    have e : rgV 0 (n : Int) = (List.range n).map fun i : Nat => V.int (i : Int) := by
      unfold rgV
      rw [Int.sub_zero, Int.toNat_natCast]
      simp
    rw [e]
    obtain ⟨f2, r2⟩ := rs_tup (W := W) f.2 ht (RpL.rg (K := X.K) (H := H1) n)
    exact q2 _ _ _ (f.trans f2) (r2.back q1.j f) rfl⟩
/-! tuple([..]), its object known -/
def kTupF (K : PySem.W.Frag) (x : V) (H : Hp) (Q : VK) : Prop := ∃ p xs, x = .ref p ∧ SqL K H p xs ∧ ∀ q ob, H q = none → ob.dict = none → Q (.ref q) (upd H q (.frz ob (.tup xs)))
theorem rl_tupF (pins : List (Addr × Obj)) (s : Shared) (σ : L2.St) (H : Hp) (x : V) (v : Value) (Q : VK) (I : Inv X pins σ H s) (r : RelV x v) (h : kTupF X.K x H Q) :
    wpAny (model X.prog X.w) X.A (call (.type "tuple") [v]) (EP X pins σ Q) X.xe s := by
  obtain ⟨p, xs, rfl, hs, q⟩ := h
  obtain rfl : v = .ref p := r
  obtain ⟨its, rv, pl, hz⟩ := I.list hs
  refine call_tuple_list pl.isList (fun h' hk => ?_) (by rw [List.size_toArray, ← rv.length]; exact hz)
  have I1 : Inv X pins σ H { s with heap := h' } := I.kept (t' := s.toks) hk
  have hg : (h'.push { cls := .type "tuple", data := .seq its.toArray }).get? h'.objs.size = some { cls := .type "tuple", data := .seq its.toArray } := Heap.get?_push_size _ rfl
  have I2 : Inv X pins σ (upd H h'.objs.size (.frz { cls := .type "tuple", data := .seq its.toArray } (.tup xs))) { s with heap := h'.push { cls := .type "tuple", data := .seq its.toArray } } :=
    I1.laid (t' := s.toks) (fun b o e => Heap.get?_push_of_some _ e) (Nat.le_refl _) (show ObjOk X.prog X.w _ _ _ (.frz _ (.tup xs)) from ⟨hg, hz, its, rv, IsTup.new _ _⟩)
  exact ⟨.ref h'.objs.size, upd H h'.objs.size _, I2, rfl, q _ _ (I1.hok.fresh (Nat.le_refl _)) rfl⟩
theorem wTupF {s : S} {ds : List D} {pn : Pos} (hm : X.mg "tuple" = none) (ha : AEq X W a δ s) (hs : s = .own ds ∨ s = .l ds) (hg : Gl X "tuple" := by rfl) (na : starEach [a] X.env = (false, eval a X.env) :: starEach [] X.env := by rfl) : AEq X W (.Call (.Name "tuple" pn) [a] [] pos) δ (.ft ds) := by
  have g : PE X (.Call (.Name "tuple" pn) [a] [] pos) (tThen (cE X.K W δ (· = s)) (kTupF X.K)) := ⟨fun pins s' σ H Q I h => Call_ (ld_blt I hg hm boot_tuple (PyProof.Rows.callWith_type1 (one_arg ha I h (fun v s2 x H2 I2 r q => rl_tupF pins s2 σ H2 x v Q I2 r q) na) na))⟩
  exact pe_weak g fun σ H Q ⟨q1, q2⟩ => ⟨q1, fun t v H1 f1 r1 z => by
    subst z
    obtain ⟨p, vs, rfl, e2, e3⟩ := lst_of hs r1.1
    refine ⟨p, vs, rfl, e2, fun u ob hu hd => ?_⟩
    have f2 : Fr W H1 (upd H1 u (.frz ob (.tup vs))) := .new f1.2 hu
    exact q2 (.ft ds) _ _ (f1.trans f2) ⟨⟨u, vs, ob, rfl, upd_same, hd, RpL.mono (.new hu) _ _ e3⟩, fun m => m.elim⟩ rfl⟩
/-- a slice of such a tuple, not the whole -/
theorem ae_slToF {ds : List D} {s : S} {k : Nat} {i : Int} {p2 : Pos} (ha : AEq X W a δ s) (hs : IsT s ds) (hb : AEq X W b δ (.d (.int i))) (hi : i = (k : Int)) (hk : k < ds.length) : AEq X W (.Subscript a (.Slice none (some b) none p2) pos) δ (.d (.tup (ds.take k))) := by
  subst hi
  refine pe_weak (pe_slice sl_tupA ha po_0 (po_i hb)) fun σ H Q z => sl_core (fun x H Q j h q => ?_) z
  obtain ⟨p, vs, rfl, e2, e3⟩ := sv_isT hs h
  have hl := e3.len
  refine ⟨p, vs, rfl, e2, fun full => ?_, fun _ t ht => ?_⟩
  · have := full.2
    rw [HT.sIx_nat] at this
    omega
  · rw [cutV_to]
    obtain ⟨f, r⟩ := rs_tup (W := W) j ht (e3.take k)
    exact q _ _ f r
theorem ae_ixF {s : S} {ds : List D} {j : Nat} {i : Int} {d : D} (ha : AEq X W a δ s) (hb : AEq X W b δ (.d (.int i))) (hs : IsT s ds) (h : ds[j]? = some d) (hi : i = (j : Int) := by rfl) (hp : PlainIx b := by exact fun _ _ => rfl) : AEq X W (.Subscript a b pos) δ (.d d) := by
  subst hi
  exact pe_weak (pe_ix ix_seq ha hb hp) fun σ H Q z => op_core (P1 := (· = s)) (P2 := (· = .d (.int (j : Int)))) (fun t1 t2 e1 e2 => by
    subst e1 e2
    intro x y H Q jj h1 h2 q
    obtain ⟨a, vs, rfl, e2, e3⟩ := sv_isT hs h1
    obtain ⟨v, hv, rv⟩ := e3.get h
    exact .inr (.inl ⟨a, vs, _, v, rfl, sv_int h2, e2, atI_nat hv, q (.d d) v H (.refl jj) (.ofd rv) rfl⟩)) z
theorem wLenF {s : S} {ds : List D} {pn : Pos} (hm : X.mg "len" = none) (ha : AEq X W a δ s) (hs : IsT s ds) (hg : Gl X "len" := by rfl) (he : starEach [a] X.env = (false, eval a X.env) :: starEach [] X.env := by rfl) (hp : (backTo pos (starEach [] X.env)).any (·.1) = false := by rfl) :
    AEq X W (.Call (.Name "len" pn) [a] [] pos) δ (.d (.int (ds.length : Int))) := ae_cb call_len_seq hg hm PySem.boot_len (aa1 ha he) (fun vs H Q j r1 q => by
  cases r1 with
  | cons r1 r2 =>
    cases r2
    obtain ⟨a, us, rfl, e2, e3⟩ := sv_isT hs r1
    refine ⟨a, us, rfl, .inr e2, ?_⟩
    rw [e3.len]
    exact q _ _ H (.refl j) (.ofd rp_int) rfl) (by decide) (by decide) he hp
end
end NR
namespace NR
open PySem PySem.Spec PyProof.Rows L2
section
variable {X : Cx} {W : Wd} {e a b c elt tg iter tg1 iter1 : Expr} {es ifs ifs1 : List Expr} {δ δ' : Env} {P P1 P2 P3 : S → Prop} {B B1 B2 : Bool → Prop} {pos : Pos}
theorem SRs.dummy : True := trivial
theorem SRwipe {K : PySem.W.Frag} {σ : L2.St} {H : Hp} (h : SR K W δ σ H) (vs : List Nat) : SR K W (wipeE δ vs) (wipe σ vs) H := h.wipe vs
/-- two fors; the second over something that is no list -/
theorem ae_lc2 {α β : Type} {k : Nat} {xs : List α} {enc : α → D} (ys : α → List β) {encb : β → D} {scope : Scope} {own : List (Str × Nat)} {ix jx vs1 : List Nat} (t1 : α → β → Bool) (g : α → β → D) (up : α → Env → Env) (up1 : β → Env → Env) (o : Cok k X)
    (ok : BlkOk X.N X.env.scope scope own) (hix : ∀ i ∈ ix, i ∈ own.map fun p : Str × Nat => p.2) (hjx : ∀ i ∈ jx, i ∈ vs1) (hv : ∀ i ∈ vs1, i ∈ own.map fun p : Str × Nat => p.2) (hlen : (xs.flatMap ys).length ≤ 100000)
    (hs : ∀ x, foldedSetIterable iter X.env x = pure x) (hs1 : ∀ env x, foldedSetIterable iter1 env x = pure x) (hi : AI X W tg iter δ (xs.map enc))
    (hg : ∀ (s : Shared) (H : Hp) (C : Addr) (cl : List (Str × Addr)) (fp : List Addr) x, AG (X.blk s H scope (compEnvC scope cl C X.env) fp) tg ix (enc x) (up x))
    (hi1 : ∀ (s : Shared) (H : Hp) (C : Addr) (cl : List (Str × Addr)) (fp : List Addr) x, x ∈ xs → AI0 (X.blk s H scope (compEnvC scope cl C X.env) fp) W tg1 iter1 (up x (wipeE δ (own.map fun p : Str × Nat => p.2))) ((ys x).map encb))
    (hg1 : ∀ (s : Shared) (H : Hp) (C : Addr) (cl : List (Str × Addr)) (fp : List Addr) y, AG (X.blk s H scope (compEnvC scope cl C X.env) fp) tg1 jx (encb y) (up1 y))
    (ht1 : ∀ (s : Shared) (H : Hp) (C : Addr) (cl : List (Str × Addr)) (fp : List Addr) x y, x ∈ xs → y ∈ ys x → ATs (X.blk s H scope (compEnvC scope cl C X.env) fp) W ifs1 (up1 y (wipeE (up x (wipeE δ (own.map fun p : Str × Nat => p.2))) vs1)) (· = t1 x y))
    (he : ∀ (s : Shared) (H : Hp) (C : Addr) (cl : List (Str × Addr)) (fp : List Addr) x y, x ∈ xs → y ∈ ys x → t1 x y = true → AEq (X.blk s H scope (compEnvC scope cl C X.env) fp) W elt (up1 y (wipeE (up x (wipeE δ (own.map fun p : Str × Nat => p.2))) vs1)) (.d (g x y))) :
    AEq X W (.ListComp elt [⟨tg, iter, [], 0⟩, ⟨tg1, iter1, ifs1, 0⟩] scope pos) δ (.own (xs.flatMap fun x => ((ys x).filter (t1 x)).map (g x))) := by
  refine pe_weak (pe_lc2 (vs1 := vs1) (wi := cI X.K W δ (xs.map enc)) (g := fun v σ H Q => ∃ x : α, cG X.K ix (enc x) (up x) v σ H Q)
    (tt := fun σ H Q => ∃ δ', cT X.K W δ' (· = true) σ H Q)
    (wi1 := fun σ H R => ∃ q : {x : α // x ∈ xs}, cI0 X.K W (up q.1 (wipeE δ (own.map fun p : Str × Nat => p.2))) ((ys q.1).map encb) σ H R)
    (g1 := fun v σ H Q => ∃ y : β, cG X.K jx (encb y) (up1 y) v σ H Q)
    (tt1 := fun σ H Q => ∃ q : {q : α × β // q.1 ∈ xs ∧ q.2 ∈ ys q.1}, cT X.K W (up1 q.1.2 (wipeE (up q.1.1 (wipeE δ (own.map fun p : Str × Nat => p.2))) vs1)) (· = t1 q.1.1 q.1.2) σ H Q)
    (te := fun σ H Q => ∃ q : {q : α × β // q.1 ∈ xs ∧ q.2 ∈ ys q.1 ∧ t1 q.1 q.2 = true}, cE X.K W (up1 q.1.2 (wipeE (up q.1.1 (wipeE δ (own.map fun p : Str × Nat => p.2))) vs1)) (· = .d (g q.1.1 q.1.2)) σ H Q)
    o.calm o.nd hi ok hv (fun s H C cl fp => ⟨fun pins s1 σ1 H1 v u Q I r z => ?_⟩) (fun s H C cl fp => pts_ex fun δ' => ats_nil) (fun s H C cl fp => pi_ex fun q => hi1 s H C cl fp q.1 q.2) (fun s H C cl fp => ⟨fun pins s1 σ1 H1 v u Q I r z => ?_⟩)
    (fun s H C cl fp => pts_ex fun q => ht1 s H C cl fp q.1.1 q.1.2 q.2.1 q.2.2) (fun s H C cl fp => pe_ex fun q => he s H C cl fp q.1.1 q.1.2 q.2.1 q.2.2.1 q.2.2.2) hs hs1) fun σ H Q ⟨q1, q2⟩ => ⟨q1, fun J H1 f it => ?_⟩
  · obtain ⟨x, z⟩ := z
    exact (hg s H C cl fp x).run pins s1 σ1 H1 v u Q I r z
  · obtain ⟨y, z⟩ := z
    exact (hg1 s H C cl fp y).run pins s1 σ1 H1 v u Q I r z
  intro Dl hDl
  have hDn : H Dl = none := f.back q1.j hDl
  have nD : ¬ W.bd Dl := Wd.fresh q1.j hDn
  have q1' := q1.mono f
  refine ⟨fun i m H' => m = xs.length - i ∧ i ≤ xs.length ∧ Fr W H1 H' ∧ ∃ vs, H' Dl = some (.lst vs) ∧ RpL X.K H' ((xs.take i).flatMap fun x => ((ys x).filter (t1 x)).map (g x)) vs, ⟨xs.length, by simp, Nat.zero_le _, .new q1'.j hDl, [], upd_same, .nil⟩, ?_⟩
  rintro i m H' ⟨rfl, hi', f1, vs, hD, hr⟩
  by_cases hlt : i < xs.length
  · have hd : (xs.map enc)[i]? = some (enc xs[i]) := by rw [List.getElem?_map, List.getElem?_eq_getElem hlt] <;> rfl
    have hmem : xs[i] ∈ xs := List.getElem_mem hlt
    refine .inr ⟨it.go i _ H' hd f1.2 f1.1 (f1.ext q1'.j), fun H' => i + 1 ≤ xs.length ∧ Fr W H1 H' ∧ ∃ vs, H' Dl = some (.lst vs) ∧ RpL X.K H' ((xs.take (i + 1)).flatMap fun x => ((ys x).filter (t1 x)).map (g x)) vs, fun H'' w => ⟨xs.length - (i + 1), by omega, rfl, w⟩, fun x H2 y => ?_⟩
    obtain ⟨f2, rx⟩ := it.yld i _ H' x H2 hd f1.2 f1.1 (f1.ext q1'.j) y
    refine ⟨xs[i], rx, fun σ2 u => ⟨(u.wp _ hix).trans (wipe_wipe fun _ h => h), ?_⟩⟩
    have hsr : SR X.K W (up xs[i] (wipeE δ (own.map fun p : Str × Nat => p.2))) σ2 H2 := u.sr W _ _ (.refl _) ((q1'.mono (f1.trans f2)).wipe _)
    refine ⟨_, hsr, fun b H3 f3 pb => ?_⟩
    subst pb
    refine ⟨⟨xs[i], hmem⟩, hsr.mono f3, fun J1 H4 f4 it1 => ?_⟩
    have f04 : Fr W H1 H4 := ((f1.trans f2).trans f3).trans f4
    have f24 : Fr W H' H4 := (f2.trans f3).trans f4
    have hD4 : H4 Dl = some (.lst vs) := f24.1 _ _ nD hD
    have hr4 : RpL X.K H4 ((xs.take i).flatMap fun x => ((ys x).filter (t1 x)).map (g x)) vs := RpL.mono (f24.ext f1.2) _ _ hr
    have hsr4 := (hsr.mono f3).mono f4
    have it1 := it1 (fun _ => none)
    have sb0 : ∀ H, Sub W (fun _ => none) H := fun H b o _ e => by cases e
    have etk : (xs.take (i + 1)).flatMap (fun x => ((ys x).filter (t1 x)).map (g x)) = (xs.take i).flatMap (fun x => ((ys x).filter (t1 x)).map (g x)) ++ ((ys xs[i]).filter (t1 xs[i])).map (g xs[i]) := by
      rw [List.take_add_one, List.getElem?_eq_getElem hlt, List.flatMap_append]
      simp
    have hln : ((xs.take (i + 1)).flatMap fun x => ((ys x).filter (t1 x)).map (g x)).length ≤ 100000 := by
      refine Nat.le_trans ?_ hlen
      rw [List.length_flatMap, List.length_flatMap]
      refine Nat.le_trans (?_ : _ ≤ ((xs.take (i + 1)).map fun x => (ys x).length).sum) ?_
      · generalize xs.take (i + 1) = zs
        induction zs with
        | nil => exact Nat.le_refl _
        | cons z zs ih =>
          simp only [List.map_cons, List.sum_cons, List.length_map]
          have := List.length_filter_le (t1 z) (ys z)
          simp only [List.length_map] at ih
          omega
      · have e := List.take_append_drop (i + 1) xs
        conv => rhs; rw [← e]
        rw [List.map_append, List.sum_append]
        omega
    refine ⟨fun j k H' => k = (ys xs[i]).length - j ∧ j ≤ (ys xs[i]).length ∧ Fr W H1 H' ∧ ExT H4 H' ∧ ∃ vs, H' Dl = some (.lst vs) ∧ RpL X.K H' ((xs.take i).flatMap (fun x => ((ys x).filter (t1 x)).map (g x)) ++ (((ys xs[i]).take j).filter (t1 xs[i])).map (g xs[i])) vs, ⟨(ys xs[i]).length, by simp, Nat.zero_le _, f04, .refl _, vs, hD4, by simpa using hr4⟩, ?_⟩
    rintro j k H5 ⟨rfl, hj', f5, x5, ws, hD5, hr5⟩
    by_cases hjlt : j < (ys xs[i]).length
    · have hd1 : ((ys xs[i]).map encb)[j]? = some (encb (ys xs[i])[j]) := by rw [List.getElem?_map, List.getElem?_eq_getElem hjlt] <;> rfl
      have hmem1 : (ys xs[i])[j] ∈ ys xs[i] := List.getElem_mem hjlt
      refine .inr ⟨it1.go j _ H5 hd1 f5.2 (sb0 _) x5, fun H' => j + 1 ≤ (ys xs[i]).length ∧ Fr W H1 H' ∧ ExT H4 H' ∧ ∃ vs, H' Dl = some (.lst vs) ∧ RpL X.K H' ((xs.take i).flatMap (fun x => ((ys x).filter (t1 x)).map (g x)) ++ (((ys xs[i]).take (j + 1)).filter (t1 xs[i])).map (g xs[i])) vs, fun H'' w => ⟨(ys xs[i]).length - (j + 1), by omega, rfl, w⟩, fun x1 H6 y1 => ?_⟩
      obtain ⟨f6, rx1⟩ := it1.yld j _ H5 x1 H6 hd1 f5.2 (sb0 _) x5 y1
      have f56 := f5.trans f6
      have f26 : ExT H2 H6 := ((f3.trans f4).ext f2.2).trans (x5.trans (f6.ext f5.2))
      have hsr6 : SR X.K W (up xs[i] (wipeE δ (own.map fun p : Str × Nat => p.2))) σ2 H6 := u.sr W _ _ f26 ((q1'.mono f56).wipe _)
      refine ⟨(ys xs[i])[j], rx1, fun σ3 u1 => ⟨(u1.wp _ hjx).trans (wipe_wipe fun _ h => h), ?_⟩⟩
      have hsr7 : SR X.K W (up1 (ys xs[i])[j] (wipeE (up xs[i] (wipeE δ (own.map fun p : Str × Nat => p.2))) vs1)) σ3 H6 := u1.sr W _ _ (.refl _) (hsr6.wipe _)
      refine ⟨⟨(xs[i], (ys xs[i])[j]), hmem, hmem1⟩, hsr7, fun b H7 f7 pb => ?_⟩
      have f67 := f6.trans f7
      have hD7 : H7 Dl = some (.lst ws) := f67.1 _ _ nD hD5
      have hr7 := RpL.mono (f67.ext f5.2) _ _ hr5
      have ej : (ys xs[i])[j]? = some (ys xs[i])[j] := List.getElem?_eq_getElem hjlt
      cases b with
      | false =>
        refine ⟨hjlt, f5.trans f67, x5.trans (f67.ext f5.2), ws, hD7, ?_⟩
        rw [List.take_add_one, ej, List.filter_append]
        have e0 : List.filter (t1 xs[i]) (some (ys xs[i])[j]).toList = [] := by
          show List.filter (t1 xs[i]) [(ys xs[i])[j]] = []
          rw [List.filter_cons, if_neg (by rw [← pb]; decide)] <;> rfl
        rw [e0, List.append_nil]
        exact hr7
      | true =>
        refine ⟨⟨(xs[i], (ys xs[i])[j]), hmem, hmem1, pb.symm⟩, hsr7.mono f7, fun s v H8 f8 r8 p8 => ?_⟩
        subst p8
        have hD8 : H8 Dl = some (.lst ws) := f8.1 _ _ nD hD7
        have hr8 := RpL.mono (f8.ext f7.2) _ _ hr7
        have e0 : ((xs.take i).flatMap fun x => ((ys x).filter (t1 x)).map (g x)) ++ (((ys xs[i]).take (j + 1)).filter (t1 xs[i])).map (g xs[i]) = (((xs.take i).flatMap fun x => ((ys x).filter (t1 x)).map (g x)) ++ (((ys xs[i]).take j).filter (t1 xs[i])).map (g xs[i])) ++ [g xs[i] (ys xs[i])[j]] := by
          rw [List.take_add_one, ej, List.filter_append, List.map_append]
          have : List.filter (t1 xs[i]) (some (ys xs[i])[j]).toList = [(ys xs[i])[j]] := by
            show List.filter (t1 xs[i]) [(ys xs[i])[j]] = _
            rw [List.filter_cons, if_pos pb.symm] <;> rfl
          rw [this, List.append_assoc] <;> rfl
        refine ⟨ws, hD8, ?_, hjlt, ⟨fun b o nb z => ?_, Wd.jmut f8.2 nD⟩, (x5.trans (f67.ext f5.2)).trans ((f8.ext f7.2).trans (.mut fun u hu => by
            rw [hD8] at hu
            cases hu
            exact id)), ws ++ [v], upd_same, ?_⟩
        · rw [hr8.len]
          refine Nat.lt_of_le_of_lt (?_ : _ ≤ 100000) (by decide)
          refine Nat.le_trans ?_ hln
          rw [etk, List.length_append, List.length_append]
          have h9 : (((ys xs[i]).take j).filter (t1 xs[i])).length ≤ ((ys xs[i]).filter (t1 xs[i])).length := List.Sublist.length_le (List.Sublist.filter _ (List.take_sublist _ _))
          simp only [List.length_map]
          omega
        · rw [upd_ne (ne_of_none z hDl)]
          exact ((f5.trans f67).trans f8).1 b o nb z
        · rw [e0]
          exact RpL.mono (.mut fun u hu => by
            rw [hD8] at hu
            cases hu
            exact id) _ _ (hr8.snoc r8.1)
    · have e : j = (ys xs[i]).length := by omega
      subst e
      refine .inl ⟨it1.stop _ H5 (by rw [List.length_map]; exact Nat.le_refl _) f5.2 (sb0 _) x5, hlt, f5, ws, hD5, ?_⟩
      rw [etk]
      rw [List.take_length] at hr5
      exact hr5
  · have e : i = xs.length := by omega
    subst e
    rw [List.take_length] at hr
    exact .inl ⟨it.stop _ H' (by rw [List.length_map]; exact Nat.le_refl _) f1.2 f1.1 (f1.ext q1'.j), q2 (.own _) _ H' (f.trans f1) ⟨⟨Dl, vs, rfl, hD, nD, hr⟩, fun _ a ea => by
      cases ea
      exact hDn⟩ rfl⟩

/-! a dict with tuples of ints as keys -/
def lookD (kvs : List (List Int × Int)) (k : List Int) : Option Int := (kvs.find? fun p => decide (p.1 = k)).map (·.2)
def putD (kvs : List (List Int × Int)) (k : List Int) (v : Int) : List (List Int × Int) := if (kvs.any fun p => decide (p.1 = k)) = true then kvs.map (fun p => if p.1 = k then (p.1, v) else p) else kvs ++ [(k, v)]
theorem inl_inj {k j : List Int} : ((k.map Sum.inl : List L2.Key) = j.map Sum.inl) ↔ k = j := ⟨fun h => by
  induction k generalizing j with
  | nil =>
    cases j with
    | nil => rfl
    | cons => simp at h
  | cons x k ih =>
    cases j with
    | nil => simp at h
    | cons y j =>
      simp only [List.map_cons, List.cons.injEq, Sum.inl.injEq] at h
      rw [h.1, ih h.2], fun h => h ▸ rfl⟩
theorem valV_dic (k : List Int) : ∀ kvs : List (List Int × Int), valV (dicV kvs) (k.map Sum.inl) = (lookD kvs k).map V.int
  | [] => rfl
  | p :: r => by
    have ih := valV_dic k r
    by_cases e : p.1 = k
    · have e' : ((p.1.map Sum.inl, V.int p.2) : List L2.Key × V).1 = k.map Sum.inl := inl_inj.mpr e
      show valV ((p.1.map Sum.inl, V.int p.2) :: dicV r) _ = _
      rw [valV_pos e']
      unfold lookD
      rw [List.find?_cons, decide_eq_true e] <;> rfl
    · have e' : ¬ ((p.1.map Sum.inl, V.int p.2) : List L2.Key × V).1 = k.map Sum.inl := fun h => e (inl_inj.mp h)
      show valV ((p.1.map Sum.inl, V.int p.2) :: dicV r) _ = _
      rw [valV_neg e', ih]
      unfold lookD
      rw [List.find?_cons, decide_eq_false e]
theorem putK_dic (k : List Int) (v : Int) (kvs : List (List Int × Int)) : putK (dicV kvs) (k.map Sum.inl) (V.int v) = dicV (putD kvs k v) := by
  have h1 : ((dicV kvs).any fun kv => decide (kv.1 = k.map Sum.inl)) = (kvs.any fun p => decide (p.1 = k)) := by
    unfold dicV
    rw [List.any_map]
    congr 1
    funext p
    show decide ((p.1.map Sum.inl : List L2.Key) = k.map Sum.inl) = decide (p.1 = k)
    exact decide_eq_decide.mpr inl_inj
  unfold putK putD
  rw [h1]
  split
  · unfold dicV
    rw [List.map_map, List.map_map]
    refine List.map_congr_left fun p _ => ?_
    show (if (p.1.map Sum.inl : List L2.Key) = k.map Sum.inl then (p.1.map Sum.inl, V.int v) else (p.1.map Sum.inl, V.int p.2)) = (((if p.1 = k then (p.1, v) else p).1.map Sum.inl : List L2.Key), V.int (if p.1 = k then (p.1, v) else p).2)
    by_cases e : p.1 = k
    · rw [if_pos (inl_inj.mpr e), if_pos e]
    · rw [if_neg (fun h => e (inl_inj.mp h)), if_neg e]
  · unfold dicV
    rw [List.map_append] <;> rfl
theorem kV_inl (k : List Int) : (k.map Sum.inl).map kV = k.map V.int := by
  rw [List.map_map]
  rfl
theorem ae_dnew : AEq X W (.Dict [] [] pos) δ (.dic []) := pe_weak pe_dnewT fun σ H Q ⟨q1, q2⟩ => fun p hp => by
  have f : Fr W H (upd H p (.dT [])) := .new q1.j hp
  exact q2 (.dic []) _ _ f ⟨⟨p, rfl, upd_same, Wd.fresh q1.j hp⟩, fun _ a ea => by
    cases ea
    exact hp⟩ rfl
theorem ae_dget {k i : Nat} {x : Str} {kvs : List (List Int × Int)} {ks : List Int} {v : Int} {pn apos cpos : Pos} (o : Cok k X) (hs : δ[i]? = some (some (.dic kvs))) (hN : X.N[i]? = some x) (hv : Vis X.env.scope x) (hd : (x == ("__debug__" : Str)) = false) (hc : (x == ("__classdict__" : Str)) = false)
    (ha : AEq X W a δ (.d (tupI ks))) (hb : AEq X W b δ (.d (.int v))) (m : M2 X (.Name x pn) "get" apos a b cpos) : AEq X W (.Call (.Attribute (.Name x pn) "get" apos) [a, b] [] cpos) δ (.d (.int ((lookD kvs ks).getD v))) :=
  pe_weak (pe_dget2 (by have := o.hu; omega) (pe_var hN hv hd hc) ha hb m) fun σ H Q ⟨q1, q2⟩ => by
    obtain ⟨u, e1, e2⟩ := q1.at_ i _ hs
    obtain ⟨p, rfl, e3, e4⟩ := e2
    refine ⟨_, e1, p, rfl, .inr ⟨_, .inl e3⟩, q1, fun s1 y H1 f1 r1 z1 => ⟨q1.mono f1, fun s2 z H2 f2 r2 z2 => ?_⟩⟩
    subst z1 z2
    obtain ⟨p', vs, rfl, g1, g2⟩ := sv_tup (r1.1.mono f1.2 f2)
    rw [RpL.ints g2] at g1
    rw [sv_int r2.1]
    have e5 : H2 p = some (.dT (dicV kvs)) := (f1.trans f2).1 _ _ e4 e3
    refine ⟨_, DGet.t (k := ks.map Sum.inl) e5 (by rw [kV_inl]; exact g1), ?_⟩
    rw [valV_dic]
    have e6 : ((lookD kvs ks).map V.int).getD (.int v) = .int ((lookD kvs ks).getD v) := by
      cases lookD kvs ks <;> rfl
    rw [e6]
    exact q2 _ _ H2 (f1.trans f2) (.ofd rp_int) rfl
variable {st : Stmt} {rest body : List Stmt} {p q : Post}
theorem ass_dput {k i : Nat} {x : Str} {kvs : List (List Int × Int)} {ks : List Int} {v : Int} {pn spos : Pos} (o : Cok k X) (he : δ[i]? = some (some (.dic kvs))) (hN : X.N[i]? = some x) (hv : Vis X.env.scope x) (hd : (x == ("__debug__" : Str)) = false) (hc : (x == ("__classdict__" : Str)) = false) (hlen : kvs.length < 100000)
    (h : AEq X W e δ (.d (.int v))) (hi : AEq X W a δ (.d (tupI ks))) (hs : swapsWith e (some (.Subscript (.Name x pn) a spos)) pos.line X.env = pure false)
    (t : ASs X W rest (δ.set i (some (.dic (putD kvs ks v)))) p) : ASs X W (.Assign [.Subscript (.Name x pn) a spos] e pos :: rest) δ p := by
  refine ass_cons (fun δ' => δ' = δ.set i (some (.dic (putD kvs ks v)))) (ps_weak (ps_dput (by have := o.hu; omega) (pe_var hN hv hd hc) hi h hs) fun D σ H ⟨B, q1, q2⟩ => ⟨q1.sr, fun s w H1 f r z => ?_⟩) fun δ' e => e ▸ t
  subst z
  obtain ⟨u, e1, e2⟩ := q1.at_ i _ he
  obtain ⟨p', rfl, e3, e4, e5⟩ := e2
  refine ⟨_, e1, (q1.fr f).sr, fun s2 y H2 f2 r2 z2 => ?_⟩
  subst z2
  obtain ⟨p2, vs, rfl, g1, g2⟩ := sv_tup r2.1
  rw [RpL.ints g2] at g1
  rw [sv_int r.1]
  have f12 := f.trans f2
  have e7 : H2 p' = some (.dT (dicV kvs)) := f12.1 _ _ e4 e5
  refine ⟨p', _, rfl, DPut.t (k := ks.map Sum.inl) e7 (by rw [kV_inl]; exact g1) (by unfold dicV; rw [List.length_map]; exact Nat.lt_of_lt_of_le hlen (by decide)), ?_⟩
  rw [putK_dic]
  have hu : ∀ u, H2 p' = some u → ¬ Stat u := fun u z => by
    rw [e7] at z
    cases z
    exact id
  have w1 := (q1.fr f12).write (a := p') (o := .dT (dicV (putD kvs ks v))) he e1 trivial (t := .dic (putD kvs ks v)) trivial e3 e4 hu ⟨p', rfl, e3, e4, upd_same⟩
  exact q2.nx B _ _ _ (.refl B) ((f12.ext q1.j).trans (.mut hu)) rfl w1
end
end NR
namespace NR
open PySem PySem.Spec PyProof.Rows L2
abbrev C3 (elt t0 i0 t1 i1 t2 i2 : Expr) (scope : Scope) (pos : Pos) : Expr := .ListComp elt [⟨t0, i0, [], 0⟩, ⟨t1, i1, [], 0⟩, ⟨t2, i2, [], 0⟩] scope pos
theorem turn3_2 (elt t0 i0 t1 i1 t2 i2 : Expr) (scope : Scope) (pos : Pos) (it acc : Value) (env : PySem.Env) :
    compTurn (C3 elt t0 i0 t1 i1 t2 i2 scope pos) 2 it acc env = (do
      standAt i2.pos
      match ← pyNext it with
      | none => pure (.done .next)
      | some v =>
        letOwnedTupleGo t2 it v
        assign t2 env v
        (do let _ ← call (.builtin "list.append") [acc, ← eval elt env])
        again (.compLoop (C3 elt t0 i0 t1 i1 t2 i2 scope pos) 2 it acc env)) := by rfl
theorem turn3_1 (elt t0 i0 t1 i1 t2 i2 : Expr) (scope : Scope) (pos : Pos) (it acc : Value) (env : PySem.Env) :
    compTurn (C3 elt t0 i0 t1 i1 t2 i2 scope pos) 1 it acc env = (do
      standAt i1.pos
      match ← pyNext it with
      | none => pure (.done .next)
      | some v =>
        letOwnedTupleGo t1 it v
        assign t1 env v
        let x ← eval i2 env
        standAt i2.pos
        let x ← foldedSetIterable i2 env x
        let _ ← runOwn (.compStart (C3 elt t0 i0 t1 i1 t2 i2 scope pos) 2 (← holding [x] (pyIter x)) acc env) env
        again (.compLoop (C3 elt t0 i0 t1 i1 t2 i2 scope pos) 1 it acc env)) := by rfl
theorem turn3_0 (elt t0 i0 t1 i1 t2 i2 : Expr) (scope : Scope) (pos : Pos) (it acc : Value) (env : PySem.Env) :
    compTurn (C3 elt t0 i0 t1 i1 t2 i2 scope pos) 0 it acc env = (do
      standAt i0.pos
      match ← pyNext it with
      | none => pure (.done .next)
      | some v =>
        letOwnedTupleGo t0 it v
        assign t0 env v
        let x ← eval i1 env
        standAt i1.pos
        let x ← foldedSetIterable i1 env x
        let _ ← runOwn (.compStart (C3 elt t0 i0 t1 i1 t2 i2 scope pos) 1 (← holding [x] (pyIter x)) acc env) env
        again (.compLoop (C3 elt t0 i0 t1 i1 t2 i2 scope pos) 0 it acc env)) := by rfl
section
variable {prog : Program} {w : World} {A : Around} {R : Result → Shared → Prop} {s : Shared} {l : Nat} {ip ip1 : Pos} {elt t i1 : Expr} {gs : List Comprehension} {scope : Scope} {pos : Pos} {it acc : Value} {env : PySem.Env}
/-- a loop whose turns start a loop within -/
theorem loop_out (hT : compTurn (.ListComp elt gs scope pos) l it acc env = (do
      standAt ip
      match ← pyNext it with
      | none => pure (.done .next)
      | some v =>
        letOwnedTupleGo t it v
        assign t env v
        let x ← eval i1 env
        standAt ip1
        let x ← foldedSetIterable i1 env x
        let _ ← runOwn (.compStart (.ListComp elt gs scope pos) (l + 1) (← holding [x] (pyIter x)) acc env) env
        again (.compLoop (.ListComp elt gs scope pos) l it acc env))) (hs : ∀ x, foldedSetIterable i1 env x = pure x) (I : Nat → Shared → Prop)
    (turn : ∀ n s, I n s → wpAny (model prog w) A (pyNext it) (fun r s₁ => match r with
      | none => R (.ok .next) s₁
      | some v => wpAny (model prog w) A (letOwnedTupleGo t it v) (fun _ s₁' => wpAny (model prog w) A (assign t env v) (fun _ s₃ =>
          wpAny (model prog w) A (eval i1 env) (fun x s₄ => wpAny (model prog w) A (pyIter x) (fun it1 s₅ =>
              codeAny (model prog w) A (.compStart (.ListComp elt gs scope pos) (l + 1) it1 acc env) (fun r s' => match r with
                | .ok _ => ∃ m, m < n ∧ I m s'
                | .error _ => False) s₅) (notedBy (model prog w) A env fun e s' => R (.error e) s') s₄) (notedBy (model prog w) A env fun e s' => R (.error e) s') s₃) (notedBy (model prog w) A env fun e s' => R (.error e) s') s₁') (notedBy (model prog w) A env fun e s' => R (.error e) s') s₁) (notedBy (model prog w) A env fun e s' => R (.error e) s') s)
    (n : Nat) (h : I n s) : codeAny (model prog w) A (.compLoop (.ListComp elt gs scope pos) l it acc env) R s := by
  refine codeAny_loop rfl I (fun n s hI => ?_) n h
  show wpAny _ A ((compTurn (.ListComp elt gs scope pos) l it acc env).onRaise (fun x => do noteFrame x env; theTreesLotGoes x)) _ _ s
  refine wpAny_noted ?_
  rw [hT]
  refine wpAny_bind (wpAny_standAt (wpAny_bind (wpAny_mono (turn n s hI) (fun r s₁ h₁ => ?_) fun _ _ h' => h')))
  cases r with
  | none => exact wpAny_pure h₁
  | some v =>
    refine wpAny_bind (wpAny_mono h₁ (fun _ s₁' h₁' => ?_) fun _ _ h' => h')
    refine wpAny_bind (wpAny_mono h₁' (fun _ s₃ h₃ => ?_) fun _ _ h' => h')
    refine wpAny_bind (wpAny_mono h₃ (fun x s₄ h₄ => ?_) fun _ _ h' => h')
    refine wpAny_bind (wpAny_standAt (wpAny_bind (wpAny_of_eq (hs x) (wpAny_bind (wpAny_holding (wpAny_mono h₄ (fun it1 s₅ h₅ => ?_) fun _ _ h' => h'))))))
    refine wpAny_bind (wpAny_runOwn ?_)
    rw [Around.mark_none]
    refine codeAny_mono h₅ fun r s' hr => ?_
    cases r with
    | ok f =>
      first
        | exact wpAny_pure ⟨rfl, hr⟩
        | exact wpAny_bind (wpAny_pure (wpAny_pure ⟨rfl, hr⟩))
    | error e => exact hr.elim
theorem loop_in (hT : compTurn (.ListComp elt gs scope pos) l it acc env = (do
      standAt ip
      match ← pyNext it with
      | none => pure (.done .next)
      | some v =>
        letOwnedTupleGo t it v
        assign t env v
        (do let _ ← call (.builtin "list.append") [acc, ← eval elt env])
        again (.compLoop (.ListComp elt gs scope pos) l it acc env))) (I : Nat → Shared → Prop)
    (turn : ∀ n s, I n s → wpAny (model prog w) A (pyNext it) (fun r s₁ => match r with
      | none => R (.ok .next) s₁
      | some v => wpAny (model prog w) A (letOwnedTupleGo t it v) (fun _ s₁' => wpAny (model prog w) A (assign t env v) (fun _ s₃ =>
          wpAny (model prog w) A (eval elt env) (fun x s₄ =>
              wpAny (model prog w) A (call (.builtin "list.append") [acc, x]) (fun _ s₅ => ∃ m, m < n ∧ I m s₅) (notedBy (model prog w) A env fun e s' => R (.error e) s') s₄) (notedBy (model prog w) A env fun e s' => R (.error e) s') s₃) (notedBy (model prog w) A env fun e s' => R (.error e) s') s₁') (notedBy (model prog w) A env fun e s' => R (.error e) s') s₁) (notedBy (model prog w) A env fun e s' => R (.error e) s') s)
    (n : Nat) (h : I n s) : codeAny (model prog w) A (.compLoop (.ListComp elt gs scope pos) l it acc env) R s := by
  refine codeAny_loop rfl I (fun n s hI => ?_) n h
  show wpAny _ A ((compTurn (.ListComp elt gs scope pos) l it acc env).onRaise (fun x => do noteFrame x env; theTreesLotGoes x)) _ _ s
  refine wpAny_noted ?_
  rw [hT]
  refine wpAny_bind (wpAny_standAt (wpAny_bind (wpAny_mono (turn n s hI) (fun r s₁ h₁ => ?_) fun _ _ h' => h')))
  cases r with
  | none => exact wpAny_pure h₁
  | some v =>
    refine wpAny_bind (wpAny_mono h₁ (fun _ s₁' h₁' => ?_) fun _ _ h' => h')
    refine wpAny_bind (wpAny_mono h₁' (fun _ s₃ h₃ => ?_) fun _ _ h' => h')
    exact wpAny_bind (wpAny_bind (wpAny_mono h₃ (fun x s₄ h₄ => wpAny_bind (wpAny_mono h₄ (fun _ s₅ h₅ => wpAny_pure (wpAny_pure ⟨rfl, h₅⟩)) fun _ _ h' => h')) fun _ _ h' => h'))
theorem start_ok (h0 : codeAny (model prog w) A (.compLoop (.ListComp elt gs scope pos) l it acc env) R s) {g : Comprehension} (hg : gs[l]? = some g) (hga : g.is_async = 0)
    (h : wpAny (model prog w) A (pyIter it) (fun it' s' => codeAny (model prog w) A (.compLoop (.ListComp elt gs scope pos) l it' acc env) R s') (notedBy (model prog w) A env fun x s' => R (.error x) s') s) :
    codeAny (model prog w) A (.compStart (.ListComp elt gs scope pos) l it acc env) R s := by
  refine codeAny_of_tree ?_
  show wpAny _ _ ((compStart (.ListComp elt gs scope pos) l it acc env).onRaise (fun x => do noteFrame x env; standAt theWindowsPlace)) _ _ s
  refine wpAny_notedAt ?_
  unfold compStart
  rw [show (clausesOf (.ListComp elt gs scope pos))[l]? = some g from hg]
  simp only [Option.elim, hga]
  show wpAny _ _ (ask >>= _) _ _ s
  refine wpAny_bind (wpAny_askSetting (wpAny_ite ?_))
  split
  · first
      | exact wpAny_bind (wpAny_pure (wpAny_pure (And.intro rfl h0)))
      | exact wpAny_pure (And.intro rfl h0)
  · first
      | exact wpAny_bind (wpAny_rule (wpAny_bind (wpAny_standAt (wpAny_bind (wpAny_mono h (fun it' s' h' => wpAny_pure (And.intro rfl h')) fun _ _ x => x)))))
      | (refine wpAny_bind (wpAny_rule ?_); show wpAny _ _ (standAt g.iter.pos >>= _) _ _ s; exact wpAny_bind (wpAny_standAt (wpAny_bind (wpAny_mono h (fun it' s' h' => wpAny_pure (And.intro rfl h')) fun _ _ x => x))))
end

def LoopRule (M : Model) (A : Around) (code : Code) (t : Expr) (it : Value) (env : PySem.Env) (Bw : (Shared → Prop) → Shared → Prop) : Prop :=
  ∀ (R : Result → Shared → Prop) (I : Nat → Shared → Prop), (∀ n s, I n s → wpAny M A (pyNext it) (fun r s₁ => match r with
      | none => R (.ok .next) s₁
      | some v => wpAny M A (letOwnedTupleGo t it v) (fun _ s₁' => wpAny M A (assign t env v) (fun _ s₃ => Bw (fun s' => ∃ m, m < n ∧ I m s') s₃) (fun _ _ => False) s₁') (fun _ _ => False) s₁) (fun _ _ => False) s) →
    ∀ n s, I n s → codeAny M A code R s
def BwIn (M : Model) (A : Around) (elt : Expr) (acc : Value) (env : PySem.Env) (R : Shared → Prop) (s : Shared) : Prop :=
  wpAny M A (eval elt env) (fun x s₄ => wpAny M A (call (.builtin "list.append") [acc, x]) (fun _ s₅ => R s₅) (fun _ _ => False) s₄) (fun _ _ => False) s
def BwOut (M : Model) (A : Around) (C : Expr) (l : Nat) (i1 : Expr) (acc : Value) (env : PySem.Env) (R : Shared → Prop) (s : Shared) : Prop :=
  wpAny M A (eval i1 env) (fun x s₄ => wpAny M A (pyIter x) (fun it1 s₅ => codeAny M A (.compStart C l it1 acc env) (fun r s' => match r with
      | .ok _ => R s'
      | .error _ => False) s₅) (fun _ _ => False) s₄) (fun _ _ => False) s
theorem nf {M : Model} {A : Around} {α : Type} {x : Sem α} {Q Q' : α → Shared → Prop} {E : Value → Shared → Prop} {s : Shared} (h : wpAny M A x Q (fun _ _ => False) s) (k : ∀ a s, Q a s → Q' a s) : wpAny M A x Q' E s := wpAny_mono h k fun _ _ z => z.elim
section
variable {prog : Program} {w : World} {A : Around} {elt t0 i0 t1 i1 t2 i2 : Expr} {scope : Scope} {pos : Pos} {it acc : Value} {env : PySem.Env}
theorem rule3_2 : LoopRule (model prog w) A (.compLoop (C3 elt t0 i0 t1 i1 t2 i2 scope pos) 2 it acc env) t2 it env (BwIn (model prog w) A elt acc env) := fun R I turn n s h =>
  loop_in (turn3_2 elt t0 i0 t1 i1 t2 i2 scope pos it acc env) I (fun n s hI => nf (turn n s hI) fun r s₁ h₁ => by
    cases r with
    | none => exact h₁
    | some v => exact nf h₁ fun _ s₂ h₂ => nf h₂ fun _ s₃ h₃ => nf h₃ fun _ s₄ h₄ => nf h₄ fun _ _ h₅ => h₅) n h
theorem rule3_1 (hs : ∀ x, foldedSetIterable i2 env x = pure x) : LoopRule (model prog w) A (.compLoop (C3 elt t0 i0 t1 i1 t2 i2 scope pos) 1 it acc env) t1 it env (BwOut (model prog w) A (C3 elt t0 i0 t1 i1 t2 i2 scope pos) 2 i2 acc env) := fun R I turn n s h =>
  loop_out (turn3_1 elt t0 i0 t1 i1 t2 i2 scope pos it acc env) hs I (fun n s hI => nf (turn n s hI) fun r s₁ h₁ => by
    cases r with
    | none => exact h₁
    | some v => exact nf h₁ fun _ s₂ h₂ => nf h₂ fun _ s₃ h₃ => nf h₃ fun _ s₄ h₄ => nf h₄ fun _ _ h₅ => h₅) n h
theorem rule3_0 (hs : ∀ x, foldedSetIterable i1 env x = pure x) : LoopRule (model prog w) A (.compLoop (C3 elt t0 i0 t1 i1 t2 i2 scope pos) 0 it acc env) t0 it env (BwOut (model prog w) A (C3 elt t0 i0 t1 i1 t2 i2 scope pos) 1 i1 acc env) := fun R I turn n s h =>
  loop_out (turn3_0 elt t0 i0 t1 i1 t2 i2 scope pos it acc env) hs I (fun n s hI => nf (turn n s hI) fun r s₁ h₁ => by
    cases r with
    | none => exact h₁
    | some v => exact nf h₁ fun _ s₂ h₂ => nf h₂ fun _ s₃ h₃ => nf h₃ fun _ s₄ h₄ => nf h₄ fun _ _ h₅ => h₅) n h
end
/-- what a loop of the block asks -/
def tIn (g : TG) (Bd : L2.St → Hp → (Hp → Prop) → Prop) (vs1 : List Nat) (J1 : It) (Nx : Hp → Prop) (σ2 : L2.St) (H0 : Hp) : Prop := ∃ W1 : Nat → Nat → Hp → Prop, (∃ m, W1 0 m H0) ∧ ∀ j k H, W1 j k H →
  (J1.stop j H ∧ Nx H) ∨ (J1.go j H ∧ ∃ Nx1 : Hp → Prop, (∀ H', Nx1 H' → ∃ k', k' < k ∧ W1 (j + 1) k' H') ∧ ∀ x H', J1.yld j H x H' → g x (wipe σ2 vs1) H' fun σ3 H5 => wipe σ3 vs1 = wipe σ2 vs1 ∧ Bd σ3 H5 Nx1)
section
variable {X : Cx} {s3 : Shared} {H3 : Hp} {scope : Scope} {ce : PySem.Env} {fp : List Addr}
def BdOk (Xb : Cx) (vs : List Nat) (Bw : (Shared → Prop) → Shared → Prop) (Bd : L2.St → Hp → (Hp → Prop) → Prop) : Prop :=
  ∀ (pins : List (Addr × Obj)) (s : Shared) (σ3 : L2.St) (H5 : Hp) (Nx1 : Hp → Prop) (R' : Shared → Prop), Inv Xb pins σ3 H5 s → Bd σ3 H5 Nx1 →
    (∀ s' σ' H', Inv Xb pins σ' H' s' → σ'.length = σ3.length → (∀ (j : Nat) v, (wipe σ3 vs)[j]? = some (some v) → σ'[j]? = some (some v)) → Nx1 H' → R' s') → Bw R' s
theorem blk_loop {code : Code} {t : Expr} {it1 : Addr} {Bw : (Shared → Prop) → Shared → Prop} {g : TG} {Bd : L2.St → Hp → (Hp → Prop) → Prop} {vs1 : List Nat} {pins : List (Addr × Obj)} {σ8 : L2.St} {H11 : Hp} {s11 : Shared} {fp1 : List Addr} {tn1 : Nat → Heap → Prop} {J1 : It} {Nx : Hp → Prop} {R : Result → Shared → Prop}
    (hc : X.calm = true) (rule : LoopRule (model X.prog X.w) X.A code t (.ref it1) ce Bw) (pg : PG (X.blk s3 H3 scope ce fp) t g) (hb : BdOk (X.blk s3 H3 scope ce fp) vs1 Bw Bd)
    (I11 : Inv (X.blk s3 H3 scope ce fp) pins (wipe σ8 vs1) H11 s11) (T1 : Turn X.prog X.w X.K t J1 fp1 it1 tn1) (st11 : tn1 0 s11.heap) (f11 : ∀ b ∈ fp1, FpOk (X.blk s3 H3 scope ce fp) pins H11 b) (h : tIn g Bd vs1 J1 Nx σ8 H11)
    (fin : ∀ s' H', Inv (X.blk s3 H3 scope ce fp) pins (wipe σ8 vs1) H' s' → Nx H' → R (.ok .next) s') : codeAny (model X.prog X.w) X.A code R s11 := by
  obtain ⟨W1, ⟨m1, w1⟩, turn1⟩ := h
  have stat1 : ∀ {H' : Hp}, (∀ b ∈ fp1, H' b = none) → ∀ b ∈ fp1, FpOk (X.blk s3 H3 scope ce fp) pins H' b := fun hn b hb => ⟨hn b hb, (f11 b hb).2⟩
  refine rule R (fun k s' => ∃ j H', Inv (X.blk s3 H3 scope ce fp) pins (wipe σ8 vs1) H' s' ∧ tn1 j s'.heap ∧ (∀ b ∈ fp1, H' b = none) ∧ W1 j k H') ?_ m1 s11 ⟨0, H11, I11, st11, fun b hb => (f11 b hb).1, w1⟩
  rintro k s12 ⟨j, H12, I12, st12, n12, w12⟩
  rcases turn1 j k H12 w12 with ⟨stop1, nx1⟩ | ⟨go1, Nx1, hNx1, step1⟩
  · refine thnF (T1.done (X.blk s3 H3 scope ce fp) rfl rfl rfl hc j _ s12 (wipe σ8 vs1) H12 (fun _ _ => False) I12 (stat1 n12) st12 stop1) fun r s13 ⟨hr, I13⟩ => ?_
    subst hr
    exact fin _ _ I13 nx1
  · refine thnF (T1.item (X.blk s3 H3 scope ce fp) rfl rfl rfl hc j _ s12 (wipe σ8 vs1) H12 (fun _ _ => False) I12 (stat1 n12) st12 go1) fun r s13 ⟨u1, hr, h13⟩ => ?_
    subst hr
    refine thnF h13 fun _ s14 ⟨x1, H14, I14, r14, y14, st14, n14⟩ => ?_
    have I14' := I14.pinned (stat1 n14) (T1.obj _ _ st14)
    refine thnF (pg.run _ s14 (wipe σ8 vs1) H14 x1 u1 _ I14' r14 (step1 x1 H14 y14)) fun _ s15 ⟨σ15, H15, I15, hw15, q15⟩ => ?_
    refine hb _ s15 σ15 H15 Nx1 _ I15 q15 fun s' σ' H' I' hl' hk' nx => ?_
    obtain ⟨m', hm, w'⟩ := hNx1 H' nx
    have pin' : ∀ b ∈ fp1, ∀ o, s14.heap.get? b = some o → s'.heap.get? b = some o ∧ H' b = none := fun b hb o e =>
      let z := I'.pin (b, o) (List.mem_append_right _ (List.mem_append_right _ (mem_pinsAt hb e)))
      ⟨z.1, z.2.1⟩
    refine ⟨m', hm, j + 1, H', I'.unpinned.weak (by rw [← hw15, wipe_length, hl']) (fun j v e => hk' j v (by rw [hw15]; exact e)), T1.keep _ _ _ st14 fun b hb o e => (pin' b hb o e).1, fun b hb => ?_, w'⟩
    obtain ⟨o, e, _⟩ := T1.obj _ _ st14 b hb
    exact (pin' b hb o e).2
def BdIn (D : Addr) (te : TE) : L2.St → Hp → (Hp → Prop) → Prop := fun σ3 H5 Nx1 => te σ3 H5 fun y H7 => ∃ acc, H7 D = some (.lst acc) ∧ acc.length < sizeLine ∧ Nx1 (upd H7 D (.lst (acc ++ [y])))
def BdOut (wi : TI) (g : TG) (Bd : L2.St → Hp → (Hp → Prop) → Prop) (vs : List Nat) : L2.St → Hp → (Hp → Prop) → Prop := fun σ3 H5 Nx1 => wi σ3 H5 fun J H6 => tIn g Bd vs J Nx1 σ3 H6
theorem bdIn_ok {elt : Expr} {D : Addr} {te : TE} {vs : List Nat} (pe : PE (X.blk s3 H3 scope ce fp) elt te) : BdOk (X.blk s3 H3 scope ce fp) vs (BwIn (model X.prog X.w) X.A elt (.ref D) ce) (BdIn D te) := by
  intro pins s σ3 H5 Nx1 R' I q k
  refine thnF (pe.run _ s σ3 H5 _ I q) fun z s17 ⟨yv, H17, I17, r17, acc, hD17, hz17, nx⟩ => ?_
  exact app_ok (X := X.blk s3 H3 scope ce fp) I17 hD17 hz17 r17 fun s18 I18 => k s18 σ3 _ I18 rfl (fun j v e => (wipe_some e).1) nx
theorem bdOut_ok {elt : Expr} {gs : List Comprehension} {pos : Pos} {l : Nat} {t i1 : Expr} {D : Addr} {wi : TI} {g : TG} {Bd : L2.St → Hp → (Hp → Prop) → Prop} {vs vs2 : List Nat} {Bw : (Shared → Prop) → Shared → Prop} {c : Comprehension} (hc : X.calm = true) (hg : gs[l]? = some c) (hga : c.is_async = 0)
    (rule : ∀ it1, LoopRule (model X.prog X.w) X.A (.compLoop (.ListComp elt gs scope pos) l (.ref it1) (.ref D) ce) t (.ref it1) ce Bw) (pi : PI (X.blk s3 H3 scope ce fp) t i1 wi) (pg : PG (X.blk s3 H3 scope ce fp) t g) (hb : BdOk (X.blk s3 H3 scope ce fp) vs2 Bw Bd) (hv : ∀ i ∈ vs2, i ∈ vs) :
    BdOk (X.blk s3 H3 scope ce fp) vs (BwOut (model X.prog X.w) X.A (.ListComp elt gs scope pos) l i1 (.ref D) ce) (BdOut wi g Bd vs2) := by
  intro pins s σ3 H5 Nx1 R' I q k
  refine thnF (pi.run _ s σ3 H5 _ I q) fun xv s10 hx => thnF hx fun itv s11 h11 => ?_
  obtain ⟨it1, fp1, tn1, J1, H11, e1, I11, T1, st11, f11, q1⟩ := h11
  subst e1
  have loop1 : codeAny (model X.prog X.w) X.A (.compLoop (.ListComp elt gs scope pos) l (.ref it1) (.ref D) ce) (fun r s' => match r with
      | .ok _ => R' s'
      | .error _ => False) s11 :=
    blk_loop hc (rule it1) pg hb (I11.weak (wipe_length _ _) (fun j v e => (wipe_some e).1)) T1 st11 f11 q1 fun s' H' I' nx => k s' _ H' I' (wipe_length _ _) (fun j v e => by
      obtain ⟨e1, e2⟩ := wipe_some e
      rw [wipe_out fun z => e2 (hv j z)]
      exact e1) nx
  exact start_ok loop1 hg hga (T1.self X.A 0 _ _ _ st11 loop1)
end

section
variable {X : Cx}
def tLc3 (wi : TI) (g : TG) (wi1 : TI) (g1 : TG) (wi2 : TI) (g2 : TG) (te : TE) (vs vs1 vs2 : List Nat) : TE := fun σ H Q => wi σ H fun J H1 => ∀ D, H1 D = none →
  tIn g (BdOut wi1 g1 (BdOut wi2 g2 (BdIn D te) vs2) vs1) vs J (fun H' => Q (.ref D) H') σ (upd H1 D (.lst []))
theorem pe_lc3 {elt tg iter tg1 iter1 tg2 iter2 : Expr} {scope : Scope} {own : List (Str × Nat)} {vs1 vs2 : List Nat} {pos : Pos} {wi wi1 wi2 : TI} {g g1 g2 : TG} {te : TE} (hc : X.calm = true) (hN : X.N.Nodup) (hi : PI X tg iter wi) (ok : BlkOk X.N X.env.scope scope own) (hv : ∀ i ∈ vs1, i ∈ own.map (·.2)) (hv2 : ∀ i ∈ vs2, i ∈ vs1)
    (hg : ∀ (s : Shared) (H : Hp) (C : Addr) (cl : List (Str × Addr)) (fp : List Addr), PG (X.blk s H scope (compEnvC scope cl C X.env) fp) tg g)
    (hi1 : ∀ (s : Shared) (H : Hp) (C : Addr) (cl : List (Str × Addr)) (fp : List Addr), PI (X.blk s H scope (compEnvC scope cl C X.env) fp) tg1 iter1 wi1)
    (hg1 : ∀ (s : Shared) (H : Hp) (C : Addr) (cl : List (Str × Addr)) (fp : List Addr), PG (X.blk s H scope (compEnvC scope cl C X.env) fp) tg1 g1)
    (hi2 : ∀ (s : Shared) (H : Hp) (C : Addr) (cl : List (Str × Addr)) (fp : List Addr), PI (X.blk s H scope (compEnvC scope cl C X.env) fp) tg2 iter2 wi2)
    (hg2 : ∀ (s : Shared) (H : Hp) (C : Addr) (cl : List (Str × Addr)) (fp : List Addr), PG (X.blk s H scope (compEnvC scope cl C X.env) fp) tg2 g2)
    (he : ∀ (s : Shared) (H : Hp) (C : Addr) (cl : List (Str × Addr)) (fp : List Addr), PE (X.blk s H scope (compEnvC scope cl C X.env) fp) elt te) (hs : ∀ x, foldedSetIterable iter X.env x = pure x := by intro _; rfl) (hs1 : ∀ env x, foldedSetIterable iter1 env x = pure x := by intro _ _; rfl) (hs2 : ∀ env x, foldedSetIterable iter2 env x = pure x := by intro _ _; rfl) :
    PE X (C3 elt tg iter tg1 iter1 tg2 iter2 scope pos) (tLc3 wi g wi1 g1 wi2 g2 te (own.map (·.2)) vs1 vs2) := by
  refine ⟨fun pins s σ H Q I h => ?_⟩
  rw [eval_ListComp]
  have hfree : ∀ y ∈ scope.names, y.2 = .free → ∃ c, X.env.cells.lookup y.1 = some c := fun y hy e => by
    rcases ok.free y hy e with k | k
    · exact I.ok.has _ (.inl k)
    · exact I.ok.has _ (.inr k)
  refine wpAny_comprehension_free (use := none) rfl hs (closure_ok hfree) ok.kind (fun y hy e => by rw [ok.uniq y hy, e])
    (thn (hi.run pins s σ H _ I h) fun xv s1 hx => thn hx fun itv s2 h2 => ?_)
  obtain ⟨it, fp, tn, J, H2, e, I2, T, st2, f2, q⟩ := h2
  subst e
  refine wpAny_newObj_type (newEnv_comp ?_) (by show 0 ≤ sizeLine; decide)
  generalize hD : s2.heap.objs.size = D
  have hDn : H2 D = none := I2.hok.fresh (Nat.le_of_eq hD)
  have turn := q D hDn
  generalize hs3 : ({ s2 with heap := s2.heap.push { cls := .type "list", data := .seq ([] : List Value).toArray } } : Shared) = s3
  have I3 : Inv X pins σ (upd H2 D (.lst [])) s3 := by
    rw [← hs3]
    refine I2.laid (t' := s2.toks) (fun b o e => Heap.get?_push_of_some _ e) (Nat.le_of_eq hD) ⟨Nat.zero_le _, [], 0, .nil, ?_⟩
    rw [← hD]
    exact Heap.get?_push_size _ rfl
  have h3 : s3.heap = s2.heap.push { cls := .type "list", data := .seq ([] : List Value).toArray } := by rw [← hs3]
  have sz : ∀ b ∈ fp, b < s2.heap.objs.size := fun b hb => by
    obtain ⟨o, e, _⟩ := T.obj _ _ st2 b hb
    exact Heap.lt_size e
  have f3 : ∀ b ∈ fp, FpOk X pins (upd H2 D (.lst [])) b ∧ b < s3.heap.objs.size := fun b hb => by
    have hlt := sz b hb
    refine ⟨⟨?_, (f2 b hb).2⟩, by rw [h3, Heap.size_push]; exact Nat.lt_succ_of_lt hlt⟩
    rw [upd_ne (by rw [← hD]; exact Nat.ne_of_lt hlt)]
    exact (f2 b hb).1
  have st3 : tn 0 s3.heap := T.keep _ _ _ st2 fun b _ o e => by rw [h3]; exact Heap.get?_push_of_some _ e
  have I4 := block_start I3 ok hN f3
  have pg := hg s3 (upd H2 D (.lst [])) s3.heap.objs.size (cellsFrom (s3.heap.objs.size + 1) scope.names (cloFrom X.env.cells scope.names [])) fp
  have pe := he s3 (upd H2 D (.lst [])) s3.heap.objs.size (cellsFrom (s3.heap.objs.size + 1) scope.names (cloFrom X.env.cells scope.names [])) fp
  have pi1 := hi1 s3 (upd H2 D (.lst [])) s3.heap.objs.size (cellsFrom (s3.heap.objs.size + 1) scope.names (cloFrom X.env.cells scope.names [])) fp
  have pg1 := hg1 s3 (upd H2 D (.lst [])) s3.heap.objs.size (cellsFrom (s3.heap.objs.size + 1) scope.names (cloFrom X.env.cells scope.names [])) fp
  have pi2 := hi2 s3 (upd H2 D (.lst [])) s3.heap.objs.size (cellsFrom (s3.heap.objs.size + 1) scope.names (cloFrom X.env.cells scope.names [])) fp
  have pg2 := hg2 s3 (upd H2 D (.lst [])) s3.heap.objs.size (cellsFrom (s3.heap.objs.size + 1) scope.names (cloFrom X.env.cells scope.names [])) fp
  show codeAny _ _ (.compStart (C3 elt tg iter tg1 iter1 tg2 iter2 scope pos) 0 (.ref it) (.ref D) (compEnvC scope (cellsFrom (s3.heap.objs.size + 1) scope.names (cloFrom X.env.cells scope.names [])) s3.heap.objs.size X.env)) (compPost (model X.prog X.w) X.A X.xe none _ (.ref D) s3.heap.objs.size) { s3 with heap := pushCells (s3.heap.push { cls := .type "dict", data := .dict #[] }) scope.names }
  have nfp : ∀ b ∈ fp, (upd H2 D (.lst [])) b = none := fun b hb => (f3 b hb).1.1
  generalize hce : compEnvC scope (cellsFrom (s3.heap.objs.size + 1) scope.names (cloFrom X.env.cells scope.names [])) s3.heap.objs.size X.env = ce at I4 pg pe pi1 pg1 pi2 pg2 ⊢
  have cL : ce.locals = s3.heap.objs.size := by subst hce; rfl
  generalize hH3 : upd H2 D (.lst []) = H3 at I3 I4 pg pe pi1 pg1 pi2 pg2 turn nfp f3
  generalize hs4 : ({ s3 with heap := pushCells (s3.heap.push { cls := .type "dict", data := .dict #[] }) scope.names } : Shared) = s4 at I4 ⊢
  have st4 : tn 0 s4.heap := T.keep _ _ _ st3 fun b _ o e => by rw [← hs4]; exact pushCells_keeps _ _ _ _ (Heap.get?_push_of_some _ e)
  have stat : ∀ {σ' : L2.St} {H' : Hp} {s' : Shared}, Inv (X.blk s3 H3 scope ce fp) [] σ' H' s' → (∀ b ∈ fp, H' b = none) → ∀ b ∈ fp, FpOk (X.blk s3 H3 scope ce fp) [] H' b := fun {σ' H' s'} I' hn b hb =>
    ⟨hn b hb, (I'.ok.exf b hb).1, I'.ok.exfs b hb, .inl hb, fun x c e => (I'.ok.exf b hb).2 x c e, fun p hp => absurd (show p ∈ ([] : List (Addr × Obj)) ++ [] from hp) (by simp)⟩
  have b2 := bdIn_ok (X := X) (s3 := s3) (H3 := H3) (fp := fp) (D := D) (vs := vs2) pe
  have b1 := bdOut_ok (X := X) (s3 := s3) (H3 := H3) (fp := fp) (D := D) (pos := pos) (l := 2) (gs := [⟨tg, iter, [], 0⟩, ⟨tg1, iter1, [], 0⟩, ⟨tg2, iter2, [], 0⟩]) (elt := elt) (vs := vs1) hc rfl rfl (fun it1 => rule3_2) pi2 pg2 b2 hv2
  have b0 := bdOut_ok (X := X) (s3 := s3) (H3 := H3) (fp := fp) (D := D) (pos := pos) (l := 1) (gs := [⟨tg, iter, [], 0⟩, ⟨tg1, iter1, [], 0⟩, ⟨tg2, iter2, [], 0⟩]) (elt := elt) (vs := own.map (·.2)) hc rfl rfl (fun it1 => rule3_1 (hs2 ce)) pi1 pg1 b1 hv
  have loop : codeAny (model X.prog X.w) X.A (.compLoop (C3 elt tg iter tg1 iter1 tg2 iter2 scope pos) 0 (.ref it) (.ref D) ce) (compPost (model X.prog X.w) X.A X.xe none (EP X pins σ Q) (.ref D) s3.heap.objs.size) s4 := by
    refine blk_loop hc (rule3_0 (hs1 ce)) pg b0 I4 T st4 (stat I4 nfp) turn fun s6 H5 I6 qq => ?_
    have I7 : Inv X pins σ H5 s6 := I3.call' (ch := fp) I6.os I6.base I6.hok I6.bare fun b hb => ⟨(f3 b hb).1.2.2.2.1, (f3 b hb).1.2.1, (f3 b hb).1.2.2.2.2.1, (f3 b hb).1.2.2.2.2.2⟩
    have nC : H5 s3.heap.objs.size = none := by
      have z : H5 ce.locals = none := I6.free
      rw [cL] at z
      exact z
    obtain ⟨m, hn, _⟩ := I6.loc
    have hn : s6.heap.Ns ce.locals m := hn
    rw [cL] at hn
    obtain ⟨f0, f1, f2, f3, f4, f5⟩ := I3.fpOk (Nat.le_refl _) nC
    exact ⟨m, hn, fun h'' sb => ⟨.ref D, H5, I7.turned (t' := s6.toks) (fun b o hb e => (sb.2 b hb).trans e) f0 f1 f3 f4 f5, rfl, qq⟩⟩
  exact codeAny_compStart_list loop (T.self X.A 0 _ _ _ st4 loop)
end

/-! three fors, at the level of data -/
section
variable {K : PySem.W.Frag} {W : Wd} {H1 : Hp} {Dl : Addr} {δ : Env}
def KN (K : PySem.W.Frag) (W : Wd) (H1 : Hp) (δ : Env) (σ : L2.St) (H5 : Hp) : Prop := ∀ H', Fr W H1 H' → ExT H5 H' → SR K W δ σ H'
def Ac (K : PySem.W.Frag) (W : Wd) (H1 : Hp) (Dl : Addr) (H' : Hp) (ds : List D) : Prop := Fr W H1 H' ∧ ∃ vs, H' Dl = some (.lst vs) ∧ RpL K H' ds vs
theorem KN.mono {σ : L2.St} {H5 H6 : Hp} (k : KN K W H1 δ σ H5) (e : ExT H5 H6) : KN K W H1 δ σ H6 := fun H' f x => k H' f (e.trans x)
theorem KN.wipe {σ : L2.St} {H5 : Hp} (k : KN K W H1 δ σ H5) (vs : List Nat) : KN K W H1 (wipeE δ vs) (L2.wipe σ vs) H5 := fun H' f x => (k H' f x).wipe vs
theorem KN.up {σ σ' : L2.St} {H5 : Hp} {ix : List Nat} {u : Env → Env} (k : KN K W H1 δ σ H5) (o : UpOk K H5 ix u σ σ') : KN K W H1 (u δ) σ' H5 := fun H' f x => o.sr W _ H' x (k H' f x)
theorem tin_acc {β : Type} {ys : List β} {enc : β → D} {jx vs1 : List Nat} (up1 : β → Env → Env) {J1 : It} {H4 : Hp} {σ2 : L2.St} {Bd : L2.St → Hp → (Hp → Prop) → Prop} {Nx : Hp → Prop} {pre : List D} (out : β → List D) (nD : ¬ W.bd Dl) (hjx : ∀ i ∈ jx, i ∈ vs1)
    (it1 : ∀ B, ItOk K W J1 (ys.map enc) B H4) (kn : KN K W H1 δ σ2 H4) (acc : Ac K W H1 Dl H4 pre) (hlen : pre.length + (ys.flatMap out).length ≤ 100000)
    (hb : ∀ y, y ∈ ys → ∀ σ3 H5 pre Nx1, KN K W H1 (up1 y (wipeE δ vs1)) σ3 H5 → Ac K W H1 Dl H5 pre → pre.length + (out y).length ≤ 100000 → (∀ H', ExT H5 H' → Ac K W H1 Dl H' (pre ++ out y) → Nx1 H') → Bd σ3 H5 Nx1)
    (hN : ∀ H', ExT H4 H' → Ac K W H1 Dl H' (pre ++ ys.flatMap out) → Nx H') : tIn (fun v σ H Q => ∃ y : β, cG K jx (enc y) (up1 y) v σ H Q) Bd vs1 J1 Nx σ2 H4 := by
  have it1 := it1 (fun _ => none)
  have sb0 : ∀ H, Sub W (fun _ => none) H := fun H b o _ e => by cases e
  refine ⟨fun j k H' => k = ys.length - j ∧ j ≤ ys.length ∧ ExT H4 H' ∧ Ac K W H1 Dl H' (pre ++ (ys.take j).flatMap out), ⟨ys.length, by simp, Nat.zero_le _, .refl _, by simpa using acc⟩, ?_⟩
  rintro j k H5 ⟨rfl, hj', x5, f5, ws, hD5, hr5⟩
  by_cases hjlt : j < ys.length
  · have hd1 : (ys.map enc)[j]? = some (enc ys[j]) := by rw [List.getElem?_map, List.getElem?_eq_getElem hjlt] <;> rfl
    have etk : (ys.take (j + 1)).flatMap out = (ys.take j).flatMap out ++ out ys[j] := by
      rw [List.take_add_one, List.getElem?_eq_getElem hjlt, List.flatMap_append]
      simp
    refine .inr ⟨it1.go j _ H5 hd1 f5.2 (sb0 _) x5, fun H' => j + 1 ≤ ys.length ∧ ExT H4 H' ∧ Ac K W H1 Dl H' (pre ++ (ys.take (j + 1)).flatMap out), fun H'' w => ⟨ys.length - (j + 1), by omega, rfl, w⟩, fun x1 H6 y1 => ?_⟩
    obtain ⟨f6, rx1⟩ := it1.yld j _ H5 x1 H6 hd1 f5.2 (sb0 _) x5 y1
    have x6 : ExT H4 H6 := x5.trans (f6.ext f5.2)
    refine ⟨ys[j], rx1, fun σ3 u1 => ⟨(u1.wp _ hjx).trans (wipe_wipe fun _ h => h), ?_⟩⟩
    refine hb ys[j] (List.getElem_mem hjlt) σ3 H6 (pre ++ (ys.take j).flatMap out) _ (((kn.mono x6).wipe vs1).up u1) ⟨f5.trans f6, ws, f6.1 _ _ nD hD5, RpL.mono (f6.ext f5.2) _ _ hr5⟩ ?_ fun H' x' a => ⟨hjlt, x6.trans x', by rw [etk, ← List.append_assoc]; exact a⟩
    refine Nat.le_trans ?_ hlen
    have e := List.take_append_drop (j + 1) ys
    have : (ys.flatMap out).length = ((ys.take (j + 1)).flatMap out).length + ((ys.drop (j + 1)).flatMap out).length := by
      conv => lhs; rw [← e, List.flatMap_append, List.length_append]
    rw [this, etk, List.length_append, List.length_append]
    omega
  · have e : j = ys.length := by omega
    subst e
    refine .inl ⟨it1.stop _ H5 (by rw [List.length_map]; exact Nat.le_refl _) f5.2 (sb0 _) x5, hN _ x5 ⟨f5, ws, hD5, ?_⟩⟩
    rw [List.take_length] at hr5
    exact hr5
end
section
variable {X : Cx} {W : Wd} {elt tg iter tg1 iter1 tg2 iter2 : Expr} {δ : Env} {pos : Pos}
theorem ae_lc3 {α β γ : Type} {k : Nat} {xs : List α} {ys : List β} {zs : List γ} {enc : α → D} {encb : β → D} {encc : γ → D} {scope : Scope} (own : List (Str × Nat)) {ix jx kx : List Nat} (vs1 vs2 : List Nat) (g : α → β → γ → D) (up : α → Env → Env) (up1 : β → Env → Env) (up2 : γ → Env → Env) (o : Cok k X)
    (hlen : (xs.flatMap fun x => ys.flatMap fun y => zs.map fun z => g x y z).length ≤ 100000) (hi : AI0 X W tg iter δ (xs.map enc))
    (hg : ∀ (s : Shared) (H : Hp) (C : Addr) (cl : List (Str × Addr)) (fp : List Addr) x, AG (X.blk s H scope (compEnvC scope cl C X.env) fp) tg ix (enc x) (up x))
    (hi1 : ∀ (s : Shared) (H : Hp) (C : Addr) (cl : List (Str × Addr)) (fp : List Addr) x, AI0 (X.blk s H scope (compEnvC scope cl C X.env) fp) W tg1 iter1 (up x (wipeE δ (own.map fun p : Str × Nat => p.2))) (ys.map encb))
    (hg1 : ∀ (s : Shared) (H : Hp) (C : Addr) (cl : List (Str × Addr)) (fp : List Addr) y, AG (X.blk s H scope (compEnvC scope cl C X.env) fp) tg1 jx (encb y) (up1 y))
    (hi2 : ∀ (s : Shared) (H : Hp) (C : Addr) (cl : List (Str × Addr)) (fp : List Addr) x y, AI0 (X.blk s H scope (compEnvC scope cl C X.env) fp) W tg2 iter2 (up1 y (wipeE (up x (wipeE δ (own.map fun p : Str × Nat => p.2))) vs1)) (zs.map encc))
    (hg2 : ∀ (s : Shared) (H : Hp) (C : Addr) (cl : List (Str × Addr)) (fp : List Addr) z, AG (X.blk s H scope (compEnvC scope cl C X.env) fp) tg2 kx (encc z) (up2 z))
    (he : ∀ (s : Shared) (H : Hp) (C : Addr) (cl : List (Str × Addr)) (fp : List Addr) x y z, AEq (X.blk s H scope (compEnvC scope cl C X.env) fp) W elt (up2 z (wipeE (up1 y (wipeE (up x (wipeE δ (own.map fun p : Str × Nat => p.2))) vs1)) vs2)) (.d (g x y z)))
    (ok : BlkOk X.N X.env.scope scope own := by exact blkOk_by (by kernel_rfl)) (hix : ∀ i ∈ ix, i ∈ (own.map fun p : Str × Nat => p.2) := by decide) (hjx : ∀ i ∈ jx, i ∈ vs1 := by decide) (hkx : ∀ i ∈ kx, i ∈ vs2 := by decide) (hv : ∀ i ∈ vs1, i ∈ (own.map fun p : Str × Nat => p.2) := by decide) (hv2 : ∀ i ∈ vs2, i ∈ vs1 := by decide)
    (hs : ∀ x, foldedSetIterable iter X.env x = pure x := by intro _; rfl) (hs1 : ∀ env x, foldedSetIterable iter1 env x = pure x := by intro _ _; rfl) (hs2 : ∀ env x, foldedSetIterable iter2 env x = pure x := by intro _ _; rfl) :
    AEq X W (.ListComp elt [⟨tg, iter, [], 0⟩, ⟨tg1, iter1, [], 0⟩, ⟨tg2, iter2, [], 0⟩] scope pos) δ (.own (xs.flatMap fun x => ys.flatMap fun y => zs.map fun z => g x y z)) := by
  refine pe_weak (pe_lc3 (vs1 := vs1) (vs2 := vs2) (wi := cI0 X.K W δ (xs.map enc)) (g := fun v σ H Q => ∃ x : α, cG X.K ix (enc x) (up x) v σ H Q)
    (wi1 := fun σ H R => ∃ x : α, cI0 X.K W (up x (wipeE δ (own.map fun p : Str × Nat => p.2))) (ys.map encb) σ H R) (g1 := fun v σ H Q => ∃ y : β, cG X.K jx (encb y) (up1 y) v σ H Q)
    (wi2 := fun σ H R => ∃ q : α × β, cI0 X.K W (up1 q.2 (wipeE (up q.1 (wipeE δ (own.map fun p : Str × Nat => p.2))) vs1)) (zs.map encc) σ H R) (g2 := fun v σ H Q => ∃ z : γ, cG X.K kx (encc z) (up2 z) v σ H Q)
    (te := fun σ H Q => ∃ q : α × β × γ, cE X.K W (up2 q.2.2 (wipeE (up1 q.2.1 (wipeE (up q.1 (wipeE δ (own.map fun p : Str × Nat => p.2))) vs1)) vs2)) (· = .d (g q.1 q.2.1 q.2.2)) σ H Q)
    o.calm o.nd hi ok hv hv2 (fun s H C cl fp => ⟨fun pins s1 σ1 H1 v u Q I r z => ?_⟩) (fun s H C cl fp => pi_ex fun x => hi1 s H C cl fp x) (fun s H C cl fp => ⟨fun pins s1 σ1 H1 v u Q I r z => ?_⟩)
    (fun s H C cl fp => pi_ex fun q => hi2 s H C cl fp q.1 q.2) (fun s H C cl fp => ⟨fun pins s1 σ1 H1 v u Q I r z => ?_⟩) (fun s H C cl fp => pe_ex fun q => he s H C cl fp q.1 q.2.1 q.2.2) hs hs1 hs2) fun σ H Q ⟨q1, q2⟩ => ⟨q1, fun J H1 f it Dl hDl => ?_⟩
  · obtain ⟨x, z⟩ := z
    exact (hg s H C cl fp x).run pins s1 σ1 H1 v u Q I r z
  · obtain ⟨y, z⟩ := z
    exact (hg1 s H C cl fp y).run pins s1 σ1 H1 v u Q I r z
  · obtain ⟨y, z⟩ := z
    exact (hg2 s H C cl fp y).run pins s1 σ1 H1 v u Q I r z
  have hDn : H Dl = none := f.back q1.j hDl
  have nD : ¬ W.bd Dl := Wd.fresh q1.j hDn
  have q1' := q1.mono f
  have hkn : KN X.K W H1 δ σ (upd H1 Dl (.lst [])) := fun H' fr _ => q1'.mono fr
  have hit : ∀ B, ItOk X.K W J (xs.map enc) B (upd H1 Dl (.lst [])) := fun B => ⟨fun i d H' hd j sb ex => (it B).go i d H' hd j sb ((ExT.new hDl).trans ex), fun i d H' x H'' hd j sb ex => (it B).yld i d H' x H'' hd j sb ((ExT.new hDl).trans ex), fun i H' hl j sb ex => (it B).stop i H' hl j sb ((ExT.new hDl).trans ex)⟩
  refine tin_acc (K := X.K) (W := W) (H1 := H1) (Dl := Dl) (δ := δ) (pre := []) up (fun x => ys.flatMap fun y => zs.map fun z => g x y z) nD hix hit hkn ⟨.new q1'.j hDl, [], upd_same, .nil⟩ (by simpa using hlen) (fun x hx σ3 H5 pre Nx1 kn ac hl nx => ?_) fun H' _ a => ?_
  · refine ⟨x, kn H5 ac.1 (.refl _), fun J1 H6 f6 it6 => ?_⟩
    obtain ⟨a1, vs, a2, a3⟩ := ac
    refine tin_acc (K := X.K) (W := W) (H1 := H1) (Dl := Dl) (pre := pre) up1 (fun y => zs.map fun z => g x y z) nD hjx it6 (kn.mono (f6.ext a1.2)) ⟨a1.trans f6, vs, f6.1 _ _ nD a2, RpL.mono (f6.ext a1.2) _ _ a3⟩ hl (fun y hy σ4 H7 pre2 Nx2 kn2 ac2 hl2 nx2 => ?_) fun H' x' a => nx H' ((f6.ext a1.2).trans x') a
    refine ⟨(x, y), kn2 H7 ac2.1 (.refl _), fun J2 H8 f8 it8 => ?_⟩
    obtain ⟨b1, us, b2, b3⟩ := ac2
    refine tin_acc (K := X.K) (W := W) (H1 := H1) (Dl := Dl) (pre := pre2) up2 (fun z => [g x y z]) nD hkx it8 (kn2.mono (f8.ext b1.2)) ⟨b1.trans f8, us, f8.1 _ _ nD b2, RpL.mono (f8.ext b1.2) _ _ b3⟩ (by rw [← List.map_eq_flatMap]; exact hl2) (fun z hz σ5 H9 pre3 Nx3 kn3 ac3 hl3 nx3 => ?_) fun H' x' a => nx2 H' ((f8.ext b1.2).trans x') (by rw [← List.map_eq_flatMap] at a; exact a)
    obtain ⟨c1, ws, c2, c3⟩ := ac3
    refine ⟨(x, y, z), kn3 H9 c1 (.refl _), fun s v H10 f10 r10 p10 => ?_⟩
    subst p10
    have hD10 := f10.1 _ _ nD c2
    have hr10 := RpL.mono (f10.ext c1.2) _ _ c3
    have hmut : ExT H10 (upd H10 Dl (.lst (ws ++ [v]))) := .mut fun u hu => by
      rw [hD10] at hu
      cases hu
      exact id
    refine ⟨ws, hD10, ?_, nx3 _ ((f10.ext c1.2).trans hmut) ⟨⟨fun b o nb z => ?_, Wd.jmut f10.2 nD⟩, ws ++ [v], upd_same, RpL.mono hmut _ _ (hr10.snoc r10.1)⟩⟩
    · rw [hr10.len]
      have : ([g x y z] : List D).length = 1 := rfl
      refine Nat.lt_of_le_of_lt (?_ : _ ≤ 100000) (by decide)
      omega
    · rw [upd_ne (ne_of_none z hDl)]
      exact (c1.trans f10).1 b o nb z
  · obtain ⟨a1, vs, a2, a3⟩ := a
    exact q2 (.own _) _ H' (f.trans a1) ⟨⟨Dl, vs, rfl, a2, nD, a3⟩, fun _ a ea => by
      cases ea
      exact hDn⟩ rfl
end
end NR
namespace NR
open PySem PySem.Spec PyProof.Rows L2
/-! data that holds no instances stays where only instances change -/
mutual
def plD : D → Bool
  | .tup ds => plDs ds
  | .ins _ _ _ => false
  | _ => true
def plDs : List D → Bool
  | [] => true
  | d :: ds => plD d && plDs ds
end
mutual
theorem Rp.tups {K : PySem.W.Frag} {H H' : Hp} (e : ∀ b vs, H b = some (.tup vs) → H' b = some (.tup vs)) : ∀ (d : D) (v : V), plD d = true → Rp K H d v → Rp K H' d v
  | .non, _, _, h => by simpa only [Rp] using h
  | .bl _, _, _, h => by simpa only [Rp] using h
  | .int _, _, _, h => by simpa only [Rp] using h
  | .str _, _, _, h => by simpa only [Rp] using h
  | .tup ds, _, p, h => by
    simp only [Rp] at h ⊢
    obtain ⟨a, vs, e1, e2, e3⟩ := h
    exact ⟨a, vs, e1, e _ _ e2, RpL.tups e ds vs (by simpa only [plD] using p) e3⟩
  | .ins C ns ds, _, p, h => by simp [plD] at p
  | .ty _, _, _, h => by simpa only [Rp] using h
  | .cls _, _, _, h => by simpa only [Rp] using h
theorem RpL.tups {K : PySem.W.Frag} {H H' : Hp} (e : ∀ b vs, H b = some (.tup vs) → H' b = some (.tup vs)) : ∀ (ds : List D) (vs : List V), plDs ds = true → RpL K H ds vs → RpL K H' ds vs
  | [], _, _, h => by simpa only [RpL] using h
  | d :: ds, _, p, h => by
    simp only [RpL] at h ⊢
    simp only [plDs, Bool.and_eq_true] at p
    obtain ⟨v, r, e1, e2, e3⟩ := h
    exact ⟨v, r, e1, Rp.tups e d v p.1 e2, RpL.tups e ds r p.2 e3⟩
end
/-! the promise of an `__init__`, and making -/
def FJ (K : PySem.W.Frag) (W : Wd) (C : Addr) (ns : List Str) {ι : Type} (args : ι → List D) : Sp := fun vs H Q _ =>
  ∃ (i : ι) (H0 : Hp) (x dx : Addr) (us : List V), vs = .ref x :: us ∧ H = upd (upd H0 dx (.own x)) x (.ins C dx []) ∧ H0 x = none ∧ H0 dx = none ∧ dx ≠ x ∧ W.J H0 ∧ RpL K H0 (args i) us ∧
    ∀ H' us', (∀ b o, ¬ W.bd b → H0 b = some o → H' b = some o) → W.J H' → H' x = some (.ins C dx (ns.zip us')) → RpL K H' (args i) us' → Q .non H'
theorem ae_mk {X : Cx} {W : Wd} {e : Expr} {es : List Expr} {δ : Env} {pos : Pos} {k j : Nat} {f C : Addr} {fd : FuncData} {ps : List Str} {ι : Type} {ns : List Str} {args : ι → List D} {x : Str} {p : Pos} {ss : List S}
    (M : Mk X.K C f) (F : FnOk X.prog X.w X.K X.mg X.base CX0 k f fd ps (FJ X.K W C ns args)) (o : Cok j X) (hk : k + 1 ≤ j) (hg : Gl X x) (hm : X.mg x = some (.ref C)) (hb : Binds X.K fd ps [])
    (ha : AAq X W (e :: es) δ ss) (i : ι) (hi : ss = (args i).map S.d)
    (hd : (x == ("__debug__" : Str)) = false) (he : starEach (e :: es) X.env = (false, eval e X.env) :: starEach es X.env) (hp : (backTo pos (starEach es X.env)).any (·.1) = false) : AEq X W (.Call (.Name x p) (e :: es) [] pos) δ (.d (.ins C ns (args i))) :=
  pe_weak (pe_make M F (o.hr.mono hk) hg hm hb .nil pass0 ha hd he hp) fun σ H Q ⟨q1, q2⟩ => ⟨q1, fun ss' vs H1 f r pa => by
    intro y dx ny ndx nxy
    subst pa
    subst hi
    have hr := ds_of r
    show FJ X.K W C ns args (.ref y :: (vs ++ [])) _ _ E0
    rw [List.append_nil]
    refine ⟨i, H1, y, dx, vs, rfl, rfl, ny, ndx, nxy, f.2, hr, fun H' us' hs hj hy hr' => ⟨rfl, ?_⟩⟩
    have f2 : Fr W H1 H' := ⟨hs, hj⟩
    refine q2 _ _ H' (f.trans f2) (.ofd ?_) rfl
    simp only [Rp]
    exact ⟨y, dx, us', rfl, hy, hr'⟩⟩
/-- a class known by its name -/
def KnC (P : Program) (w : World) (K : PySem.W.Frag) (mg : Str → Option Value) (base : Heap) (W : Wd) (k : Nat) (x : Str) (C : Addr) (ps ns : List Str) {ι : Type} (args : ι → List D) : Prop :=
  ∃ f fd, Mk K C f ∧ FnOk P w K mg base CX0 k f fd ps (FJ K W C ns args) ∧ mg x = some (.ref C) ∧ Binds K fd ps []
theorem wMake {X : Cx} {W : Wd} {e : Expr} {es : List Expr} {δ : Env} {pos : Pos} {k j : Nat} {C : Addr} {ps : List Str} {ι : Type} {ns : List Str} {args : ι → List D} {x : Str} {p : Pos} {ss : List S}
    (G : KnC X.prog X.w X.K X.mg X.base W k x C ps ns args) (o : Cok j X) (ha : AAq X W (e :: es) δ ss) (i : ι) (hi : ss = (args i).map S.d := by rfl) (hk : k + 1 ≤ j := by decide) (hg : Gl X x := by rfl)
    (hd : (x == ("__debug__" : Str)) = false := by decide) (he : starEach (e :: es) X.env = (false, eval e X.env) :: starEach es X.env := by rfl) (hp : (backTo pos (starEach es X.env)).any (·.1) = false := by rfl) : AEq X W (.Call (.Name x p) (e :: es) [] pos) δ (.d (.ins C ns (args i))) := by
  obtain ⟨f, fd, M, F, m, b⟩ := G
  exact ae_mk M F o hk hg m b ha i hi hd he hp
/-! the stores of an `__init__` -/
section
variable {X : Cx} {W : Wd} {δ : Env} {C x dx : Addr} {H0 : Hp}
def putW (W : Wd) (x : Addr) : Wd := { W with hv := .ref x }
structure StI (K : PySem.W.Frag) (W : Wd) (C x dx : Addr) (H0 : Hp) (sl : List (Nat × D)) (ns : List Str) (ds : List D) (σ : L2.St) (H : Hp) : Prop where
  j : W.J H
  sub : ∀ b o, ¬ W.bd b → H0 b = some o → H b = some o
  self : σ[0]? = some (some (.ref x))
  sl : ∀ p ∈ sl, plD p.2 = true ∧ ∃ v, σ[p.1]? = some (some v) ∧ Rp K H p.2 v
  ob : ∃ vs, H x = some (.ins C dx (ns.zip vs)) ∧ vs.length = ns.length ∧ RpL K H ds vs
  pl : plDs ds = true
def tJ (K : PySem.W.Frag) (W : Wd) (C x dx : Addr) (H0 : Hp) (sl : List (Nat × D)) (NS : List Str) (DS : List D) (ns : List Str) (ds : List D) : TS := fun D σ H => StI K W C x dx H0 sl ns ds σ H ∧ ∀ σ' H', StI K W C x dx H0 sl NS DS σ' H' → D.nx σ' H'
theorem putF_new {f : Str} {y : V} : ∀ {ns : List Str} {vs : List V}, f ∉ ns → vs.length = ns.length → putF f y (ns.zip vs) = (ns ++ [f]).zip (vs ++ [y])
  | [], [], _, _ => rfl
  | n :: ns, v :: vs, h, e => by
    have h1 : f ≠ n := fun z => h (z ▸ List.mem_cons_self)
    have ih := putF_new (f := f) (y := y) (ns := ns) (vs := vs) (fun z => h (List.mem_cons_of_mem _ z)) (by simpa using e)
    show putF f y ((n, v) :: ns.zip vs) = (n, v) :: (ns ++ [f]).zip (vs ++ [y])
    rw [← ih]
    show (if n = f then (n, y) :: ns.zip vs else (n, v) :: putF f y (ns.zip vs)) = _
    rw [if_neg (Ne.symm h1)]
theorem plDs_snoc {d : D} : ∀ {ds : List D}, plDs ds = true → plD d = true → plDs (ds ++ [d]) = true
  | [], _, h => by simp [plDs, h]
  | c :: ds, p, h => by
    simp only [plDs, Bool.and_eq_true, List.cons_append] at p ⊢
    exact ⟨p.1, plDs_snoc p.2 h⟩

theorem st_store {sl : List (Nat × D)} {NS ns : List Str} {DS ds : List D} {i : Nat} {d : D} {s f y : Str} {pn pv pa : Pos} {pos : Pos} {rest : List Stmt} (hc : Cls X.K C) (hn : NoAttr X.K C f) (hN : X.N[0]? = some s) (hN2 : X.N[i]? = some y) (hm : (i, d) ∈ sl) (hf : f ∉ ns) (hl : ns.length < 100) (hbd : ∀ H, W.J H → ¬ W.bd x)
    (h0 : H0 x = none) (t : PSs X rest (tJ X.K W C x dx H0 sl NS DS (ns ++ [f]) (ds ++ [d])))
    (hv : Vis X.env.scope s := by first | exact Or.inl rfl | exact Or.inr (Or.inl rfl) | exact Or.inr (Or.inr rfl)) (hv2 : Vis X.env.scope y := by first | exact Or.inl rfl | exact Or.inr (Or.inl rfl) | exact Or.inr (Or.inr rfl))
    (hd : (s == ("__debug__" : Str)) = false := by decide) (hc2 : (s == ("__classdict__" : Str)) = false := by decide) (hd' : (y == ("__debug__" : Str)) = false := by decide) (hc' : (y == ("__classdict__" : Str)) = false := by decide)
    (hs : swapsWith (.Name y pv) (some (.Attribute (.Name s pn) f pa)) pos.line X.env = pure false := by rfl) :
    PSs X (.Assign [.Attribute (.Name s pn) f pa] (.Name y pv) pos :: rest) (tJ X.K W C x dx H0 sl NS DS ns ds) := by
  refine pss_weak (pss_cons (ps_fld (pe_var hN hv hd hc2) (pe_var hN2 hv2 hd' hc') hs) t) fun D σ H ⟨q1, q2⟩ => ?_
  obtain ⟨p1, v, e1, r1⟩ := q1.sl _ hm
  obtain ⟨vs, o1, o2, o3⟩ := q1.ob
  refine ⟨v, e1, .ref x, q1.self, x, C, dx, _, rfl, o1, hc, hn, by rw [List.length_zip]; omega, ?_⟩
  rw [putF_new hf o2]
  have ht : ∀ b ws, H b = some (.tup ws) → (upd H x (.ins C dx ((ns ++ [f]).zip (vs ++ [v])))) b = some (.tup ws) := fun b ws e => by
    rw [upd_ne (fun z => by
      rw [z, o1] at e
      cases e)]
    exact e
  refine ⟨⟨Wd.jmut q1.j (hbd H q1.j), fun b o nb z => ?_, q1.self, fun p hp => ?_, ⟨vs ++ [v], upd_same, by rw [List.length_append, List.length_append, o2] <;> rfl, RpL.tups ht _ _ (plDs_snoc q1.pl p1) (o3.snoc r1)⟩, plDs_snoc q1.pl p1⟩, q2⟩
  · rw [upd_ne (ne_of_none z h0)]
    exact q1.sub b o nb z
  · obtain ⟨a1, u, a2, a3⟩ := q1.sl p hp
    exact ⟨a1, u, a2, Rp.tups ht _ _ a1 a3⟩
theorem st_last {sl : List (Nat × D)} {NS ns : List Str} {DS ds : List D} {i : Nat} {d : D} {s f y : Str} {pn pv pa : Pos} {pos : Pos} (hc : Cls X.K C) (hn : NoAttr X.K C f) (hN : X.N[0]? = some s) (hN2 : X.N[i]? = some y) (hm : (i, d) ∈ sl) (hf : f ∉ ns) (hl : ns.length < 100) (hbd : ∀ H, W.J H → ¬ W.bd x)
    (h0 : H0 x = none) (e1 : NS = ns ++ [f]) (e2 : DS = ds ++ [d])
    (hv : Vis X.env.scope s := by first | exact Or.inl rfl | exact Or.inr (Or.inl rfl) | exact Or.inr (Or.inr rfl)) (hv2 : Vis X.env.scope y := by first | exact Or.inl rfl | exact Or.inr (Or.inl rfl) | exact Or.inr (Or.inr rfl))
    (hd : (s == ("__debug__" : Str)) = false := by decide) (hc2 : (s == ("__classdict__" : Str)) = false := by decide) (hd' : (y == ("__debug__" : Str)) = false := by decide) (hc' : (y == ("__classdict__" : Str)) = false := by decide)
    (hs : swapsWith (.Name y pv) (some (.Attribute (.Name s pn) f pa)) pos.line X.env = pure false := by rfl) :
    PSs X [.Assign [.Attribute (.Name s pn) f pa] (.Name y pv) pos] (tJ X.K W C x dx H0 sl NS DS ns ds) := by
  subst e1 e2
  exact st_store hc hn hN hN2 hm hf hl hbd h0 (pss_weak pss_nil fun D σ H ⟨q1, q2⟩ => q2 σ H q1) hv hv2 hd hc2 hd' hc' hs
/-- statements ahead of the stores -/
def tP (K : PySem.W.Frag) (W : Wd) (C x dx : Addr) (H0 : Hp) (sl : List (Nat × D)) (NS : List Str) (DS : List D) (δ : Env) : TS := fun D σ H => ∃ B, SRs K (putW W x) B δ σ H ∧ B x = some (.ins C dx []) ∧ (∀ b o, ¬ W.bd b → H0 b = some o → B b = some o) ∧ ∀ σ' H', StI K W C x dx H0 sl NS DS σ' H' → D.nx σ' H'
theorem pre_cons {sl : List (Nat × D)} {NS : List Str} {DS : List D} {st : Stmt} {rest : List Stmt} (M : Env → Prop) (h : AS X (putW W x) st δ ⟨M, fun _ => False, fun _ => False, fun _ => False⟩) (t : ∀ δ', M δ' → PSs X rest (tP X.K W C x dx H0 sl NS DS δ')) : PSs X (st :: rest) (tP X.K W C x dx H0 sl NS DS δ) := by
  have t' : PSs X rest (fun D σ H => ∃ q : {δ' : Env // M δ'}, tP X.K W C x dx H0 sl NS DS q.1 D σ H) := pss_ex fun q => t q.1 q.2
  refine pss_weak (pss_cons h t') fun D σ H ⟨B, q1, q2, q3, q4⟩ => ⟨B, q1, fun B' δ' σ' H' l e m s => ⟨⟨δ', m⟩, B', s, l _ _ q2, fun b o nb z => l _ _ (q3 b o nb z), q4⟩, fun _ _ _ _ _ _ z => z.elim, fun _ _ _ _ _ _ z => z.elim, fun _ _ _ _ _ _ z => z.elim⟩
theorem pre_set {sl : List (Nat × D)} {NS : List Str} {DS : List D} {e : Expr} {rest : List Stmt} {i : Nat} {y : Str} {pos pos' : Pos} {s : S} {k : Nat} (o : Cok k X) (h : AEq X (putW W x) e δ s) (hl : ∀ ds, s ≠ .l ds) (t : PSs X rest (tP X.K W C x dx H0 sl NS DS (δ.set i (some s))))
    (hi : X.N[i]? = some y := by rfl) (hx : Loc X.env.scope y := by first | exact Or.inl rfl | exact Or.inr rfl) (hf : X.fn y = true ∨ X.env.scope.names.lookup y = some .local := by first | exact .inl rfl | exact .inr rfl) (hs : swapsWith e (some (.Name y pos')) pos.line X.env = pure false := by rfl) : PSs X (.Assign [.Name y pos'] e pos :: rest) (tP X.K W C x dx H0 sl NS DS δ) :=
  pre_cons (fun δ' => δ' = δ.set i (some s)) (ps_weak (ps_set o.nd hi hx h hs hf) fun D σ H ⟨B, q1, q2⟩ => ⟨q1.sr, fun s' v H1 f r z => by
    subst z
    exact q2.nx B _ _ H1 (.refl B) (f.ext q1.j) rfl (q1.setR f r hl)⟩) fun δ' z => z ▸ t
theorem pre_end {sl : List (Nat × D)} {NS : List Str} {DS : List D} {rest : List Stmt} (h0 : H0 x = none) (hbd : ∀ H, W.J H → ¬ W.bd x) (hself : δ[0]? = some (some .hp)) (hsl : ∀ p ∈ sl, plD p.2 = true ∧ δ[p.1]? = some (some (.d p.2))) (t : PSs X rest (tJ X.K W C x dx H0 sl NS DS [] [])) : PSs X rest (tP X.K W C x dx H0 sl NS DS δ) :=
  pss_weak t fun D σ H ⟨B, q1, q2, q3, q4⟩ => ⟨⟨q1.j, fun b o nb z => q1.sub b o nb (q3 b o nb z), by
    obtain ⟨v, e1, e2⟩ := q1.at_ 0 _ hself
    have e2 : v = .ref x := e2
    rw [e1, e2], fun p hp => ⟨(hsl p hp).1, by
      obtain ⟨v, e1, e2⟩ := q1.at_ p.1 _ (hsl p hp).2
      exact ⟨v, e1, e2⟩⟩, ⟨[], q1.sub x _ (hbd H q1.j) q2, rfl, .nil⟩, rfl⟩, q4⟩
end
/-- an `__init__`, by its statements -/
theorem init_ok {P : Program} {w : World} {K : PySem.W.Frag} {mg : Str → Option Value} {base : Heap} {W : Wd} {x qual : Str} {st : Stmt} {f C : Addr} {fd : FuncData} {N ps : List Str} {k : Nat} {ι : Type} {ns : List Str} {args : ι → List D}
    (F : Fun K x qual st f fd) (Sc : FnScope N ps (defScope st)) (hl : ∀ i, (args i).length + 1 = ps.length) (hN : ps.length ≤ N.length) (hp : ∀ i, plDs (args i) = true)
    (h : ∀ cdv A outer s H E, Cok k (BX P w K mg base N qual st f cdv A outer s H E) → ∀ i (x dx : Addr) (H0 : Hp), H0 x = none → (∀ H, W.J H → ¬ W.bd x) →
      PSs (BX P w K mg base N qual st f cdv A outer s H E) (defBody st) (tP K W C x dx H0 ((args i).zipIdx.map fun p => (p.2 + 1, p.1)) ns (args i) (some .hp :: ((args i).map (fun d => some (.d d)) ++ List.replicate (N.length - ((args i).length + 1)) none)))) :
    FnOk P w K mg base CX0 (k + 1) f fd ps (FJ K W C ns args) := by
  refine F.ok Sc (fun vs H Q E z => ?_) (fun cdv A outer s H vs Q E hr z => ?_)
  · obtain ⟨i, H0, y, dx, us, rfl, _, _, _, _, _, hr, _⟩ := z
    rw [List.length_cons, hr.len, hl i]
  · obtain ⟨i, H0, y, dx, us, rfl, eH, n1, n2, n3, j, hr', q⟩ := z
    have hfr : ¬ W.bd y := Wd.fresh j n1
    have hfd : ¬ W.bd dx := Wd.fresh j n2
    have j1 : W.J (upd H0 dx (.own y)) := Wd.jnew j n2
    have ny1 : (upd H0 dx (.own y)) y = none := by
      rw [upd_ne (Ne.symm n3)]
      exact n1
    have j2 : W.J H := by
      rw [eH]
      exact Wd.jnew j1 ny1
    have hE : ∀ b o, H0 b = some o → H b = some o := fun b o e => by
      rw [eH, upd_ne (ne_of_none e n1), upd_ne (ne_of_none e n2)]
      exact e
    have hlen := hr'.len
    refine ⟨_, h cdv A outer s H E ⟨rfl, Sc.nd, hr, rfl⟩ i y dx H0 n1 (fun _ _ => hfr), ?_⟩
    classical
    refine ⟨fun b => if W.bd b then none else H b, ⟨j2, ?_, fun b o nb z => ?_, fun n s9 z => ?_, fun n m s9 t' a nm z1 z2 m1 => ?_⟩, ?_, fun b o nb z => ?_, fun σ' H' z => ?_⟩
    · unfold L2.start
      have := hl i
      simp only [List.length_append, List.length_map, List.length_replicate, List.length_cons, hlen]
      omega
    · have z' : (if W.bd b then none else H b) = some o := z
      rw [if_neg (show ¬ W.bd b from nb)] at z'
      exact z'
    · unfold L2.start
      cases n with
      | zero =>
        have ez : S.hp = s9 := by simpa using z
        subst ez
        exact ⟨.ref y, rfl, rfl⟩
      | succ n =>
        have z' : ((args i).map (fun d => some (S.d d)) ++ List.replicate (N.length - ((args i).length + 1)) none)[n]? = some (some s9) := z
        have hn : n < (args i).length := by
          by_cases hn : n < (args i).length
          · exact hn
          · rw [List.getElem?_append_right (by rw [List.length_map]; omega)] at z'
            have := List.mem_of_getElem? z'
            have := (List.mem_replicate.mp this).2
            cases this
        rw [List.getElem?_append_left (by rw [List.length_map]; exact hn), List.getElem?_map, List.getElem?_eq_getElem hn] at z'
        have ez : S.d (args i)[n] = s9 := Option.some.inj (Option.some.inj z')
        subst ez
        obtain ⟨v, e1, e2⟩ := hr'.get (List.getElem?_eq_getElem hn)
        refine ⟨v, ?_, ?_⟩
        · show ((us.map some) ++ _)[n]? = _
          rw [List.getElem?_append_left (by rw [List.length_map]; omega), List.getElem?_map, e1] <;> rfl
        · exact Rp.mono (fun b o e _ => hE b o e) _ _ e2
    · cases n with
      | zero =>
        have ez : S.hp = s9 := by simpa using z1
        subst ez
        exact m1.elim
      | succ n =>
        have z' : ((args i).map (fun d => some (S.d d)) ++ List.replicate (N.length - ((args i).length + 1)) none)[n]? = some (some s9) := z1
        have hn : n < (args i).length := by
          by_cases hn : n < (args i).length
          · exact hn
          · rw [List.getElem?_append_right (by rw [List.length_map]; omega)] at z'
            have := List.mem_of_getElem? z'
            have := (List.mem_replicate.mp this).2
            cases this
        rw [List.getElem?_append_left (by rw [List.length_map]; exact hn), List.getElem?_map, List.getElem?_eq_getElem hn] at z'
        have ez : S.d (args i)[n] = s9 := Option.some.inj (Option.some.inj z')
        subst ez
        exact m1.elim
    · show (if W.bd y then none else H y) = _
      rw [if_neg hfr, eH]
      exact upd_same
    · show (if W.bd b then none else H b) = _
      rw [if_neg nb]
      exact hE b o z
    · obtain ⟨us', o1, o2, o3⟩ := z.ob
      exact q H' us' z.sub z.j o1 o3
end NR
namespace NR
open PySem PySem.Spec PyProof.Rows L2
def top (i : Nat) : Stmt := PySem.Challenge.pw_neverregret_k18_whole_court_and_the_plai.main.body.getD i (.Pass ⟨0, 0, 0, 0⟩)
/-- the names that the module leaves alone, its constants -/
structure Tx (mg : Str → Option Value) : Prop where
  isi : mg "isinstance" = none
  int : mg "int" = none
  bool : mg "bool" = none
  str : mg "str" = none
  tuple : mg "tuple" = none
  len : mg "len" = none
  all : mg "all" = none
  any : mg "any" = none
  range : mg "range" = none
  enum : mg "enumerate" = none
  min : mg "min" = none
  max : mg "max" = none
  sum : mg "sum" = none
  sorted : mg "sorted" = none
  set : mg "set" = none
  list : mg "list" = none
  abs : mg "abs" = none
  letters : ∃ t, mg "LETTERS" = some (.str "abcdefghijklmnopqrstuvwxyz" t)
  longest : ∃ t, mg "LONGEST_NAME" = some (.int 8 t)
  mostK : ∃ t, mg "MOST_KINDS" = some (.int 8 t)
  mostT : ∃ t, mg "MOST_TYPES" = some (.int 12 t)
/-! mirrors -/
abbrev Ty := Str × List Int
def lettersS : Str := "abcdefghijklmnopqrstuvwxyz"
def eNames (ns : List Str) : D := .tup (ns.map D.str)
def eTy (t : Ty) : D := .tup [.str t.1, tupI t.2]
def eTys (ts : List Ty) : D := .tup (ts.map eTy)
def eTb (C : Addr) (ks : List Str) (ts : List Ty) : D := .ins C ["kinds", "types"] [eNames ks, eTys ts]
def nameOk (s : Str) : Bool := (decide ((1 : Int) ≤ s.length) && decide ((s.length : Int) ≤ 8)) && s.cps.toList.all fun c => decide (c ∈ lettersS.cps.toList)
def numsOk (ns : List Int) : Bool := ns.all fun i => decide (0 ≤ i)
def ascI (ns : List Int) : Bool := (List.range (ns.length - 1)).all fun i => decide (ns.getD i 0 < ns.getD (i + 1) 0)
def ascS (ns : List Str) : Bool := (List.range (ns.length - 1)).all fun i => decide ((ns.getD i "").cps.toList < (ns.getD (i + 1) "").cps.toList)
def lotOk (ns : List Int) (m : Int) : Bool := numsOk ns && (ns.all fun i => decide (i < m)) && ascI ns
def kindsOk (ks : List Str) : Bool := (decide ((1 : Int) ≤ ks.length) && decide ((ks.length : Int) ≤ 8)) && ((ks.all nameOk) && ascS ks)
def lastOk (last : Option Str) (s : Str) : Bool := match last with
  | none => true
  | some l => decide (l.cps.toList < s.cps.toList)
def eLast (last : Option Str) : D := match last with
  | none => .non
  | some l => .str l
def tyOk (n : Nat) (t : Ty) (last : Option Str) : Bool := nameOk t.1 && (lastOk last t.1 && lotOk t.2 n)
theorem map_id_all {α : Type} (xs : List α) (p : α → Bool) : ((xs.map p).all id) = xs.all p := by
  rw [List.all_map]
  rfl
theorem own_bools {α : Type} {xs : List α} {p : α → Bool} : (S.own ((xs.filter fun _ => true).map fun x => D.bl (p x))) = .own ((xs.map p).map D.bl) := by
  rw [List.filter_eq_self.mpr fun _ _ => rfl, List.map_map]
  rfl
section
variable {X : Cx} {W : Wd} {e a b c elt tg iter : Expr} {es ifs : List Expr} {δ : Env} {pos : Pos}
/-- [.. for ..], no test, of truths -/
theorem wLcB {α : Type} {k : Nat} {xs : List α} {enc : α → D} {scope : Scope} (own : List (Str × Nat)) {ix : List Nat} (p : α → Bool) (up : α → Env → Env) (o : Cok k X) (hlen : xs.length ≤ 100000) (hi : AI X W tg iter δ (xs.map enc))
    (hg : ∀ (s : Shared) (H : Hp) (C : Addr) (cl : List (Str × Addr)) (fp : List Addr) x, AG (X.blk s H scope (compEnvC scope cl C X.env) fp) tg ix (enc x) (up x))
    (he : ∀ (s : Shared) (H : Hp) (C : Addr) (cl : List (Str × Addr)) (fp : List Addr) x, x ∈ xs → AEq (X.blk s H scope (compEnvC scope cl C X.env) fp) W elt (up x (wipeE δ (own.map fun p : Str × Nat => p.2))) (.d (.bl (p x))))
    (ok : BlkOk X.N X.env.scope scope own := by exact blkOk_by (by kernel_rfl)) (hix : ∀ i ∈ ix, i ∈ (own.map fun p : Str × Nat => p.2) := by decide) (hs : ∀ x, foldedSetIterable iter X.env x = pure x := by intro _; rfl) :
    AEq X W (.ListComp elt [⟨tg, iter, [], 0⟩] scope pos) δ (.own ((xs.map p).map D.bl)) :=
  AEq.to (LcJ.ae (wLc own (fun _ => true) (fun x => .bl (p x)) up o hlen hi hg (fun _ _ _ _ _ _ _ => ats_nil) (fun s H C cl fp x hx _ => he s H C cl fp x hx) ok hix hs) o) own_bools
/-- [.. for ..], no test -/
theorem wLcA {α : Type} {k : Nat} {xs : List α} {enc : α → D} {scope : Scope} (own : List (Str × Nat)) {ix : List Nat} (g : α → D) (up : α → Env → Env) (o : Cok k X) (hlen : xs.length ≤ 100000) (hi : AI X W tg iter δ (xs.map enc))
    (hg : ∀ (s : Shared) (H : Hp) (C : Addr) (cl : List (Str × Addr)) (fp : List Addr) x, AG (X.blk s H scope (compEnvC scope cl C X.env) fp) tg ix (enc x) (up x))
    (he : ∀ (s : Shared) (H : Hp) (C : Addr) (cl : List (Str × Addr)) (fp : List Addr) x, x ∈ xs → AEq (X.blk s H scope (compEnvC scope cl C X.env) fp) W elt (up x (wipeE δ (own.map fun p : Str × Nat => p.2))) (.d (g x)))
    (ok : BlkOk X.N X.env.scope scope own := by exact blkOk_by (by kernel_rfl)) (hix : ∀ i ∈ ix, i ∈ (own.map fun p : Str × Nat => p.2) := by decide) (hs : ∀ x, foldedSetIterable iter X.env x = pure x := by intro _; rfl) :
    LcJ X W elt tg iter [] scope own δ (· = .own (xs.map g)) := by
  have h := wLc own (fun _ => true) g up o hlen hi hg (fun _ _ _ _ _ _ _ => ats_nil) (fun s H C cl fp x hx _ => he s H C cl fp x hx) ok hix hs
  rw [List.filter_eq_self.mpr fun _ _ => rfl] at h
  exact h
theorem AI0.eq {ds ds' : List D} (h : AI0 X W tg iter δ ds) (e : ds = ds') : AI X W tg iter δ ds' := e ▸ h.toI
theorem AI0.eq0 {ds ds' : List D} (h : AI0 X W tg iter δ ds) (e : ds = ds') : AI0 X W tg iter δ ds' := e ▸ h
theorem AI0.eqS {ds ds' : List D} (h : AI0 X W tg iter δ ds) (e : ds = ds') : AIs X W tg iter δ ds' := e ▸ h.toS
/-- range(n), n an int that may be less than nothing -/
theorem wR1i {i : Int} {pn : Pos} (hm : X.mg "range" = none) (ha : AEq X W a δ (.d (.int i))) (h1 : -1000000 ≤ i) (h2 : i ≤ 1000000) (hg : Gl X "range" := by rfl) (hs : starEach [a] X.env = [(false, eval a X.env)] := by rfl) :
    AI0 X W tg (.Call (.Name "range" pn) [a] [] pos) δ ((List.range i.toNat).map fun i : Nat => D.int (i : Int)) := by
  refine pi_weak (pi_range1 hg hm (aa_cons ha aa_nil hs) hs) fun σ H R ⟨q1, q2⟩ => ⟨q1, fun ss vs H1 f r z => ?_⟩
  subst z
  cases r with
  | cons r1 r2 =>
    cases r2
    have e0 := sv_int r1.1
    subst e0
    refine ⟨i, rfl, by omega, by omega, q2 _ H1 f fun B => ?_⟩
    have := it_range (X := X) (W := W) (lo := 0) (n := i.toNat) (H1 := H1) B
    simpa only [Int.zero_add] using this
end
section
variable {P : Program} {w : World} {K : PySem.W.Frag} {mg : Str → Option Value} {base : Heap} {W : Wd}
abbrev KnD (P : Program) (w : World) (K : PySem.W.Frag) (mg : Str → Option Value) (base : Heap) (W : Wd) (k : Nat) (x : Str) (ps : List Str) {ι : Type} (args : ι → List D) (f : ι → D) : Prop := Kn P w K mg base W k x ps (fun i => (args i).map S.d) (fun i s => s = .d (f i))
theorem nomut {ds : List D} : ∀ s ∈ ds.map S.d, ¬ Mutb s := fun s h => by
  obtain ⟨d, _, rfl⟩ := List.mem_map.mp h
  exact id
theorem sc_is_integer : FnScope ["value"] ["value"] (defScope (top 7)) := ⟨rfl, rfl, rfl, by decide +kernel, rfl, by decide +kernel, by decide +kernel⟩
theorem ok_is_integer (T : Tx mg) (d : Df K mg "is_integer" (top 7) ["value"]) : KnD P w K mg base W 1 "is_integer" ["value"] (fun i : Int => [.int i]) (fun _ => .bl true) := by
  refine kn_ok d sc_is_integer (fun _ => rfl) (fun _ => nomut) fun f cdv A outer s H E o i => ?_
  exact ass_one (wRet (ae_and (wIsi true T.isi (vv 0) (wTy T.int PyProof.Rows.boot_int)) fun _ => ae_one (ae_not (wIsi false T.isi (vv 0) (wTy T.bool PyProof.Rows.boot_bool)))) rfl)
theorem sc_is_number : FnScope ["value"] ["value"] (defScope (top 8)) := ⟨rfl, rfl, rfl, by decide +kernel, rfl, by decide +kernel, by decide +kernel⟩
theorem ok_is_number (T : Tx mg) (d : Df K mg "is_number" (top 8) ["value"]) (g1 : KnD P w K mg base W 1 "is_integer" ["value"] (fun i : Int => [.int i]) (fun _ => .bl true)) : KnD P w K mg base W 2 "is_number" ["value"] (fun i : Int => [.int i]) (fun i => .bl (decide (0 ≤ i))) := by
  refine kn_ok d sc_is_number (fun _ => rfl) (fun _ => nomut) fun f cdv A outer s H E o i => ?_
  refine ass_one (wRet (ae_and (wCallE g1 o (aa1 (vv 0)) i) fun _ => ae_one (ae_ge (vv 0) ae_int)) ?_)
  rw [Bool.true_and]
theorem sc_is_name : FnScope ["value", "sign"] ["value"] (defScope (top 9)) := ⟨rfl, rfl, rfl, by decide +kernel, rfl, by decide +kernel, by decide +kernel⟩
theorem ok_is_name (T : Tx mg) (d : Df K mg "is_name" (top 9) ["value"]) : KnD P w K mg base W 1 "is_name" ["value"] (fun s : {s : Str // s.length ≤ 1000} => [.str s.1]) (fun s => .bl (nameOk s.1)) := by
  refine kn_ok d sc_is_name (fun _ => rfl) (fun _ => nomut) fun f cdv A outer s H E o i => ?_
  obtain ⟨t1, e1⟩ := T.longest
  obtain ⟨t2, e2⟩ := T.letters
  refine ass_ifR (B := (· = (!true || !(decide ((1 : Int) ≤ i.1.length) && decide ((i.1.length : Int) ≤ 8))))) (aw_or (at_not (atv (wIsi true T.isi (vv 0) (wTy T.str PyProof.Rows.boot_str)))) fun _ => aw_or1 (at_not (at_chainLe ae_int (wLenS T.len (vv 0) (Nat.le_trans i.2 (by decide))) (wGi e1) rfl))).pt (fun h => ?_) fun h => ?_
  · refine ass_one (wRet ae_bl ?_)
    have : (decide ((1 : Int) ≤ i.1.length) && decide ((i.1.length : Int) ≤ 8)) = false := by
      cases q : (decide ((1 : Int) ≤ i.1.length) && decide ((i.1.length : Int) ≤ 8)) with
      | false => rfl
      | true =>
        rw [q] at h
        cases h
    show S.d (.bl false) = S.d (.bl (nameOk i.1))
    unfold nameOk
    rw [this] <;> rfl
  · have hk : (decide ((1 : Int) ≤ i.1.length) && decide ((i.1.length : Int) ≤ 8)) = true := by simpa using h.symm
    refine ass_one (wRet (wAll o T.all (wLcB [("sign", 1)] (fun c => decide (c ∈ lettersS.cps.toList)) (fun c δ => δ.set 1 (some (.d (.str ⟨#[c]⟩)))) o ?_ (ai_str (vv 0)).toI (fun s H C cl fp x => wName (o.blk ..)) fun s H C cl fp x _ => wInS (vv 1) (wGs e2)) (.inl rfl)) ?_)
    · rw [Array.length_toList]
      exact Nat.le_trans i.2 (by decide)
    · show S.d (.bl _) = S.d (.bl (nameOk i.1))
      unfold nameOk
      rw [hk, map_id_all] <;> rfl
end
end NR
namespace NR
open PySem PySem.Spec PyProof.Rows L2
abbrev LI := {ns : List Int // ns.length ≤ 10000}
def SeqX := List Int ⊕ List Str
def sqD : List Int ⊕ List Str → D
  | .inl ns => tupI ns
  | .inr ns => eNames ns
def sqA : List Int ⊕ List Str → Bool
  | .inl ns => ascI ns
  | .inr ns => ascS ns
def sqL : List Int ⊕ List Str → Nat
  | .inl ns => ns.length
  | .inr ns => ns.length
theorem pred_nat (n : Nat) : ((n : Int) - 1).toNat = n - 1 := by omega
theorem get_map {α : Type} {xs : List α} {f : α → D} {i : Nat} {d : α} (h : i < xs.length) : (xs.map f)[i]? = some (f (xs.getD i d)) := by
  rw [List.getElem?_map, List.getElem?_eq_getElem h, List.getD_eq_getElem?_getD, List.getElem?_eq_getElem h] <;> rfl
section
variable {P : Program} {w : World} {K : PySem.W.Frag} {mg : Str → Option Value} {base : Heap} {W : Wd}
abbrev KisNumber (P : Program) (w : World) (K : PySem.W.Frag) (mg : Str → Option Value) (base : Heap) (W : Wd) := KnD P w K mg base W 2 "is_number" ["value"] (fun i : Int => [.int i]) (fun i => .bl (decide (0 ≤ i)))
theorem sc_are_numbers : FnScope ["value", "item"] ["value"] (defScope (top 10)) := ⟨rfl, rfl, rfl, by decide +kernel, rfl, by decide +kernel, by decide +kernel⟩
theorem ok_are_numbers (T : Tx mg) (d : Df K mg "are_numbers" (top 10) ["value"]) (g : KisNumber P w K mg base W) : KnD P w K mg base W 3 "are_numbers" ["value"] (fun i : LI => [tupI i.1]) (fun i => .bl (numsOk i.1)) := by
  refine kn_ok d sc_are_numbers (fun _ => rfl) (fun _ => nomut) fun f cdv A outer s H E o i => ?_
  refine ass_one (wRet (ae_and (wIsi true T.isi (vv 0) (wTy T.tuple PyProof.Rows.boot_tuple)) fun _ => ae_one (wAll o T.all (wLcB [("item", 1)] (fun c : Int => decide (0 ≤ c)) (fun c δ => δ.set 1 (some (.d (.int c)))) o (Nat.le_trans i.2 (by decide)) (ai_tup (vv 0)).toI (fun s H C cl fp x => wName (o.blk ..)) fun s H C cl fp x _ => wCallE g (o.blk ..) (aa1 (vv 1)) x) (.inl rfl))) ?_)
  show S.d (.bl _) = S.d (.bl (numsOk i.1))
  rw [Bool.true_and, map_id_all] <;> rfl
theorem sc_is_ascending : FnScope ["items", "at"] ["items"] (defScope (top 11)) := ⟨rfl, rfl, rfl, by decide +kernel, rfl, by decide +kernel, by decide +kernel⟩
theorem ok_is_ascending (T : Tx mg) (d : Df K mg "is_ascending" (top 11) ["items"]) : KnD P w K mg base W 1 "is_ascending" ["items"] (fun i : {x : List Int ⊕ List Str // sqL x ≤ 10000} => [sqD i.1]) (fun i => .bl (sqA i.1)) := by
  refine kn_ok d sc_is_ascending (fun _ => rfl) (fun _ => nomut) fun f cdv A outer s H E o i => ?_
  obtain ⟨x, hx⟩ := i
  cases x with
  | inl ns =>
    have hx : ns.length ≤ 10000 := hx
    have hl : (ns.map D.int).length = ns.length := List.length_map ..
    refine ass_one (wRet (wAll o T.all (wLcB (xs := List.range (ns.length - 1)) (enc := fun i => .int (i : Int)) [("at", 1)] (fun c : Nat => decide (ns.getD c 0 < ns.getD (c + 1) 0)) (fun c δ => δ.set 1 (some (.d (.int c)))) o (by rw [List.length_range]; omega) ((wR1i T.range (ae_sub (wLen T.len (vv 0) .t) ae_int) (by rw [hl]; omega) (by rw [hl]; omega)).eq (by rw [hl, pred_nat])) (fun s H C cl fp x => wName (o.blk ..)) fun s H C cl fp x hx => ?_) (.inl rfl)) ?_)
    · have hx' := List.mem_range.mp hx
      exact ae_lt (wIx x (vv 0) (vv 1) .t (get_map (by omega))) (wIx (x + 1) (vv 0) (ae_add (vv 1) ae_int) .t (get_map (by omega)))
    · show S.d (.bl _) = S.d (.bl (ascI ns))
      rw [map_id_all] <;> rfl
  | inr ns =>
    have hx : ns.length ≤ 10000 := hx
    have hl : (ns.map D.str).length = ns.length := List.length_map ..
    refine ass_one (wRet (wAll o T.all (wLcB (xs := List.range (ns.length - 1)) (enc := fun i => .int (i : Int)) [("at", 1)] (fun c : Nat => decide ((ns.getD c "").cps.toList < (ns.getD (c + 1) "").cps.toList)) (fun c δ => δ.set 1 (some (.d (.int c)))) o (by rw [List.length_range]; omega) ((wR1i T.range (ae_sub (wLen T.len (vv 0) .t) ae_int) (by rw [hl]; omega) (by rw [hl]; omega)).eq (by rw [hl, pred_nat])) (fun s H C cl fp x => wName (o.blk ..)) fun s H C cl fp x hx => ?_) (.inl rfl)) ?_)
    · have hx' := List.mem_range.mp hx
      exact ae_ltS (wIx x (vv 0) (vv 1) .t (get_map (by omega))) (wIx (x + 1) (vv 0) (ae_add (vv 1) ae_int) .t (get_map (by omega)))
    · show S.d (.bl _) = S.d (.bl (ascS ns))
      rw [map_id_all] <;> rfl

abbrev KareNumbers (P : Program) (w : World) (K : PySem.W.Frag) (mg : Str → Option Value) (base : Heap) (W : Wd) := KnD P w K mg base W 3 "are_numbers" ["value"] (fun i : LI => [tupI i.1]) (fun i => .bl (numsOk i.1))
abbrev KisAscending (P : Program) (w : World) (K : PySem.W.Frag) (mg : Str → Option Value) (base : Heap) (W : Wd) := KnD P w K mg base W 1 "is_ascending" ["items"] (fun i : {x : List Int ⊕ List Str // sqL x ≤ 10000} => [sqD i.1]) (fun i => .bl (sqA i.1))
abbrev KisName (P : Program) (w : World) (K : PySem.W.Frag) (mg : Str → Option Value) (base : Heap) (W : Wd) := KnD P w K mg base W 1 "is_name" ["value"] (fun s : {s : Str // s.length ≤ 1000} => [.str s.1]) (fun s => .bl (nameOk s.1))
abbrev KisListing (P : Program) (w : World) (K : PySem.W.Frag) (mg : Str → Option Value) (base : Heap) (W : Wd) := KnD P w K mg base W 4 "is_listing" ["value", "bound"] (fun i : LI × Int => [tupI i.1.1, .int i.2]) (fun i => .bl (lotOk i.1.1 i.2))
abbrev NamesX := {ks : List Str // ks.length ≤ 10000 ∧ ∀ s ∈ ks, s.length ≤ 1000}
abbrev KareKinds (P : Program) (w : World) (K : PySem.W.Frag) (mg : Str → Option Value) (base : Heap) (W : Wd) := KnD P w K mg base W 2 "are_kinds" ["value"] (fun i : NamesX => [eNames i.1]) (fun i => .bl (kindsOk i.1))
theorem sc_is_listing : FnScope ["value", "bound", "item"] ["value", "bound"] (defScope (top 12)) := ⟨rfl, rfl, rfl, by decide +kernel, rfl, by decide +kernel, by decide +kernel⟩
theorem ok_is_listing (T : Tx mg) (d : Df K mg "is_listing" (top 12) ["value", "bound"]) (g1 : KareNumbers P w K mg base W) (g2 : KisAscending P w K mg base W) : KisListing P w K mg base W := by
  refine kn_ok d sc_is_listing (fun _ => rfl) (fun _ => nomut) fun f cdv A outer s H E o i => ?_
  refine ass_one (wRet (ae_and (wCallE g1 o (aa1 (vv 0)) i.1) fun _ => ae_and (wAll o T.all (wLcB [("item", 2)] (fun c : Int => decide (c < i.2)) (fun c δ => δ.set 2 (some (.d (.int c)))) o (Nat.le_trans i.1.2 (by decide)) (ai_tup (vv 0)).toI (fun s H C cl fp x => wName (o.blk ..)) fun s H C cl fp x _ => ae_lt (vv 2) (vv 1)) (.inl rfl)) fun _ => ae_one (wCallE g2 o (aa1 (vv 0)) ⟨.inl i.1.1, i.1.2⟩)) ?_)
  show S.d (.bl _) = S.d (.bl (lotOk i.1.1 i.2))
  rw [map_id_all]
  unfold lotOk
  rw [Bool.and_assoc] <;> rfl
theorem sc_are_kinds : FnScope ["value", "name"] ["value"] (defScope (top 16)) := ⟨rfl, rfl, rfl, by decide +kernel, rfl, by decide +kernel, by decide +kernel⟩
theorem ok_are_kinds (T : Tx mg) (d : Df K mg "are_kinds" (top 16) ["value"]) (g1 : KisName P w K mg base W) (g2 : KisAscending P w K mg base W) : KareKinds P w K mg base W := by
  refine kn_ok d sc_are_kinds (fun _ => rfl) (fun _ => nomut) fun f cdv A outer s H E o i => ?_
  obtain ⟨t1, e1⟩ := T.mostK
  have hl : (i.1.map D.str).length = i.1.length := List.length_map ..
  refine ass_ifR (B := (· = (!true || !(decide ((1 : Int) ≤ (i.1.map D.str).length) && decide (((i.1.map D.str).length : Int) ≤ 8))))) (aw_or (at_not (atv (wIsi true T.isi (vv 0) (wTy T.tuple PyProof.Rows.boot_tuple)))) fun _ => aw_or1 (at_not (at_chainLe ae_int (wLen T.len (vv 0) .t) (wGi e1) rfl))).pt (fun h => ?_) fun h => ?_
  · refine ass_one (wRet ae_bl ?_)
    rw [hl] at h
    show S.d (.bl false) = S.d (.bl (kindsOk i.1))
    unfold kindsOk
    cases q : (decide ((1 : Int) ≤ i.1.length) && decide ((i.1.length : Int) ≤ 8)) with
    | false => rfl
    | true =>
      rw [q] at h
      cases h
  · refine ass_one (wRet (ae_and (wAll o T.all (wLcB [("name", 1)] nameOk (fun c δ => δ.set 1 (some (.d (.str c)))) o (Nat.le_trans i.2.1 (by decide)) (ai_tup (vv 0)).toI (fun s H C cl fp x => wName (o.blk ..)) fun s H C cl fp x hx => wCallE g1 (o.blk ..) (aa1 (vv 1)) ⟨x, i.2.2 x hx⟩) (.inl rfl)) fun _ => ae_one (wCallE g2 o (aa1 (vv 0)) ⟨.inr i.1, i.2.1⟩)) ?_)
    rw [hl] at h
    show S.d (.bl _) = S.d (.bl (kindsOk i.1))
    unfold kindsOk
    rw [map_id_all]
    cases q : (decide ((1 : Int) ≤ i.1.length) && decide ((i.1.length : Int) ≤ 8)) with
    | false =>
      rw [q] at h
      cases h
    | true => rfl
abbrev KisType (P : Program) (w : World) (K : PySem.W.Frag) (mg : Str → Option Value) (base : Heap) (W : Wd) := KnD P w K mg base W 5 "is_type" ["kinds", "value", "last"] (fun i : {x : List Str × Ty × Option Str // x.2.1.1.length ≤ 1000 ∧ x.2.1.2.length ≤ 10000} => [eNames i.1.1, eTy i.1.2.1, eLast i.1.2.2]) (fun i => .bl (tyOk i.1.1.length i.1.2.1 i.1.2.2))
theorem sc_is_type : FnScope ["kinds", "value", "last"] ["kinds", "value", "last"] (defScope (top 17)) := ⟨rfl, rfl, rfl, by decide +kernel, rfl, by decide +kernel, by decide +kernel⟩
theorem ok_is_type (T : Tx mg) (d : Df K mg "is_type" (top 17) ["kinds", "value", "last"]) (g1 : KisName P w K mg base W) (g2 : KisListing P w K mg base W) : KisType P w K mg base W := by
  refine kn_ok d sc_is_type (fun _ => rfl) (fun _ => nomut) fun f cdv A outer s H E o i => ?_
  obtain ⟨⟨ks, t, last⟩, h1, h2⟩ := i
  have hl : (ks.map D.str).length = ks.length := List.length_map ..
  refine ass_ifR (B := (· = (!true || (!decide ((([D.str t.1, tupI t.2] : List D).length : Int) = 2) || !nameOk t.1)))) (aw_or (at_not (atv (wIsi true T.isi (vv 1) (wTy T.tuple PyProof.Rows.boot_tuple)))) fun _ => aw_or (at_neI (wLen T.len (vv 1) .t) ae_int) fun _ => aw_or1 (at_not (atv (wCallE g1 o (aa1 (wIx 0 (vv 1) ae_int .t rfl)) ⟨t.1, h1⟩)))).pt (fun h => ?_) fun h => ?_
  · refine ass_one (wRet ae_bl ?_)
    show S.d (.bl false) = S.d (.bl (tyOk ks.length t last))
    unfold tyOk
    have h : true = (false || (false || !nameOk t.1)) := h
    cases q : nameOk t.1 with
    | false => rfl
    | true =>
      rw [q] at h
      cases h
  · have h : false = (false || (false || !nameOk t.1)) := h
    have hn : nameOk t.1 = true := by
      cases q : nameOk t.1 with
      | true => rfl
      | false =>
        rw [q] at h
        cases h
    cases last with
    | none =>
      refine ass_one (wRet (ae_and (ae_or (q := false) (ae_isN (vv 2 (s := .d .non)) ae_non) (fun z => nomatch z)) fun _ => ae_one (wCallE g2 o (aa2 (wIx 1 (vv 1) ae_int .t rfl) (wLen T.len (vv 0) .t)) (⟨t.2, h2⟩, ((ks.map D.str).length : Int)))) ?_)
      show S.d (.bl _) = S.d (.bl (tyOk ks.length t none))
      unfold tyOk
      rw [hn, hl] <;> rfl
    | some l =>
      refine ass_one (wRet (ae_and (ae_or (ae_isN (vv 2 (s := .d (.str l))) ae_non) fun _ => ae_one (ae_ltS (vv 2) (wIx 0 (vv 1) ae_int .t rfl))) fun _ => ae_one (wCallE g2 o (aa2 (wIx 1 (vv 1) ae_int .t rfl) (wLen T.len (vv 0) .t)) (⟨t.2, h2⟩, ((ks.map D.str).length : Int)))) ?_)
      show S.d (.bl _) = S.d (.bl (tyOk ks.length t (some l)))
      unfold tyOk
      rw [hn, hl] <;> rfl
end
end NR
namespace NR
open PySem PySem.Spec PyProof.Rows L2
section
variable {X : Cx} {W : Wd} {e a b c elt tg iter : Expr} {es ifs : List Expr} {δ : Env} {pos : Pos} {st : Stmt} {rest body : List Stmt} {p q : Post}
theorem wTg2 {k i j : Nat} {x y : Str} {d1 d2 : D} {px py : Pos} {kk : Nat} (o : Cok k X) (hi : X.N[i]? = some x := by rfl) (hj : X.N[j]? = some y := by rfl) (hx : Loc X.env.scope x := by first | exact Or.inl rfl | exact Or.inr rfl) (hy : Loc X.env.scope y := by first | exact Or.inl rfl | exact Or.inr rfl)
    (hf : X.fn x = true ∨ X.env.scope.names.lookup x = some .local := by first | exact .inl rfl | exact .inr rfl) (hf2 : X.fn y = true ∨ X.env.scope.names.lookup y = some .local := by first | exact .inl rfl | exact .inr rfl)
    (h1 : (assignEach [.Name x px, .Name y py] X.env).map (·.2) = assign (.Name x px) X.env :: (assignEach [.Name y py] X.env).map (·.2) := by rfl) (h2 : (assignEach [.Name y py] X.env).map (·.2) = assign (.Name y py) X.env :: (assignEach [] X.env).map (·.2) := by rfl)
    (hn : (assignEach [.Name x px, .Name y py] X.env).length = 2 := by rfl) (hst : (assignEach [.Name x px, .Name y py] X.env).findIdx? (·.1) = none := by rfl) :
    AG X (.Tuple [.Name x px, .Name y py] kk pos) [i, j] (.tup [d1, d2]) (fun δ => (δ.set i (some (.d d1))).set j (some (.d d2))) :=
  ag_tup o.calm (ags_cons (ag_name o.nd hi hx hf) (ags_cons (ag_name o.nd hj hy hf2) ags_nil h2) h1) hn hst
theorem wTg3 {k i j l : Nat} {x y z : Str} {d1 d2 d3 : D} {px py pz : Pos} {kk : Nat} (o : Cok k X) (hi : X.N[i]? = some x := by rfl) (hj : X.N[j]? = some y := by rfl) (hl : X.N[l]? = some z := by rfl) (hx : Loc X.env.scope x := by first | exact Or.inl rfl | exact Or.inr rfl) (hy : Loc X.env.scope y := by first | exact Or.inl rfl | exact Or.inr rfl) (hz : Loc X.env.scope z := by first | exact Or.inl rfl | exact Or.inr rfl)
    (hf : X.fn x = true ∨ X.env.scope.names.lookup x = some .local := by first | exact .inl rfl | exact .inr rfl) (hf2 : X.fn y = true ∨ X.env.scope.names.lookup y = some .local := by first | exact .inl rfl | exact .inr rfl) (hf3 : X.fn z = true ∨ X.env.scope.names.lookup z = some .local := by first | exact .inl rfl | exact .inr rfl)
    (h1 : (assignEach [.Name x px, .Name y py, .Name z pz] X.env).map (·.2) = assign (.Name x px) X.env :: (assignEach [.Name y py, .Name z pz] X.env).map (·.2) := by rfl) (h2 : (assignEach [.Name y py, .Name z pz] X.env).map (·.2) = assign (.Name y py) X.env :: (assignEach [.Name z pz] X.env).map (·.2) := by rfl) (h3 : (assignEach [.Name z pz] X.env).map (·.2) = assign (.Name z pz) X.env :: (assignEach [] X.env).map (·.2) := by rfl)
    (hn : (assignEach [.Name x px, .Name y py, .Name z pz] X.env).length = 3 := by rfl) (hst : (assignEach [.Name x px, .Name y py, .Name z pz] X.env).findIdx? (·.1) = none := by rfl) :
    AG X (.Tuple [.Name x px, .Name y py, .Name z pz] kk pos) [i, j, l] (.tup [d1, d2, d3]) (fun δ => ((δ.set i (some (.d d1))).set j (some (.d d2))).set l (some (.d d3))) :=
  ag_tup o.calm (ags_cons (ag_name o.nd hi hx hf) (ags_cons (ag_name o.nd hj hy hf2) (ags_cons (ag_name o.nd hl hz hf3) ags_nil h3) h2) h1) hn hst
theorem wEn {s : S} {ds : List D} {elts : List Expr} {kk : Nat} {tpos pn : Pos} (hm : X.mg "enumerate" = none) (ha : AEq X W e δ s) (hs : IsT s ds) (hg : Gl X "enumerate" := by rfl) (hst : starEach [e] X.env = [(false, eval e X.env)] := by rfl) :
    AI0 X W (.Tuple elts kk tpos) (.Call (.Name "enumerate" pn) [e] [] pos) δ (enD ds) := ai_enumT hg hm ha hs hst
/-- if .. : raise, never met -/
theorem as_skip {u : List Stmt} (h : ATq X W c δ false) (hN : p.N δ) : AS X W (.If c u [] pos) δ p := as_if h (fun z => nomatch z) fun _ => ass_nil ⟨δ, hN, .refl δ⟩
theorem ass_skip {u : List Stmt} (h : ATq X W c δ false) (t : ASs X W rest δ p) : ASs X W (.If c u [] pos :: rest) δ p := ass_cons (fun δ' => δ' = δ) (as_skip h rfl) fun δ' z => z ▸ t
/-- name = e, the small premises filled -/
theorem wSet {k i : Nat} {x : Str} {pos' : Pos} {s : S} (o : Cok k X) (h : AEq X W e δ s) (t : ASs X W rest (δ.set i (some s)) p) (hl : ∀ ds, s ≠ .l ds := by exact fun _ h => nomatch h) (hi : X.N[i]? = some x := by rfl) (hx : Loc X.env.scope x := by first | exact Or.inl rfl | exact Or.inr rfl)
    (hf : X.fn x = true ∨ X.env.scope.names.lookup x = some .local := by first | exact .inl rfl | exact .inr rfl) (hs : swapsWith e (some (.Name x pos')) pos.line X.env = pure false := by rfl) : ASs X W (.Assign [.Name x pos'] e pos :: rest) δ p := ass_set o.nd hi hx hf hs h hl t
end
def tysOk (n : Nat) : Option Str → List Ty → Bool
  | _, [] => true
  | last, t :: ts => tyOk n t last && tysOk n (some t.1) ts
def tbOk (ks : List Str) (ts : List Ty) : Bool := kindsOk ks && (decide (ts.length ≤ 12) && tysOk ks.length none ts)
def lastOf (ts : List Ty) (i : Nat) : Option Str := match i with
  | 0 => none
  | i + 1 => ts[i]?.map (·.1)
theorem tysOk_at {n : Nat} : ∀ {ts : List Ty} {last : Option Str} {i : Nat}, tysOk n last ts = true → (h : i < ts.length) → tyOk n ts[i] (match i with
    | 0 => last
    | i + 1 => ts[i]?.map (·.1)) = true
  | t :: ts, last, 0, h, _ => by
    simp only [tysOk, Bool.and_eq_true] at h
    exact h.1
  | t :: ts, last, i + 1, h, hl => by
    simp only [tysOk, Bool.and_eq_true] at h
    have := tysOk_at (i := i) h.2 (by simpa using hl)
    cases i with
    | zero => simpa using this
    | succ i => simpa using this
theorem nameOk_len {s : Str} (h : nameOk s = true) : s.length ≤ 8 := by
  unfold nameOk at h
  simp only [Bool.and_eq_true, decide_eq_true_eq] at h
  omega
theorem kindsOk_len {ks : List Str} (h : kindsOk ks = true) : 1 ≤ ks.length ∧ ks.length ≤ 8 ∧ ∀ s ∈ ks, nameOk s = true := by
  unfold kindsOk at h
  simp only [Bool.and_eq_true, decide_eq_true_eq, List.all_eq_true] at h
  exact ⟨by omega, by omega, h.2.1⟩
theorem asc_bound : ∀ {ns : List Int} {m lo : Int}, (∀ x ∈ ns, x < m) → (∀ x ∈ ns, lo ≤ x) → ns.Pairwise (· < ·) → lo ≤ m → (ns.length : Int) ≤ m - lo
  | [], m, lo, _, _, _, h => by simp; omega
  | x :: ns, m, lo, h1, h2, h3, h => by
    obtain ⟨a, b⟩ := List.pairwise_cons.mp h3
    have hx := h1 x List.mem_cons_self
    have hy := h2 x List.mem_cons_self
    have := asc_bound (ns := ns) (m := m) (lo := x + 1) (fun y hy => h1 y (List.mem_cons_of_mem _ hy)) (fun y hy => by have := a y hy; omega) b (by omega)
    rw [List.length_cons]
    omega
theorem ascI_pw : ∀ {ns : List Int}, ascI ns = true → ns.Pairwise (· < ·) := by
  intro ns h
  have hs : ∀ i, i + 1 < ns.length → ns.getD i 0 < ns.getD (i + 1) 0 := fun i hi => by
    unfold ascI at h
    have := List.all_eq_true.mp h i (List.mem_range.mpr (by omega))
    exact of_decide_eq_true this
  rw [List.pairwise_iff_getElem]
  have key : ∀ (j i : Nat), i < j → (hj : j < ns.length) → ns.getD i 0 < ns.getD j 0 := by
    intro j
    induction j with
    | zero => intro i h; omega
    | succ j ih =>
      intro i hij hj
      have h1 := hs j hj
      by_cases e : i = j
      · subst e
        exact h1
      · exact Int.lt_trans (ih i (by omega) (by omega)) h1
  intro i j hi hj hij
  have := key j i hij hj
  rw [List.getD_eq_getElem?_getD, List.getD_eq_getElem?_getD, List.getElem?_eq_getElem hi, List.getElem?_eq_getElem hj] at this
  exact this
theorem lotOk_iff {ns : List Int} {m : Int} (h : lotOk ns m = true) : (∀ x ∈ ns, 0 ≤ x ∧ x < m) ∧ ns.Pairwise (· < ·) := by
  unfold lotOk numsOk at h
  simp only [Bool.and_eq_true, List.all_eq_true, decide_eq_true_eq] at h
  exact ⟨fun x hx => ⟨h.1.1 x hx, h.1.2 x hx⟩, ascI_pw h.2⟩
theorem lotOk_len {ns : List Int} {n : Nat} (h : lotOk ns n = true) : ns.length ≤ n := by
  obtain ⟨h1, h2⟩ := lotOk_iff h
  have := asc_bound (m := n) (lo := 0) (fun x hx => (h1 x hx).2) (fun x hx => (h1 x hx).1) h2 (by omega)
  omega
theorem tyOk_iff {n : Nat} {t : Ty} {last : Option Str} (h : tyOk n t last = true) : nameOk t.1 = true ∧ lastOk last t.1 = true ∧ lotOk t.2 n = true := by
  unfold tyOk at h
  simpa [Bool.and_eq_true] using h
theorem tysOk_mem {n : Nat} : ∀ {ts : List Ty} {last : Option Str}, tysOk n last ts = true → ∀ t ∈ ts, nameOk t.1 = true ∧ lotOk t.2 n = true
  | t :: ts, last, h, u, hu => by
    simp only [tysOk, Bool.and_eq_true] at h
    rcases List.mem_cons.mp hu with rfl | hu
    · obtain ⟨a, _, b⟩ := tyOk_iff h.1
      exact ⟨a, b⟩
    · exact tysOk_mem h.2 u hu
structure TbOk (ks : List Str) (ts : List Ty) : Prop where
  kinds : kindsOk ks = true
  few : ts.length ≤ 12
  types : tysOk ks.length none ts = true
theorem tbOk_iff {ks : List Str} {ts : List Ty} : tbOk ks ts = true ↔ TbOk ks ts := by
  unfold tbOk
  simp only [Bool.and_eq_true, decide_eq_true_eq]
  exact ⟨fun h => ⟨h.1, h.2.1, h.2.2⟩, fun h => ⟨h.kinds, h.few, h.types⟩⟩
theorem plDs_map {α : Type} {xs : List α} {f : α → D} (h : ∀ x, plD (f x) = true) : plDs (xs.map f) = true := by
  induction xs with
  | nil => rfl
  | cons x xs ih => simp [plDs, h x, ih]
theorem pl_tupI (ns : List Int) : plD (tupI ns) = true := by
  unfold tupI
  rw [plD]
  exact plDs_map fun _ => rfl
theorem pl_names (ns : List Str) : plD (eNames ns) = true := by
  unfold eNames
  rw [plD]
  exact plDs_map fun _ => rfl
theorem pl_ty (t : Ty) : plD (eTy t) = true := by
  unfold eTy
  rw [plD]
  simp [plDs, plD, pl_tupI]
theorem pl_tys (ts : List Ty) : plD (eTys ts) = true := by
  unfold eTys
  rw [plD]
  exact plDs_map fun t => pl_ty t
def DfC (K : PySem.W.Frag) (mg : Str → Option Value) (x : Str) (st : Stmt) (C : Addr) (ps : List Str) : Prop := ∃ f fd, Mk K C f ∧ Fun K "__init__" (x ++ ".__init__") st f fd ∧ mg x = some (.ref C) ∧ Binds K fd ps []
structure Cz (K : PySem.W.Frag) (mg : Str → Option Value) (CT CF CC : Addr) : Prop where
  clT : Cls K CT
  tK : NoAttr K CT "kinds"
  tT : NoAttr K CT "types"
  clF : Cls K CF
  fP : NoAttr K CF "places"
  fA : NoAttr K CF "above"
  fH : NoAttr K CF "homes"
  clC : Cls K CC
  cK : NoAttr K CC "kinds"
  cT : NoAttr K CC "types"
  iF : InsT K CF
  iC : InsT K CC
  kFF : PySem.W.kitOne K (.ref CF) (.ref CF) = some true
  kCF : PySem.W.kitOne K (.ref CC) (.ref CF) = some false
  mF : mg "Forest" = some (.ref CF)
section
variable {P : Program} {w : World} {K : PySem.W.Frag} {mg : Str → Option Value} {base : Heap} {W : Wd} {CT CF CC : Addr}
abbrev TbX := {x : List Str × List Ty // tbOk x.1 x.2 = true}
abbrev KTable (P : Program) (w : World) (K : PySem.W.Frag) (mg : Str → Option Value) (base : Heap) (W : Wd) (CT : Addr) := KnC P w K mg base W 6 "Table" CT ["self", "kinds", "types"] ["kinds", "types"] (fun i : TbX => [eNames i.1.1, eTys i.1.2])
theorem sc_table : FnScope ["self", "kinds", "types", "last", "at", "item"] ["self", "kinds", "types"] (defScope (inClass (top 18) 0)) := ⟨rfl, rfl, rfl, by decide +kernel, rfl, by decide +kernel, by decide +kernel⟩
theorem ok_table (T : Tx mg) (Z : Cz K mg CT CF CC) (d : DfC K mg "Table" (inClass (top 18) 0) CT ["self", "kinds", "types"]) (g1 : ∀ W, KareKinds P w K mg base W) (g2 : ∀ W, KisType P w K mg base W) : KTable P w K mg base W CT := by
  obtain ⟨f, fd, M, F, m, b⟩ := d
  refine ⟨f, fd, M, init_ok F sc_table (fun _ => rfl) (by decide) (fun i => by simp [plDs, pl_names, pl_tys]) fun cdv A outer s H E o i x dx H0 h0 hbd => ?_, m, b⟩
  obtain ⟨t1, e1⟩ := T.mostT
  obtain ⟨⟨ks, ts⟩, hok⟩ := i
  have hok' : TbOk ks ts := tbOk_iff.mp hok
  obtain ⟨hk, hfew, hty⟩ := hok'
  obtain ⟨k1, k2, k3⟩ := kindsOk_len hk
  have hl : (ts.map eTy).length = ts.length := List.length_map ..
  have hT := tysOk_mem hty
  refine pre_cons (fun δ' => δ' = [some .hp, some (.d (eNames ks)), some (.d (eTys ts)), none, none, none]) (as_skip (ATq.to (at_not (atv (wCallE (g1 (putW W x)) o (aa1 (vv 1)) ⟨ks, by omega, fun s hs => Nat.le_trans (nameOk_len (k3 s hs)) (by decide)⟩))) (by rw [hk] <;> rfl)) rfl) fun δ' z => ?_
  subst z
  refine pre_cons (fun δ' => δ' = [some .hp, some (.d (eNames ks)), some (.d (eTys ts)), none, none, none]) (as_skip (ATq.to (aw_or (at_not (atv (wIsi true T.isi (vv 2) (wTy T.tuple PyProof.Rows.boot_tuple)))) fun _ => aw_or1 (at_gt (wLen T.len (vv 2) .t) (wGi e1))).pt (by
    rw [hl]
    show (false || decide _) = false
    rw [Bool.false_or]
    exact decide_eq_false (by omega))) rfl) fun δ' z => ?_
  subst z
  refine pre_set (i := 3) o ae_non (fun _ h => nomatch h) ?_
  refine pre_cons (fun δ' => ∃ l, δ' = [some .hp, some (.d (eNames ks)), some (.d (eTys ts)), l, none, none]) (as_for (I := fun i δ' => δ' = [some .hp, some (.d (eNames ks)), some (.d (eTys ts)), some (.d (eLast (lastOf ts i))), none, none]) (ix := [4, 5]) (fun i δ => (δ.set 4 (some (.d (.int (i : Int))))).set 5 (some (.d (eTy (ts.getD i ("", [])))))) o (fun _ => rfl) (wEn T.enum (vv 2) (.inl rfl)).toS ⟨_, rfl, .refl _⟩ (fun i d hd => ?_) (fun i d δ' hd hI => ?_) (fun δ' h => ⟨_, h⟩)) fun δ' z => ?_
  · obtain ⟨y, hx, rfl⟩ := enD_get hd
    have hi : i < ts.length := by
      have := (List.getElem?_eq_some_iff.mp hx).1
      omega
    rw [get_map (f := eTy) (d := ("", [])) hi] at hx
    cases hx
    exact wTg2 o
  · obtain ⟨y, hx, rfl⟩ := enD_get hd
    subst hI
    have hi : i < ts.length := by
      have := (List.getElem?_eq_some_iff.mp hx).1
      omega
    have hg : ts[i] = ts.getD i ("", []) := by rw [List.getD_eq_getElem?_getD, List.getElem?_eq_getElem hi] <;> rfl
    have hm := hT _ (List.getElem_mem hi)
    have h1 := tysOk_at hty hi
    rw [hg] at hm h1
    have h2 : tyOk ks.length (ts.getD i ("", [])) (lastOf ts i) = true := by
      cases i <;> exact h1
    refine ass_skip (ATq.to (at_not (atv (wCallE (g2 (putW W x)) o (aa3 (vv 1) (vv 5) (vv 3)) ⟨(ks, ts.getD i ("", []), lastOf ts i), Nat.le_trans (nameOk_len hm.1) (by decide), Nat.le_trans (lotOk_len hm.2) (by omega)⟩))) (by rw [h2] <;> rfl)) ?_
    refine wSet (i := 3) o (wIx 0 (vv 5) ae_int .t rfl) (ass_nil ⟨_, rfl, ?_⟩)
    have e3 : eLast (lastOf ts (i + 1)) = .str (ts.getD i ("", [])).1 := by
      show eLast (ts[i]?.map (·.1)) = _
      rw [List.getElem?_eq_getElem hi, hg] <;> rfl
    rw [e3]
    exact .same (.same (.same (.same (.drop (.drop .nil)))))
  · obtain ⟨l, rfl⟩ := z
    refine pre_end (sl := _) h0 hbd rfl (fun p hp => ?_) ?_
    · rcases List.mem_cons.mp hp with rfl | hp
      · exact ⟨pl_names ks, rfl⟩
      · rcases List.mem_cons.mp hp with rfl | hp
        · exact ⟨pl_tys ts, rfl⟩
        · cases hp
    · exact st_store (i := 1) Z.clT Z.tK rfl rfl (by simp) (by decide) (by decide) hbd h0 (st_last (i := 2) Z.clT Z.tT rfl rfl (by simp) (by decide) (by decide) hbd h0 rfl rfl)
end
end NR
namespace NR
open PySem PySem.Spec PyProof.Rows L2
def nI (n : Nat) : Int := n
/-- who takes kind k -/
def takersM (ts : List Ty) (k : Int) : List Int := (ts.zipIdx.filter fun p => decide (k ∈ p.1.2)).map fun p => nI p.2
def allT (n : Nat) (ts : List Ty) : List (List Int) := (List.range n).map fun k => takersM ts (nI k)
def wtM (ts : List Ty) (lot : List Int) : List Ty := (ts.zipIdx.filter fun p => !decide (nI p.2 ∈ lot)).map (·.1)
def leftM (n : Nat) (kinds : List Int) : List Int := ((List.range n).filter fun k => !decide (nI k ∈ kinds)).map nI
def wkTys (left kinds : List Int) (ts : List Ty) : List Ty := ts.map fun t => (t.1, (t.2.filter fun k => !decide (k ∈ kinds)).map fun k => nI (left.idxOf k))
def wkNames (left : List Int) (ks : List Str) : List Str := left.map fun k => ks.getD k.toNat ""
def firstsM (lots : List (List Int)) : List Int := (lots.zipIdx.filter fun p => !decide (p.1 ∈ lots.take p.2)).map fun p => nI p.2
def twinM (lots : List (List Int)) : List Int := lots.map fun lot => nI ((firstsM lots).idxOf (nI (idxT lot lots)))
def othersM (pl : List Int) : List Int := ((List.range pl.length).filter fun k => decide (pl.getD k 0 ∈ pl.take k)).map nI
/-! tables, in order -/
abbrev ltS (a b : Str) : Prop := a.cps.toList < b.cps.toList
theorem ltS_trans {a b c : Str} (h : ltS a b) (k : ltS b c) : ltS a c := List.lt_trans h k
theorem tysOk_iff {n : Nat} : ∀ {ts : List Ty} {last : Option Str}, tysOk n last ts = true ↔ (∀ t ∈ ts, nameOk t.1 = true ∧ lotOk t.2 n = true) ∧ (ts.map (·.1)).Pairwise ltS ∧ ∀ l, last = some l → ∀ t ∈ ts, ltS l t.1
  | [], last => by simp [tysOk]
  | t :: ts, last => by
    simp only [tysOk, Bool.and_eq_true, tysOk_iff (ts := ts) (last := some t.1)]
    constructor
    · rintro ⟨h1, h2, h3, h4⟩
      obtain ⟨a, b, c⟩ := tyOk_iff h1
      refine ⟨fun u hu => ?_, ?_, fun l hl u hu => ?_⟩
      · rcases List.mem_cons.mp hu with rfl | hu
        · exact ⟨a, c⟩
        · exact h2 u hu
      · rw [List.map_cons, List.pairwise_cons]
        refine ⟨fun s hs => ?_, h3⟩
        obtain ⟨u, hu, rfl⟩ := List.mem_map.mp hs
        exact h4 _ rfl u hu
      · subst hl
        have b' : ltS l t.1 := of_decide_eq_true b
        rcases List.mem_cons.mp hu with rfl | hu
        · exact b'
        · exact ltS_trans b' (h4 _ rfl u hu)
    · rintro ⟨h1, h2, h3⟩
      rw [List.map_cons, List.pairwise_cons] at h2
      obtain ⟨a, c⟩ := h1 t List.mem_cons_self
      refine ⟨?_, fun u hu => h1 u (List.mem_cons_of_mem _ hu), h2.2, fun l hl u hu => ?_⟩
      · unfold tyOk
        rw [a, c]
        cases last with
        | none => rfl
        | some l =>
          have := h3 l rfl t List.mem_cons_self
          simp only [lastOk, Bool.true_and, Bool.and_true]
          exact decide_eq_true this
      · cases hl
        exact h2.1 _ (List.mem_map.mpr ⟨u, hu, rfl⟩)
theorem ascS_iff : ∀ {ns : List Str}, ascS ns = true ↔ ns.Pairwise ltS := by
  intro ns
  constructor
  · intro h
    have hs : ∀ i, i + 1 < ns.length → ltS (ns.getD i "") (ns.getD (i + 1) "") := fun i hi => by
      unfold ascS at h
      exact of_decide_eq_true (List.all_eq_true.mp h i (List.mem_range.mpr (by omega)))
    rw [List.pairwise_iff_getElem]
    have key : ∀ (j i : Nat), i < j → (hj : j < ns.length) → ltS (ns.getD i "") (ns.getD j "") := by
      intro j
      induction j with
      | zero => intro i h; omega
      | succ j ih =>
        intro i hij hj
        have h1 := hs j hj
        by_cases e : i = j
        · subst e
          exact h1
        · exact ltS_trans (ih i (by omega) (by omega)) h1
    intro i j hi hj hij
    have := key j i hij hj
    rw [List.getD_eq_getElem?_getD, List.getD_eq_getElem?_getD, List.getElem?_eq_getElem hi, List.getElem?_eq_getElem hj] at this
    exact this
  · intro h
    unfold ascS
    refine List.all_eq_true.mpr fun i hi => decide_eq_true ?_
    have hi := List.mem_range.mp hi
    have := List.pairwise_iff_getElem.mp h i (i + 1) (by omega) (by omega) (by omega)
    rw [List.getD_eq_getElem?_getD, List.getD_eq_getElem?_getD, List.getElem?_eq_getElem (by omega : i < ns.length), List.getElem?_eq_getElem (by omega : i + 1 < ns.length)]
    exact this
theorem ascI_iff {ns : List Int} : ascI ns = true ↔ ns.Pairwise (· < ·) := by
  refine ⟨ascI_pw, fun h => ?_⟩
  unfold ascI
  refine List.all_eq_true.mpr fun i hi => decide_eq_true ?_
  have hi := List.mem_range.mp hi
  have := List.pairwise_iff_getElem.mp h i (i + 1) (by omega) (by omega) (by omega)
  rw [List.getD_eq_getElem?_getD, List.getD_eq_getElem?_getD, List.getElem?_eq_getElem (by omega : i < ns.length), List.getElem?_eq_getElem (by omega : i + 1 < ns.length)]
  exact this
theorem lotOk_eq {ns : List Int} {m : Int} : lotOk ns m = true ↔ (∀ x ∈ ns, 0 ≤ x ∧ x < m) ∧ ns.Pairwise (· < ·) := by
  refine ⟨lotOk_iff, fun ⟨h1, h2⟩ => ?_⟩
  unfold lotOk numsOk
  rw [ascI_iff.mpr h2, List.all_eq_true.mpr fun x hx => decide_eq_true (h1 x hx).1, List.all_eq_true.mpr fun x hx => decide_eq_true (h1 x hx).2] <;> rfl
theorem kindsOk_eq {ks : List Str} : kindsOk ks = true ↔ 1 ≤ ks.length ∧ ks.length ≤ 8 ∧ (∀ s ∈ ks, nameOk s = true) ∧ ks.Pairwise ltS := by
  unfold kindsOk
  simp only [Bool.and_eq_true, decide_eq_true_eq, List.all_eq_true, ascS_iff]
  exact ⟨fun h => ⟨by omega, by omega, h.2.1, h.2.2⟩, fun h => ⟨⟨by omega, by omega⟩, h.2.2.1, h.2.2.2⟩⟩
/-- tables that are allowed -/
structure Tb (ks : List Str) (ts : List Ty) : Prop where
  k1 : 1 ≤ ks.length
  k8 : ks.length ≤ 8
  kn : ∀ s ∈ ks, nameOk s = true
  ka : ks.Pairwise ltS
  t12 : ts.length ≤ 12
  tn : ∀ t ∈ ts, nameOk t.1 = true
  tl : ∀ t ∈ ts, (∀ x ∈ t.2, 0 ≤ x ∧ x < (ks.length : Int)) ∧ t.2.Pairwise (· < ·)
  ta : (ts.map (·.1)).Pairwise ltS
theorem tb_iff {ks : List Str} {ts : List Ty} : tbOk ks ts = true ↔ Tb ks ts := by
  rw [tbOk_iff]
  constructor
  · rintro ⟨h1, h2, h3⟩
    obtain ⟨a, b, c, d⟩ := kindsOk_eq.mp h1
    obtain ⟨e, f, _⟩ := tysOk_iff.mp h3
    exact ⟨a, b, c, d, h2, fun t ht => (e t ht).1, fun t ht => lotOk_iff (e t ht).2, f⟩
  · rintro ⟨a, b, c, d, h2, e, e', f⟩
    exact ⟨kindsOk_eq.mpr ⟨a, b, c, d⟩, h2, tysOk_iff.mpr ⟨fun t ht => ⟨e t ht, lotOk_eq.mpr (e' t ht)⟩, f, fun l hl => nomatch hl⟩⟩
theorem filter_zip_sub {α : Type} {p : α × Nat → Bool} (xs : List α) : ((xs.zipIdx.filter p).map (·.1)).Sublist xs := by
  have h := (List.filter_sublist (l := xs.zipIdx) (p := p)).map (fun q : α × Nat => q.1)
  rwa [List.zipIdx_map_fst] at h
theorem wt_sub (ts : List Ty) (lot : List Int) : (wtM ts lot).Sublist ts := filter_zip_sub ts
theorem wt_ok {ks : List Str} {ts : List Ty} (h : Tb ks ts) (lot : List Int) : Tb ks (wtM ts lot) := by
  have s := wt_sub ts lot
  exact ⟨h.k1, h.k8, h.kn, h.ka, Nat.le_trans s.length_le h.t12, fun t ht => h.tn t (s.subset ht), fun t ht => h.tl t (s.subset ht), h.ta.sublist (s.map _)⟩
theorem leftM_mem {n : Nat} {kinds : List Int} {k : Int} : k ∈ leftM n kinds ↔ (0 ≤ k ∧ k < n) ∧ k ∉ kinds := by
  unfold leftM nI
  simp only [List.mem_map, List.mem_filter, List.mem_range, Bool.not_eq_true', decide_eq_false_iff_not]
  constructor
  · rintro ⟨a, ⟨h1, h2⟩, rfl⟩
    exact ⟨⟨by omega, by omega⟩, h2⟩
  · rintro ⟨⟨h1, h2⟩, h3⟩
    exact ⟨k.toNat, ⟨by omega, by rwa [Int.toNat_of_nonneg h1]⟩, Int.toNat_of_nonneg h1⟩
theorem range_pw : ∀ n : Nat, ((List.range n).map nI).Pairwise (· < ·) := fun n => by
  rw [List.pairwise_map]
  exact List.pairwise_lt_range.imp fun {a b} h => by unfold nI; omega
theorem leftM_pw (n : Nat) (kinds : List Int) : (leftM n kinds).Pairwise (· < ·) := by
  unfold leftM
  rw [List.pairwise_map]
  exact (List.pairwise_lt_range.sublist (List.filter_sublist)).imp fun {a b} h => by unfold nI; omega
theorem idx_lt {left : List Int} (h : left.Pairwise (· < ·)) {x y : Int} (hx : x ∈ left) (hy : y ∈ left) (l : x < y) : left.idxOf x < left.idxOf y := by
  have h1 := List.idxOf_lt_length_iff.mpr hx
  have h2 := List.idxOf_lt_length_iff.mpr hy
  rcases Nat.lt_trichotomy (left.idxOf x) (left.idxOf y) with q | q | q
  · exact q
  · have e1 := List.getElem_idxOf h1
    have e2 := List.getElem_idxOf h2
    simp only [q] at e1
    omega
  · have := List.pairwise_iff_getElem.mp h _ _ h2 h1 q
    rw [List.getElem_idxOf, List.getElem_idxOf] at this
    omega
theorem wk_ok {ks : List Str} {ts : List Ty} (h : Tb ks ts) {kinds : List Int} (hl : leftM ks.length kinds ≠ []) : Tb (wkNames (leftM ks.length kinds) ks) (wkTys (leftM ks.length kinds) kinds ts) := by
  have hpw := leftM_pw ks.length kinds
  have hlen : (wkNames (leftM ks.length kinds) ks).length = (leftM ks.length kinds).length := by unfold wkNames; rw [List.length_map]
  have hin : ∀ k ∈ leftM ks.length kinds, 0 ≤ k ∧ k < (ks.length : Int) := fun k hk => (leftM_mem.mp hk).1
  have hget : ∀ k : Int, 0 ≤ k → (hk : k.toNat < ks.length) → ks.getD k.toNat "" = ks[k.toNat] := fun k _ hk => by rw [List.getD_eq_getElem?_getD, List.getElem?_eq_getElem hk] <;> rfl
  refine ⟨?_, ?_, fun s hs => ?_, ?_, ?_, fun t ht => ?_, fun t ht => ?_, ?_⟩
  · rw [hlen]
    exact List.length_pos_iff.mpr hl
  · rw [hlen]
    have := asc_bound (m := ks.length) (lo := 0) (fun x hx => (hin x hx).2) (fun x hx => (hin x hx).1) hpw (by omega)
    have := h.k8
    omega
  · obtain ⟨k, hk, rfl⟩ := List.mem_map.mp hs
    have := hin k hk
    rw [hget k this.1 (by omega)]
    exact h.kn _ (List.getElem_mem _)
  · unfold wkNames
    rw [List.pairwise_map]
    refine hpw.imp_of_mem fun {a b} ha hb hab => ?_
    have := hin a ha
    have := hin b hb
    rw [hget a (by omega) (by omega), hget b (by omega) (by omega)]
    exact List.pairwise_iff_getElem.mp h.ka _ _ (by omega) (by omega) (by omega)
  · unfold wkTys
    rw [List.length_map]
    exact h.t12
  · obtain ⟨u, hu, rfl⟩ := List.mem_map.mp ht
    exact h.tn u hu
  · obtain ⟨u, hu, rfl⟩ := List.mem_map.mp ht
    have hmem : ∀ k ∈ u.2.filter (fun k => !decide (k ∈ kinds)), k ∈ leftM ks.length kinds := fun k hk => by
      obtain ⟨a, b⟩ := List.mem_filter.mp hk
      exact leftM_mem.mpr ⟨(h.tl u hu).1 k a, by simpa using b⟩
    refine ⟨fun x hx => ?_, ?_⟩
    · obtain ⟨k, hk, rfl⟩ := List.mem_map.mp hx
      have := List.idxOf_lt_length_iff.mpr (hmem k hk)
      rw [hlen]
      unfold nI
      omega
    · rw [List.pairwise_map]
      refine ((h.tl u hu).2.sublist List.filter_sublist).imp_of_mem fun {a b} ha hb hab => ?_
      have := idx_lt hpw (hmem a ha) (hmem b hb) hab
      unfold nI
      omega
  · unfold wkTys
    rw [List.map_map]
    exact h.ta
end NR
namespace NR
open PySem PySem.Spec PyProof.Rows L2
section
variable {X : Cx} {W : Wd} {e a b c elt tg iter : Expr} {es ifs : List Expr} {δ : Env} {pos : Pos} {st : Stmt} {rest body : List Stmt} {p q : Post} {P : S → Prop}
/-- number, (name, lot) -/
theorem wTg12 {k i j l : Nat} {x y z : Str} {d1 d2 d3 : D} {px py pz pt2 : Pos} {kk k2 : Nat} (o : Cok k X) (hi : X.N[i]? = some x := by rfl) (hj : X.N[j]? = some y := by rfl) (hl : X.N[l]? = some z := by rfl) (hx : Loc X.env.scope x := by first | exact Or.inl rfl | exact Or.inr rfl)
    (hf : X.fn x = true ∨ X.env.scope.names.lookup x = some .local := by first | exact .inl rfl | exact .inr rfl)
    (h1 : (assignEach [.Name x px, .Tuple [.Name y py, .Name z pz] k2 pt2] X.env).map (·.2) = assign (.Name x px) X.env :: (assignEach [.Tuple [.Name y py, .Name z pz] k2 pt2] X.env).map (·.2) := by rfl) (h2 : (assignEach [.Tuple [.Name y py, .Name z pz] k2 pt2] X.env).map (·.2) = assign (.Tuple [.Name y py, .Name z pz] k2 pt2) X.env :: (assignEach [] X.env).map (·.2) := by rfl)
    (hn : (assignEach [.Name x px, .Tuple [.Name y py, .Name z pz] k2 pt2] X.env).length = 2 := by rfl) (hst : (assignEach [.Name x px, .Tuple [.Name y py, .Name z pz] k2 pt2] X.env).findIdx? (·.1) = none := by rfl)
    (h3 : AG X (.Tuple [.Name y py, .Name z pz] k2 pt2) [j, l] (.tup [d2, d3]) (fun δ => (δ.set j (some (.d d2))).set l (some (.d d3)))) :
    AG X (.Tuple [.Name x px, .Tuple [.Name y py, .Name z pz] k2 pt2] kk pos) [i, j, l] (.tup [d1, .tup [d2, d3]]) (fun δ => ((δ.set i (some (.d d1))).set j (some (.d d2))).set l (some (.d d3))) :=
  ag_tup o.calm (ags_cons (ag_name o.nd hi hx hf) (ags_cons h3 ags_nil h2) h1) hn hst
/-- name = [.. for ..] where the name is the def's own -/
theorem wSetLc {k i : Nat} {x : Str} {pos' pos2 : Pos} {scope : Scope} {own : List (Str × Nat)} {s : S} (o : Cok k X) (h : LcJ X W elt tg iter ifs scope own δ (· = s)) (t : ASs X W rest (δ.set i (some s)) p) (hl : ∀ ds, s ≠ .l ds := by exact fun _ h => nomatch h) (hi : X.N[i]? = some x := by rfl) (hyl : X.env.scope.names.lookup x = some .local := by rfl)
    (hsw : swapsWith (.ListComp elt [⟨tg, iter, ifs, 0⟩] scope pos) (some (.Name x pos')) pos2.line X.env = pure true := by rfl) :
    ASs X W (.Assign [.Name x pos'] (.ListComp elt [⟨tg, iter, ifs, 0⟩] scope pos) pos2 :: rest) δ p :=
  ass_lcG o hi hyl hsw h (fun _ z => z ▸ hl) fun _ z => z ▸ t
theorem LcJ.aq {k : Nat} {scope : Scope} {own : List (Str × Nat)} {s t : S} (h : LcJ X W elt tg iter ifs scope own δ (· = s)) (o : Cok k X) (z : s = t) : AEq X W (.ListComp elt [⟨tg, iter, ifs, 0⟩] scope pos) δ t := z ▸ LcJ.ae h o
theorem wTupP {ds : List D} {pn : Pos} (hm : X.mg "tuple" = none) (ha : AE X W a δ (· = .own ds)) (hg : Gl X "tuple" := by rfl) (na : starEach [a] X.env = (false, eval a X.env) :: starEach [] X.env := by rfl) : AEq X W (.Call (.Name "tuple" pn) [a] [] pos) δ (.d (.tup ds)) := wTup hm ha (.inl rfl) hg na
end
theorem own_eq {ds es : List D} (h : ds = es) : S.own ds = .own es := h ▸ rfl
theorem tup_eq {ds es : List D} (h : ds = es) : S.d (.tup ds) = .d (.tup es) := h ▸ rfl
theorem takers_enc (ts : List Ty) (k : Int) : ((ts.zipIdx.filter fun p => decide (k ∈ p.1.2)).map fun p => D.int (p.2 : Int)) = (takersM ts k).map D.int := by
  unfold takersM nI
  rw [List.map_map] <;> rfl
theorem takersM_len (ts : List Ty) (k : Int) : (takersM ts k).length ≤ ts.length := by
  unfold takersM
  rw [List.length_map]
  exact Nat.le_trans (List.length_filter_le _ _) (by rw [List.length_zipIdx]; exact Nat.le_refl _)
section
variable {P : Program} {w : World} {K : PySem.W.Frag} {mg : Str → Option Value} {base : Heap} {W : Wd} {CT CF CC : Addr}
def tbD (CT : Addr) (i : TbX) : D := eTb CT i.1.1 i.1.2
theorem TbX.tb (i : TbX) : Tb i.1.1 i.1.2 := tb_iff.mp i.2
abbrev Ktakers (P : Program) (w : World) (K : PySem.W.Frag) (mg : Str → Option Value) (base : Heap) (W : Wd) (CT : Addr) := KnD P w K mg base W 1 "takers" ["table", "kind"] (fun i : TbX × Int => [tbD CT i.1, .int i.2]) (fun i => tupI (takersM i.1.1.2 i.2))
theorem sc_takers : FnScope ["table", "kind", "number", "name", "lot"] ["table", "kind"] (defScope (top 19)) := ⟨rfl, rfl, rfl, by decide +kernel, rfl, by decide +kernel, by decide +kernel⟩
theorem ok_takers (T : Tx mg) (Z : Cz K mg CT CF CC) (d : Df K mg "takers" (top 19) ["table", "kind"]) : Ktakers P w K mg base W CT := by
  refine kn_ok d sc_takers (fun _ => rfl) (fun _ => nomut) fun f cdv A outer s H E o i => ?_
  obtain ⟨tb, k⟩ := i
  have h12 := tb.tb.t12
  refine ass_one (wRet (wTupP T.tuple (LcJ.ae (wLc (xs := tb.1.2.zipIdx) (enc := fun p => .tup [.int (p.2 : Int), eTy p.1]) [("number", 2), ("name", 3), ("lot", 4)] (ix := [2, 3, 4]) (fun p => decide (k ∈ p.1.2)) (fun p => .int (p.2 : Int)) (fun p δ => ((δ.set 2 (some (.d (.int (p.2 : Int))))).set 3 (some (.d (.str p.1.1)))).set 4 (some (.d (tupI p.1.2)))) o (by rw [List.length_zipIdx]; omega)
    ((wEn T.enum (wFld (vv 0) Z.clT Z.tT) (.inl rfl)).eq (enD_map _ _)) (fun s H C cl fp x => wTg12 (o.blk ..) (h3 := wTg2 (o.blk ..))) (fun s H C cl fp x hx => ats_one (tInI (vv 1) (vv 4) .t)) (fun s H C cl fp x hx _ => vv 2)) o)) ?_)
  exact tup_eq (takers_enc _ _)

abbrev KallTakers (P : Program) (w : World) (K : PySem.W.Frag) (mg : Str → Option Value) (base : Heap) (W : Wd) (CT : Addr) := Kn P w K mg base W 2 "all_takers" ["table"] (fun i : TbX => [S.d (tbD CT i)]) (fun i s => s = .ft ((allT i.1.1.length i.1.2).map tupI))
theorem sc_all_takers : FnScope ["table", "kind"] ["table"] (defScope (top 20)) := ⟨rfl, rfl, rfl, by decide +kernel, rfl, by decide +kernel, by decide +kernel⟩
theorem ok_all_takers (T : Tx mg) (Z : Cz K mg CT CF CC) (d : Df K mg "all_takers" (top 20) ["table"]) (g1 : Ktakers P w K mg base W CT) : KallTakers P w K mg base W CT := by
  refine kn_ok d sc_all_takers (fun _ => rfl) (fun i s h => by simp at h; subst h; exact id) fun f cdv A outer s H E o i => ?_
  have h8 := i.tb.k8
  have hl : (i.1.1.map D.str).length = i.1.1.length := List.length_map ..
  refine ass_one (wRet (wTupF T.tuple (LcJ.ae (wLcA (xs := List.range i.1.1.length) (enc := fun n => .int (n : Int)) [("kind", 1)] (ix := [1]) (fun n => tupI (takersM i.1.2 (nI n))) (fun n δ => δ.set 1 (some (.d (.int (n : Int))))) o (by rw [List.length_range]; omega)
    ((wR1 T.range (wLen T.len (wFld (vv 0) Z.clT Z.tK) .t) (by omega) (by rw [hl])).toI) (fun s H C cl fp x => wName (o.blk ..)) (fun s H C cl fp x hx => wCallE g1 (o.blk ..) (aa2 (vv 0) (vv 1)) (i, nI x))) o) (.inl rfl)) ?_)
  show S.ft _ = S.ft _
  unfold allT
  rw [List.map_map] <;> rfl
abbrev KwithoutTypes (P : Program) (w : World) (K : PySem.W.Frag) (mg : Str → Option Value) (base : Heap) (W : Wd) (CT : Addr) := KnD P w K mg base W 8 "without_types" ["table", "types"] (fun i : TbX × LI => [tbD CT i.1, tupI i.2.1]) (fun i => eTb CT i.1.1.1 (wtM i.1.1.2 i.2.1))
theorem sc_without_types : FnScope ["table", "types", "number", "item"] ["table", "types"] (defScope (top 21)) := ⟨rfl, rfl, rfl, by decide +kernel, rfl, by decide +kernel, by decide +kernel⟩
theorem ok_without_types (T : Tx mg) (Z : Cz K mg CT CF CC) (d : Df K mg "without_types" (top 21) ["table", "types"]) (g1 : KTable P w K mg base W CT) : KwithoutTypes P w K mg base W CT := by
  refine kn_ok d sc_without_types (fun _ => rfl) (fun _ => nomut) fun f cdv A outer s H E o i => ?_
  obtain ⟨tb, lot⟩ := i
  have h12 := tb.tb.t12
  have ee : (tb.1.2.zipIdx.filter fun p => !decide (nI p.2 ∈ lot.1)).map (fun p => eTy p.1) = (wtM tb.1.2 lot.1).map eTy := by
    unfold wtM
    rw [List.map_map] <;> rfl
  refine ass_one (wRet (wMake g1 o (aa2 (wFld (vv 0) Z.clT Z.tK) ((wTupP T.tuple (LcJ.ae (wLc (xs := tb.1.2.zipIdx) (enc := fun p => .tup [.int (p.2 : Int), eTy p.1]) [("number", 2), ("item", 3)] (ix := [2, 3]) (fun p => !decide (nI p.2 ∈ lot.1)) (fun p => eTy p.1) (fun p δ => (δ.set 2 (some (.d (.int (p.2 : Int))))).set 3 (some (.d (eTy p.1)))) o (by rw [List.length_zipIdx]; omega)
    ((wEn T.enum (wFld (vv 0) Z.clT Z.tT) (.inl rfl)).eq (enD_map _ _)) (fun s H C cl fp x => wTg2 (o.blk ..)) (fun s H C cl fp x hx => ats_one (tNiI (vv 2) (vv 1) .t)) (fun s H C cl fp x hx _ => vv 3)) o)).to (tup_eq ee))) ⟨(tb.1.1, wtM tb.1.2 lot.1), tb_iff.mpr (wt_ok tb.tb lot.1)⟩) rfl)
theorem left_enc (n : Nat) (kinds : List Int) : ((List.range n).filter fun k => !decide (nI k ∈ kinds)).map (fun k : Nat => D.int (k : Int)) = (leftM n kinds).map D.int := by
  unfold leftM
  rw [List.map_map] <;> rfl
abbrev KwithoutKinds (P : Program) (w : World) (K : PySem.W.Frag) (mg : Str → Option Value) (base : Heap) (W : Wd) (CT : Addr) := KnD P w K mg base W 8 "without_kinds" ["table", "kinds"] (fun i : {x : TbX × LI // leftM x.1.1.1.length x.2.1 ≠ []} => [tbD CT i.1.1, tupI i.1.2.1]) (fun i => eTb CT (wkNames (leftM i.1.1.1.1.length i.1.2.1) i.1.1.1.1) (wkTys (leftM i.1.1.1.1.length i.1.2.1) i.1.2.1 i.1.1.1.2))
theorem sc_without_kinds : FnScope ["table", "kinds", "left", "types", "name", "lot", "kind"] ["table", "kinds"] (defScope (top 22)) := ⟨rfl, rfl, rfl, by decide +kernel, rfl, by decide +kernel, by decide +kernel⟩
theorem ok_without_kinds (T : Tx mg) (Z : Cz K mg CT CF CC) (d : Df K mg "without_kinds" (top 22) ["table", "kinds"]) (g1 : KTable P w K mg base W CT) : KwithoutKinds P w K mg base W CT := by
  refine kn_ok d sc_without_kinds (fun _ => rfl) (fun _ => nomut) fun f cdv A outer s H E o i => ?_
  obtain ⟨⟨tb, kinds⟩, hne⟩ := i
  have hne : leftM tb.1.1.length kinds.1 ≠ [] := hne
  have h12 := tb.tb.t12
  have h8 := tb.tb.k8
  have hl : (tb.1.1.map D.str).length = tb.1.1.length := List.length_map ..
  have hwk := wk_ok tb.tb hne
  refine wSet (i := 2) (s := .own ((leftM tb.1.1.length kinds.1).map D.int)) o (AEq.to (LcJ.ae (wLc (xs := List.range tb.1.1.length) (enc := fun n => .int (n : Int)) [("kind", 6)] (ix := [6]) (fun k => !decide (nI k ∈ kinds.1)) (fun k : Nat => .int (k : Int)) (fun n δ => δ.set 6 (some (.d (.int (n : Int))))) o (by rw [List.length_range]; omega)
    ((wR1 T.range (wLen T.len (wFld (vv 0) Z.clT Z.tK) .t) (by omega) (by rw [hl])).toI) (fun s H C cl fp x => wName (o.blk ..)) (fun s H C cl fp x hx => ats_one (tNiI (vv 6) (vv 1) .t)) (fun s H C cl fp x hx _ => vv 6)) o) (own_eq (left_enc _ _))) ?_
  refine ass_skip (ATq.to (at_eqEL o (vo 2) (ae_lst aa_nil (by decide)) (.inr rfl)) (by
    cases q : leftM tb.1.1.length kinds.1 with
    | nil => exact absurd q hne
    | cons => rfl)) ?_
  refine wSet (i := 3) (s := .own []) o (ae_lst aa_nil (by decide)) ?_
  refine ass_cons (fun δ' => ∃ a b, δ' = [some (.d (tbD CT tb)), some (.d (tupI kinds.1)), some (.own ((leftM tb.1.1.length kinds.1).map D.int)), some (.own ((wkTys (leftM tb.1.1.length kinds.1) kinds.1 tb.1.2).map eTy)), a, b, none])
    (as_for (I := fun i δ' => δ' = [some (.d (tbD CT tb)), some (.d (tupI kinds.1)), some (.own ((leftM tb.1.1.length kinds.1).map D.int)), some (.own ((wkTys (leftM tb.1.1.length kinds.1) kinds.1 (tb.1.2.take i)).map eTy)), none, none, none]) (ix := [4, 5]) (fun i δ => (δ.set 4 (some (.d (.str (tb.1.2.getD i ("", [])).1)))).set 5 (some (.d (tupI (tb.1.2.getD i ("", [])).2)))) o (fun _ => rfl) (ai_tup (wFld (vv 0) Z.clT Z.tT)).toS ⟨_, rfl, .refl _⟩ (fun i d hd => ?_) (fun i d δ' hd hI => ?_) (fun δ' h => ?_)) fun δ' z => ?_
  · have hi : i < tb.1.2.length := by
      have := (List.getElem?_eq_some_iff.mp hd).1
      rwa [List.length_map] at this
    rw [get_map (f := eTy) (d := ("", [])) hi] at hd
    cases hd
    exact wTg2 o
  · subst hI
    have hi : i < tb.1.2.length := by
      have := (List.getElem?_eq_some_iff.mp hd).1
      rwa [List.length_map] at this
    have hg : tb.1.2[i] = tb.1.2.getD i ("", []) := by rw [List.getD_eq_getElem?_getD, List.getElem?_eq_getElem hi] <;> rfl
    have ht := tb.tb.tl _ (List.getElem_mem hi)
    rw [hg] at ht
    have hlen : (tb.1.2.getD i ("", [])).2.length ≤ 8 := by
      have := asc_bound (m := tb.1.1.length) (lo := 0) (fun x hx => (ht.1 x hx).2) (fun x hx => (ht.1 x hx).1) ht.2 (by omega)
      omega
    refine ass_app (P := (· = .d (eTy ((tb.1.2.getD i ("", [])).1, ((tb.1.2.getD i ("", [])).2.filter fun k => !decide (k ∈ kinds.1)).map fun k => nI ((leftM tb.1.1.length kinds.1).idxOf k))))) (i := 3) rfl rfl (Or.inl rfl) (by decide) (by decide) ?_ ?_ (fun _ z => ⟨_, z⟩) rfl rfl rfl rfl rfl rfl fun d hd => ?_
    · unfold wkTys
      simp only [List.length_map, List.length_take]
      omega
    · refine AEq.to (ae_tup (ds := [.str (tb.1.2.getD i ("", [])).1, tupI _]) (aa2 (vv 4) (wTupP T.tuple (LcJ.aq (wLc (xs := (tb.1.2.getD i ("", [])).2) (enc := D.int) [("kind", 6)] (ix := [6]) (fun k => !decide (k ∈ kinds.1)) (fun k => .int (nI ((leftM tb.1.1.length kinds.1).idxOf k))) (fun n δ => δ.set 6 (some (.d (.int n)))) o (by omega)
        (ai_tup (vv 5)).toI (fun s H C cl fp x => wName (o.blk ..)) (fun s H C cl fp x hx => ats_one (tNiI (vv 6) (vv 1) .t)) (fun s H C cl fp x hx hk => ae_indexI (vo 2) (.inr rfl) (vv 6) ?_ rfl rfl rfl rfl rfl)) o (own_eq ?_)))) (by show 2 ≤ 100; decide)) rfl
      · exact leftM_mem.mpr ⟨ht.1 x hx, by simpa using hk⟩
      · rw [List.map_map] <;> rfl
    · cases hd
      refine ass_nil ⟨_, rfl, ?_⟩
      have e3 : (wkTys (leftM tb.1.1.length kinds.1) kinds.1 (tb.1.2.take (i + 1))).map eTy = (wkTys (leftM tb.1.1.length kinds.1) kinds.1 (tb.1.2.take i)).map eTy ++ [eTy ((tb.1.2.getD i ("", [])).1, ((tb.1.2.getD i ("", [])).2.filter fun k => !decide (k ∈ kinds.1)).map fun k => nI ((leftM tb.1.1.length kinds.1).idxOf k))] := by
        unfold wkTys
        rw [List.take_add_one, List.getElem?_eq_getElem hi, hg, List.map_append, List.map_append] <;> rfl
      rw [e3]
      exact .same (.same (.same (.same (.drop (.drop (.same .nil))))))
  · subst h
    rw [List.length_map, List.take_length]
    exact ⟨_, _, rfl⟩
  · obtain ⟨a, b, rfl⟩ := z
    refine ass_one (wRet (wMake g1 o (aa2 ((wTupP T.tuple (LcJ.ae (wLcA (xs := leftM tb.1.1.length kinds.1) (enc := D.int) [("kind", 6)] (ix := [6]) (fun k => .str (tb.1.1.getD k.toNat "")) (fun n δ => δ.set 6 (some (.d (.int n)))) o ?_
      (ai_list (vo 2) (.inr rfl)) (fun s H C cl fp x => wName (o.blk ..)) (fun s H C cl fp x hx => wIx x.toNat (wFld (vv 0) Z.clT Z.tK) (vv 6) .t ?_ ?_)) o)).to (tup_eq ?_)) (wTup T.tuple (vo 3) (.inr rfl))) ⟨(_, _), tb_iff.mpr hwk⟩) rfl)
    · unfold leftM
      rw [List.length_map]
      exact Nat.le_trans (List.length_filter_le _ _) (by rw [List.length_range]; omega)
    · have := (leftM_mem.mp hx).1
      exact get_map (by omega)
    · have := (leftM_mem.mp hx).1
      exact (Int.toNat_of_nonneg this.1).symm
    · exact (List.map_map (l := leftM tb.1.1.length kinds.1) (f := fun k : Int => tb.1.1.getD k.toNat "") (g := D.str)).symm
end
end NR
namespace NR
open PySem PySem.Spec PyProof.Rows L2
theorem zip_mem {α : Type} {xs : List α} {x : α × Nat} (h : x ∈ xs.zipIdx) : x.2 < xs.length ∧ xs[x.2]? = some x.1 := by
  have := List.mk_mem_zipIdx_iff_getElem?.mp (show (x.1, x.2) ∈ xs.zipIdx from h)
  exact ⟨(List.getElem?_eq_some_iff.mp this).1, this⟩
theorem ix_lt {α : Type} [DecidableEq α] {n : α} {xs : List α} (h : n ∈ xs) : xs.idxOf n < xs.length := List.idxOf_lt_length_iff.mpr h
theorem ix_get {α : Type} [DecidableEq α] {n : α} {xs : List α} (h : n ∈ xs) : xs[xs.idxOf n]? = some n := by
  rw [List.getElem?_eq_getElem (ix_lt h), List.getElem_idxOf]
theorem ix_first {α : Type} [DecidableEq α] {n : α} {xs : List α} : n ∉ xs.take (xs.idxOf n) := by
  intro h
  obtain ⟨i, hi, e⟩ := List.mem_iff_getElem.mp h
  rw [List.length_take] at hi
  rw [List.getElem_take] at e
  have hlt : i < xs.idxOf n := by omega
  have := List.not_of_lt_findIdx (p := fun x => x == n) (xs := xs) (i := i) hlt
  simp at this
  exact this e
theorem idxT_lt {n : List Int} {xs : List (List Int)} (h : n ∈ xs) : idxT n xs < xs.length := ix_lt h
theorem idxT_get {n : List Int} {xs : List (List Int)} (h : n ∈ xs) : xs[idxT n xs]? = some n := ix_get h
theorem idxT_first {n : List Int} {xs : List (List Int)} : n ∉ xs.take (idxT n xs) := ix_first
theorem firstsM_mem {lots : List (List Int)} {k : Int} : k ∈ firstsM lots ↔ ∃ i : Nat, k = nI i ∧ ∃ lot, lots[i]? = some lot ∧ lot ∉ lots.take i := by
  unfold firstsM
  simp only [List.mem_map, List.mem_filter, Bool.not_eq_true', decide_eq_false_iff_not]
  constructor
  · rintro ⟨p, ⟨h1, h2⟩, rfl⟩
    exact ⟨p.2, rfl, p.1, (zip_mem h1).2, h2⟩
  · rintro ⟨i, rfl, lot, h1, h2⟩
    exact ⟨(lot, i), ⟨List.mk_mem_zipIdx_iff_getElem?.mpr h1, h2⟩, rfl⟩
theorem idx_in_firsts {lot : List Int} {lots : List (List Int)} (h : lot ∈ lots) : nI (idxT lot lots) ∈ firstsM lots := firstsM_mem.mpr ⟨_, rfl, lot, idxT_get h, idxT_first⟩
theorem firstsM_len (lots : List (List Int)) : (firstsM lots).length ≤ lots.length := by
  unfold firstsM
  rw [List.length_map]
  exact Nat.le_trans (List.length_filter_le _ _) (by rw [List.length_zipIdx]; exact Nat.le_refl _)
theorem seq_take {pl : List Int} {k : Nat} : IsSeq (.d (.tup ((pl.map D.int).take k))) ((pl.take k).map D.int) := by
  rw [List.map_take]
  exact .t
theorem ist_take {lots : List (List Int)} {k : Nat} : IsT (.d (.tup ((lots.map tupI).take k))) ((lots.take k).map tupI) := by
  rw [List.map_take]
  exact .inl rfl
section
variable {X : Cx} {W : Wd} {e a b c elt tg iter : Expr} {es ifs : List Expr} {δ δ' : Env} {pos : Pos}
theorem wCallD {k j : Nat} {x : Str} {ps : List Str} {ι : Type} {args : ι → List D} {f : ι → D} {pn : Pos} {ss : List S} {d : D} (G : KnD X.prog X.w X.K X.mg X.base W k x ps args f) (o : Cok j X) (ha : AAq X W (e :: es) δ ss) (i : ι) (hd : f i = d) (hi : ss = (args i).map S.d := by rfl) (hk : k ≤ j := by decide) (hg : Gl X x := by rfl)
    (hdb : (x == ("__debug__" : Str)) = false := by decide) (he : starEach (e :: es) X.env = (false, eval e X.env) :: starEach es X.env := by rfl) (hp : (backTo pos (starEach es X.env)).any (·.1) = false := by rfl) : AEq X W (.Call (.Name x pn) (e :: es) [] pos) δ (.d d) := hd ▸ wCallE G o ha i hi hk hg hdb he hp
end
section
variable {P : Program} {w : World} {K : PySem.W.Frag} {mg : Str → Option Value} {base : Heap} {W : Wd} {CT CF CC : Addr}
abbrev LLX := {lots : List (List Int) // lots.length ≤ 1000}
abbrev KtwinPlaces (P : Program) (w : World) (K : PySem.W.Frag) (mg : Str → Option Value) (base : Heap) (W : Wd) := Kn P w K mg base W 1 "twin_places" ["lots"] (fun i : LLX => [S.ft (i.1.map tupI)]) (fun i s => s = .d (tupI (twinM i.1)))
theorem sc_twin_places : FnScope ["lots", "firsts", "at", "lot"] ["lots"] (defScope (top 23)) := ⟨rfl, rfl, rfl, by decide +kernel, rfl, by decide +kernel, by decide +kernel⟩
theorem ok_twin_places (T : Tx mg) (d : Df K mg "twin_places" (top 23) ["lots"]) : KtwinPlaces P w K mg base W := by
  refine kn_ok d sc_twin_places (fun _ => rfl) (fun i s h => by simp at h; subst h; exact id) fun f cdv A outer s H E o i => ?_
  obtain ⟨lots, hl⟩ := i
  have hll : (lots.map tupI).length = lots.length := List.length_map ..
  refine wSet (i := 1) (s := .own ((firstsM lots).map D.int)) o (LcJ.aq (wLc (xs := lots.zipIdx) (enc := fun p => .tup [.int (p.2 : Int), tupI p.1]) [("at", 2), ("lot", 3)] (ix := [2, 3]) (fun p => !decide (p.1 ∈ lots.take p.2)) (fun p => .int (p.2 : Int)) (fun p δ => (δ.set 2 (some (.d (.int (p.2 : Int))))).set 3 (some (.d (tupI p.1)))) o (by rw [List.length_zipIdx]; omega)
    ((wEn T.enum (vv 0) (.inr rfl)).eq (enD_map _ _)) (fun s H C cl fp x => wTg2 (o.blk ..)) (fun s H C cl fp x hx => ats_one (at_niTT (o.blk ..) (vv 3) (ae_slToF (vv 0) (.inr rfl) (vv 2) rfl (by rw [hll]; exact (zip_mem hx).1)) ist_take rfl)) (fun s H C cl fp x hx _ => vv 2)) o (own_eq ?_)) ?_
  · unfold firstsM
    rw [List.map_map] <;> rfl
  refine ass_one (wRet (wTupP T.tuple (LcJ.aq (wLcA (xs := lots) (enc := tupI) [("lot", 3)] (ix := [3]) (fun lot => .int (nI ((firstsM lots).idxOf (nI (idxT lot lots))))) (fun lot δ => δ.set 3 (some (.d (tupI lot)))) o (by omega) (ai_isT (vv 0) (.inr rfl)).toI (fun s H C cl fp x => wName (o.blk ..))
    (fun s H C cl fp x hx => ae_indexI (vo 1) (.inr rfl) (ae_indexT (o.blk ..) (vv 0) (vv 3) hx rfl rfl rfl rfl rfl) (idx_in_firsts hx) rfl rfl rfl rfl rfl)) o (own_eq ?_))) rfl)
  unfold twinM
  rw [List.map_map] <;> rfl
def jkM (n : Nat) (ts : List Ty) : List Int := twinM (allT n ts)
def jtM (ts : List Ty) : List Int := twinM (ts.map (·.2))
theorem others_zero {pl : List Int} : (0 : Int) ∉ othersM pl := by
  unfold othersM nI
  simp only [List.mem_map, List.mem_filter, List.mem_range, decide_eq_true_eq, not_exists, not_and]
  rintro k ⟨h1, h2⟩ e
  have : k = 0 := by omega
  subst this
  simp at h2
theorem othersM_len (pl : List Int) : (othersM pl).length ≤ pl.length := by
  unfold othersM
  rw [List.length_map]
  exact Nat.le_trans (List.length_filter_le _ _) (by rw [List.length_range]; exact Nat.le_refl _)
theorem left_ne {n : Nat} (h : 1 ≤ n) (pl : List Int) : leftM n (othersM pl) ≠ [] := fun z => by
  have : (0 : Int) ∈ leftM n (othersM pl) := leftM_mem.mpr ⟨⟨by omega, by omega⟩, others_zero⟩
  rw [z] at this
  cases this
abbrev KjoinedKinds (P : Program) (w : World) (K : PySem.W.Frag) (mg : Str → Option Value) (base : Heap) (W : Wd) (CT : Addr) := KnD P w K mg base W 9 "joined_kinds" ["table"] (fun i : TbX => [tbD CT i]) (fun i => .tup [eTb CT (wkNames (leftM i.1.1.length (othersM (jkM i.1.1.length i.1.2))) i.1.1) (wkTys (leftM i.1.1.length (othersM (jkM i.1.1.length i.1.2))) (othersM (jkM i.1.1.length i.1.2)) i.1.2), tupI (jkM i.1.1.length i.1.2)])
theorem others_enc (pl : List Int) : ((List.range pl.length).filter fun k => decide (pl.getD k 0 ∈ pl.take k)).map (fun k : Nat => D.int (k : Int)) = (othersM pl).map D.int := by
  unfold othersM
  rw [List.map_map] <;> rfl
theorem sc_joined_kinds : FnScope ["table", "places", "others", "kind"] ["table"] (defScope (top 24)) := ⟨rfl, rfl, rfl, by decide +kernel, rfl, by decide +kernel, by decide +kernel⟩
theorem allT_len (n : Nat) (ts : List Ty) : (allT n ts).length = n := by
  unfold allT
  rw [List.length_map, List.length_range]
theorem twinM_len (lots : List (List Int)) : (twinM lots).length = lots.length := by
  unfold twinM
  rw [List.length_map]
theorem ok_joined_kinds (T : Tx mg) (Z : Cz K mg CT CF CC) (d : Df K mg "joined_kinds" (top 24) ["table"]) (g1 : KallTakers P w K mg base W CT) (g2 : KtwinPlaces P w K mg base W) (g3 : KwithoutKinds P w K mg base W CT) : KjoinedKinds P w K mg base W CT := by
  refine kn_ok d sc_joined_kinds (fun _ => rfl) (fun _ => nomut) fun f cdv A outer s H E o i => ?_
  have h8 := i.tb.k8
  have h1 := i.tb.k1
  have hjl : (jkM i.1.1.length i.1.2).length = i.1.1.length := by
    unfold jkM
    rw [twinM_len, allT_len]
  refine wSet (i := 1) o (wCallE g2 o (aa1 (wCallE g1 o (aa1 (vv 0)) i)) ⟨allT i.1.1.length i.1.2, by rw [allT_len]; omega⟩) ?_
  refine wSet (i := 2) (s := .d (tupI (othersM (jkM i.1.1.length i.1.2)))) o (wTupP T.tuple (LcJ.aq (wLc (xs := List.range (jkM i.1.1.length i.1.2).length) (enc := fun n => .int (n : Int)) [("kind", 3)] (ix := [3]) (fun k => decide ((jkM i.1.1.length i.1.2).getD k 0 ∈ (jkM i.1.1.length i.1.2).take k)) (fun k : Nat => .int (k : Int)) (fun n δ => δ.set 3 (some (.d (.int (n : Int))))) o (by rw [List.length_range, hjl]; omega)
    ((wR1 (n := (jkM i.1.1.length i.1.2).length) T.range (wLen T.len (vv 1) .t) (by rw [hjl]; omega) (by rw [List.length_map] <;> rfl)).toI) (fun s H C cl fp x => wName (o.blk ..)) (fun s H C cl fp x hx => ats_one (tInI (wIx x (vv 1) (vv 3) .t (get_map (List.mem_range.mp hx))) (ae_slTo (vv 1) (vv 3) rfl) seq_take)) (fun s H C cl fp x hx _ => vv 3)) o (own_eq (others_enc _)))) ?_
  exact ass_one (wRet (ae_tup (ds := [_, _]) (aa2 (wCallD g3 o (aa2 (vv 0) (vv 2)) ⟨(i, ⟨othersM (jkM i.1.1.length i.1.2), by have := othersM_len (jkM i.1.1.length i.1.2); omega⟩), left_ne h1 _⟩ rfl) (vv 1)) (by show 2 ≤ 100; decide)) rfl)
abbrev KjoinedTypes (P : Program) (w : World) (K : PySem.W.Frag) (mg : Str → Option Value) (base : Heap) (W : Wd) (CT : Addr) := KnD P w K mg base W 9 "joined_types" ["table"] (fun i : TbX => [tbD CT i]) (fun i => .tup [eTb CT i.1.1 (wtM i.1.2 (othersM (jtM i.1.2))), tupI (jtM i.1.2)])
theorem sc_joined_types : FnScope ["table", "places", "others", "name", "lot", "number"] ["table"] (defScope (top 25)) := ⟨rfl, rfl, rfl, by decide +kernel, rfl, by decide +kernel, by decide +kernel⟩
theorem ok_joined_types (T : Tx mg) (Z : Cz K mg CT CF CC) (d : Df K mg "joined_types" (top 25) ["table"]) (g2 : KtwinPlaces P w K mg base W) (g3 : KwithoutTypes P w K mg base W CT) : KjoinedTypes P w K mg base W CT := by
  refine kn_ok d sc_joined_types (fun _ => rfl) (fun _ => nomut) fun f cdv A outer s H E o i => ?_
  have h12 := i.tb.t12
  have hjl : (jtM i.1.2).length = i.1.2.length := by
    unfold jtM
    rw [twinM_len, List.length_map]
  refine wSet (i := 1) o (wCallE g2 o (aa1 (wTupF T.tuple (LcJ.aq (wLcA (xs := i.1.2) (enc := eTy) [("name", 3), ("lot", 4)] (ix := [3, 4]) (fun t => tupI t.2) (fun t δ => (δ.set 3 (some (.d (.str t.1)))).set 4 (some (.d (tupI t.2)))) o (by omega) (ai_tup (wFld (vv 0) Z.clT Z.tT)).toI (fun s H C cl fp x => wTg2 (o.blk ..)) (fun s H C cl fp x hx => vv 4)) o (own_eq (es := (i.1.2.map (·.2)).map tupI) (by rw [List.map_map] <;> rfl))) (.inl rfl))) ⟨i.1.2.map (·.2), by rw [List.length_map]; omega⟩) ?_
  refine wSet (i := 2) (s := .d (tupI (othersM (jtM i.1.2)))) o (wTupP T.tuple (LcJ.aq (wLc (xs := List.range (jtM i.1.2).length) (enc := fun n => .int (n : Int)) [("number", 5)] (ix := [5]) (fun k => decide ((jtM i.1.2).getD k 0 ∈ (jtM i.1.2).take k)) (fun k : Nat => .int (k : Int)) (fun n δ => δ.set 5 (some (.d (.int (n : Int))))) o (by rw [List.length_range, hjl]; omega)
    ((wR1 (n := (jtM i.1.2).length) T.range (wLen T.len (vv 1) .t) (by rw [hjl]; omega) (by rw [List.length_map] <;> rfl)).toI) (fun s H C cl fp x => wName (o.blk ..)) (fun s H C cl fp x hx => ats_one (tInI (wIx x (vv 1) (vv 5) .t (get_map (List.mem_range.mp hx))) (ae_slTo (vv 1) (vv 5) rfl) seq_take)) (fun s H C cl fp x hx _ => vv 5)) o (own_eq (others_enc _)))) ?_
  exact ass_one (wRet (ae_tup (ds := [_, _]) (aa2 (wCallD g3 o (aa2 (vv 0) (vv 2)) (i, ⟨othersM (jtM i.1.2), by have := othersM_len (jtM i.1.2); omega⟩) rfl) (vv 1)) (by show 2 ≤ 100; decide)) rfl)
end
end NR
namespace NR
open PySem PySem.Spec PyProof.Rows L2
theorem LcJ.eqv {X : Cx} {W : Wd} {elt tg iter : Expr} {ifs : List Expr} {δ : Env} {scope : Scope} {own : List (Str × Nat)} {s t : S} (h : LcJ X W elt tg iter ifs scope own δ (· = s)) (z : s = t) : LcJ X W elt tg iter ifs scope own δ (· = t) := z ▸ h
structure Fo where
  places : List (List Int)
  above : List Int
  homes : List Int
def eLL (ls : List (List Int)) : D := .tup (ls.map tupI)
def eFo (CF : Addr) (f : Fo) : D := .ins CF ["places", "above", "homes"] [eLL f.places, tupI f.above, tupI f.homes]
theorem pl_LL (ls : List (List Int)) : plD (eLL ls) = true := by
  unfold eLL
  rw [plD]
  exact plDs_map fun x => pl_tupI x
def firstKs (lots : List (List Int)) : List Int := (lots.zipIdx.filter fun p => !p.1.isEmpty && !decide (p.1 ∈ lots.take p.2)).map fun p => nI p.2
def sameKs (lots : List (List Int)) (k : Int) : List Int := (lots.zipIdx.filter fun q => decide (q.1 = lots.getD k.toNat [])).map fun q => nI q.2
def placesM (lots : List (List Int)) : List (List Int) := (firstKs lots).map (sameKs lots)
def isPath (above : List Int) : Int → List Int → Prop
  | p, [] => p = -1
  | p, q :: r => p = q ∧ 0 ≤ q ∧ q.toNat < above.length ∧ isPath above (above.getD q.toNat 0) r
def upM (pls : List (List Int)) (path : List Int) : List Int := path.flatMap fun p => pls.getD p.toNat []
section
variable {P : Program} {w : World} {K : PySem.W.Frag} {mg : Str → Option Value} {base : Heap} {W : Wd} {CT CF CC : Addr}
abbrev KForest (P : Program) (w : World) (K : PySem.W.Frag) (mg : Str → Option Value) (base : Heap) (W : Wd) (CF : Addr) := KnC P w K mg base W 1 "Forest" CF ["self", "places", "above", "homes"] ["places", "above", "homes"] (fun i : Fo => [eLL i.places, tupI i.above, tupI i.homes])
theorem sc_forest : FnScope ["self", "places", "above", "homes"] ["self", "places", "above", "homes"] (defScope (inClass (top 27) 0)) := ⟨rfl, rfl, rfl, by decide +kernel, rfl, by decide +kernel, by decide +kernel⟩
theorem ok_forest (Z : Cz K mg CT CF CC) (d : DfC K mg "Forest" (inClass (top 27) 0) CF ["self", "places", "above", "homes"]) : KForest P w K mg base W CF := by
  obtain ⟨f, fd, M, F, m, b⟩ := d
  refine ⟨f, fd, M, init_ok F sc_forest (fun _ => rfl) (by decide) (fun i => by simp [plDs, pl_LL, pl_tupI]) fun cdv A outer s H E o i x dx H0 h0 hbd => ?_, m, b⟩
  refine pre_end (sl := _) h0 hbd rfl (fun p hp => ?_) ?_
  · rcases List.mem_cons.mp hp with rfl | hp
    · exact ⟨pl_LL _, rfl⟩
    · rcases List.mem_cons.mp hp with rfl | hp
      · exact ⟨pl_tupI _, rfl⟩
      · rcases List.mem_cons.mp hp with rfl | hp
        · exact ⟨pl_tupI _, rfl⟩
        · cases hp
  · exact st_store (i := 1) Z.clF Z.fP rfl rfl (by simp) (by decide) (by decide) hbd h0 (st_store (i := 2) Z.clF Z.fA rfl rfl (by simp) (by decide) (by decide) hbd h0 (st_last (i := 3) Z.clF Z.fH rfl rfl (by simp) (by decide) (by decide) hbd h0 rfl rfl))
abbrev KCrossing (P : Program) (w : World) (K : PySem.W.Frag) (mg : Str → Option Value) (base : Heap) (W : Wd) (CC : Addr) := KnC P w K mg base W 1 "Crossing" CC ["self", "kinds", "types"] ["kinds", "types"] (fun i : List Int × List Int => [tupI i.1, tupI i.2])
theorem sc_crossing : FnScope ["self", "kinds", "types"] ["self", "kinds", "types"] (defScope (inClass (top 32) 0)) := ⟨rfl, rfl, rfl, by decide +kernel, rfl, by decide +kernel, by decide +kernel⟩
theorem ok_crossing (Z : Cz K mg CT CF CC) (d : DfC K mg "Crossing" (inClass (top 32) 0) CC ["self", "kinds", "types"]) : KCrossing P w K mg base W CC := by
  obtain ⟨f, fd, M, F, m, b⟩ := d
  refine ⟨f, fd, M, init_ok F sc_crossing (fun _ => rfl) (by decide) (fun i => by simp [plDs, pl_tupI]) fun cdv A outer s H E o i x dx H0 h0 hbd => ?_, m, b⟩
  refine pre_end (sl := _) h0 hbd rfl (fun p hp => ?_) ?_
  · rcases List.mem_cons.mp hp with rfl | hp
    · exact ⟨pl_tupI _, rfl⟩
    · rcases List.mem_cons.mp hp with rfl | hp
      · exact ⟨pl_tupI _, rfl⟩
      · cases hp
  · exact st_store (i := 1) Z.clC Z.cK rfl rfl (by simp) (by decide) (by decide) hbd h0 (st_last (i := 2) Z.clC Z.cT rfl rfl (by simp) (by decide) (by decide) hbd h0 rfl rfl)
abbrev KplacesOf (P : Program) (w : World) (K : PySem.W.Frag) (mg : Str → Option Value) (base : Heap) (W : Wd) (CT : Addr) := KnD P w K mg base W 3 "places_of" ["table"] (fun i : TbX => [tbD CT i]) (fun i => eLL (placesM (allT i.1.1.length i.1.2)))
theorem sc_places_of : FnScope ["table", "lots", "firsts", "kind", "lot", "first"] ["table"] (defScope (top 28)) := ⟨rfl, rfl, rfl, by decide +kernel, rfl, by decide +kernel, by decide +kernel⟩
theorem firstKs_mem {lots : List (List Int)} {k : Int} : k ∈ firstKs lots ↔ ∃ i : Nat, k = nI i ∧ ∃ lot, lots[i]? = some lot ∧ lot ≠ [] ∧ lot ∉ lots.take i := by
  unfold firstKs
  simp only [List.mem_map, List.mem_filter, Bool.and_eq_true, Bool.not_eq_true', decide_eq_false_iff_not, List.isEmpty_eq_false_iff]
  constructor
  · rintro ⟨p, ⟨h1, h2⟩, rfl⟩
    exact ⟨p.2, rfl, p.1, (zip_mem h1).2, h2⟩
  · rintro ⟨i, rfl, lot, h1, h2⟩
    exact ⟨(lot, i), ⟨List.mk_mem_zipIdx_iff_getElem?.mpr h1, h2⟩, rfl⟩
theorem firstKs_len (lots : List (List Int)) : (firstKs lots).length ≤ lots.length := by
  unfold firstKs
  rw [List.length_map]
  exact Nat.le_trans (List.length_filter_le _ _) (by rw [List.length_zipIdx]; exact Nat.le_refl _)
theorem ok_places_of (T : Tx mg) (Z : Cz K mg CT CF CC) (d : Df K mg "places_of" (top 28) ["table"]) (g1 : KallTakers P w K mg base W CT) : KplacesOf P w K mg base W CT := by
  refine kn_ok d sc_places_of (fun _ => rfl) (fun _ => nomut) fun f cdv A outer s H E o i => ?_
  have h8 := i.tb.k8
  have hal := allT_len i.1.1.length i.1.2
  refine wSet (i := 1) o (wCallE g1 o (aa1 (vv 0)) i) ?_
  show ASs _ W _ [some (.d (tbD CT i)), some (.ft ((allT i.1.1.length i.1.2).map tupI)), none, none, none, none] _
  generalize hL : allT i.1.1.length i.1.2 = lots at hal
  have hll : (lots.map tupI).length = lots.length := List.length_map ..
  refine wSetLc (i := 2) (s := .own ((firstKs lots).map D.int)) o (LcJ.eqv (wLc (xs := lots.zipIdx) (enc := fun p => .tup [.int (p.2 : Int), tupI p.1]) [("kind", 3), ("lot", 4)] (ix := [3, 4]) (fun p => !p.1.isEmpty && !decide (p.1 ∈ lots.take p.2)) (fun p => .int (p.2 : Int)) (fun p δ => (δ.set 3 (some (.d (.int (p.2 : Int))))).set 4 (some (.d (tupI p.1)))) o (by rw [List.length_zipIdx]; omega)
      ((wEn T.enum (vv 1) (.inr rfl)).eq (enD_map _ _)) (fun s H C cl fp x => wTg2 (o.blk ..)) (fun s H C cl fp x hx => ats_one (AT.weak (aw_and (at_neET (o.blk ..) (vv 4) (ae_tup (ds := []) aa_nil (by decide))) fun _ => aw_and1 (at_niTT (o.blk ..) (vv 4) (ae_slToF (vv 1) (.inr rfl) (vv 3) rfl (by rw [hll]; exact (zip_mem hx).1)) ist_take rfl)).pt (fun s z => by rw [z, List.isEmpty_map]))) (fun s H C cl fp x hx _ => vv 3)) (own_eq ?_)) ?_
  · unfold firstKs
    rw [List.map_map] <;> rfl
  refine ass_one (wRet (wTupP T.tuple (LcJ.aq (wLcA (xs := firstKs lots) (enc := D.int) [("first", 5)] (ix := [5]) (fun k => tupI (sameKs lots k)) (fun n δ => δ.set 5 (some (.d (.int n)))) o (by have := firstKs_len lots; omega) (ai_list (vo 2) (.inr rfl)) (fun s H C cl fp x => wName (o.blk ..)) (fun s H C cl fp k hk => ?_)) o (own_eq (es := (placesM lots).map tupI) ?_))) ?_)
  · obtain ⟨n, rfl, lot, h1, h2⟩ := firstKs_mem.mp hk
    have hn : n < lots.length := (List.getElem?_eq_some_iff.mp h1).1
    refine wTupP T.tuple (LcJ.aq (wLc (xs := lots.zipIdx) (enc := fun p => .tup [.int (p.2 : Int), tupI p.1]) [("kind", 3), ("lot", 4)] (ix := [3, 4]) (fun p => decide (p.1 = lots.getD n [])) (fun p => .int (p.2 : Int)) (fun p δ => (δ.set 3 (some (.d (.int (p.2 : Int))))).set 4 (some (.d (tupI p.1)))) (o.blk ..) (by rw [List.length_zipIdx]; omega)
      ((wEn T.enum (vv 1) (.inr rfl)).eq (enD_map _ _)) (fun s H C cl fp x => wTg2 ((o.blk ..).blk ..)) (fun s H C cl fp x hx => ats_one (at_eqTI ((o.blk ..).blk ..) (vv 4) (ae_ixF (vv 1) (vv 5) (.inr rfl) (get_map (f := tupI) (d := []) hn)))) (fun s H C cl fp x hx _ => vv 3)) (o.blk ..) (own_eq ?_))
    unfold sameKs
    rw [List.map_map] <;> rfl
  · unfold placesM
    rw [List.map_map] <;> rfl
  · show S.d (.tup ((placesM lots).map tupI)) = _
    rw [← hL] <;> rfl
abbrev KwayUp (P : Program) (w : World) (K : PySem.W.Frag) (mg : Str → Option Value) (base : Heap) (W : Wd) (CF : Addr) := KnD P w K mg base W 1 "way_up" ["forest", "place"] (fun i : {x : Fo × Int × List Int // isPath x.1.above x.2.1 x.2.2 ∧ x.2.2.length ≤ 1000} => [eFo CF i.1.1, .int i.1.2.1]) (fun i => tupI i.1.2.2)
theorem sc_way_up : FnScope ["forest", "place", "found"] ["forest", "place"] (defScope (top 29)) := ⟨rfl, rfl, rfl, by decide +kernel, rfl, by decide +kernel, by decide +kernel⟩
theorem path_some {above : List Int} {p : Int} {q : Int} {r : List Int} (h : isPath above p (q :: r)) : p = q ∧ 0 ≤ q ∧ q.toNat < above.length ∧ isPath above (above.getD q.toNat 0) r := h
theorem ok_way_up (T : Tx mg) (Z : Cz K mg CT CF CC) (d : Df K mg "way_up" (top 29) ["forest", "place"]) : KwayUp P w K mg base W CF := by
  refine kn_ok d sc_way_up (fun _ => rfl) (fun _ => nomut) fun f cdv A outer s H E o i => ?_
  obtain ⟨⟨fo, p0, path⟩, hp, hlen⟩ := i
  have hp : isPath fo.above p0 path := hp
  have hlen : path.length ≤ 1000 := hlen
  refine wSet (i := 2) (s := .own []) o (ae_lst aa_nil (by decide)) ?_
  refine ass_cons (fun δ' => ∃ p, δ' = [some (.d (eFo CF fo)), some (.d (.int p)), some (.own (path.map D.int))])
    (as_while (fun m δ' => ∃ p done rest, path = done ++ rest ∧ m = rest.length ∧ isPath fo.above p rest ∧ δ' = [some (.d (eFo CF fo)), some (.d (.int p)), some (.own (done.map D.int))]) (fun m _ => decide (m ≠ 0)) o ⟨_, p0, [], path, rfl, rfl, hp, rfl⟩ (fun m δ' h => ?_) (fun m δ' h ht => ?_) (fun m δ' h ht => ?_)) fun δ' h => ?_
  · obtain ⟨p, done, rest, e1, rfl, h1, rfl⟩ := h
    refine ATq.to (at_neI (vv 1) (ae_neg ae_int)) ?_
    cases rest with
    | nil =>
      have : p = -1 := h1
      subst this
      rfl
    | cons q r =>
      obtain ⟨rfl, h2, _⟩ := path_some h1
      have : ¬ p = -(1 : Int) := by omega
      rw [decide_eq_false this] <;> rfl
  · obtain ⟨p, done, rest, e1, rfl, h1, rfl⟩ := h
    cases rest with
    | nil => simp at ht
    | cons q r =>
      obtain ⟨rfl, h2, h3, h4⟩ := path_some h1
      refine ass_app (P := (· = .d (.int p))) (i := 2) rfl rfl (Or.inl rfl) (by decide) (by decide) ?_ (vv 1) (fun _ z => ⟨_, z⟩) rfl rfl rfl rfl rfl rfl fun d hd => ?_
      · rw [List.length_map]
        have := congrArg List.length e1
        rw [List.length_append] at this
        omega
      · cases hd
        refine wSet (i := 1) o (wIx p.toNat (wFld (vv 0) Z.clF Z.fA) (vv 1) .t (get_map (d := 0) h3) (Int.toNat_of_nonneg h2).symm) (ass_nil ⟨_, ⟨r.length, by simp, fo.above.getD p.toNat 0, done ++ [p], r, by rw [e1, List.append_assoc] <;> rfl, rfl, h4, rfl⟩, ?_⟩)
        rw [List.map_append]
        exact .refl _
  · obtain ⟨p, done, rest, e1, rfl, h1, rfl⟩ := h
    have : rest = [] := by
      have := of_decide_eq_false ht
      cases rest with
      | nil => rfl
      | cons => simp at this
    subst this
    rw [List.append_nil] at e1
    subst e1
    exact ⟨_, rfl⟩
  · obtain ⟨p, rfl⟩ := h
    exact ass_one (wRet (wTup T.tuple (vo 2) (.inr rfl)) rfl)
abbrev KupwardKinds (P : Program) (w : World) (K : PySem.W.Frag) (mg : Str → Option Value) (base : Heap) (W : Wd) (CF : Addr) := KnD P w K mg base W 2 "upward_kinds" ["forest", "request"] (fun i : {x : Fo × Nat × List Int // x.2.1 < x.1.homes.length ∧ isPath x.1.above (x.1.homes.getD x.2.1 0) x.2.2 ∧ (∀ q ∈ x.2.2, 0 ≤ q ∧ q.toNat < x.1.places.length) ∧ x.2.2.length ≤ 1000 ∧ (upM x.1.places x.2.2).length ≤ 1000} => [eFo CF i.1.1, .int (i.1.2.1 : Int)]) (fun i => tupI (upM i.1.1.places i.1.2.2))
theorem sc_upward_kinds : FnScope ["forest", "request", "place", "kind"] ["forest", "request"] (defScope (top 30)) := ⟨rfl, rfl, rfl, by decide +kernel, rfl, by decide +kernel, by decide +kernel⟩
theorem ok_upward_kinds (T : Tx mg) (Z : Cz K mg CT CF CC) (d : Df K mg "upward_kinds" (top 30) ["forest", "request"]) (g1 : KwayUp P w K mg base W CF) : KupwardKinds P w K mg base W CF := by
  refine kn_ok d sc_upward_kinds (fun _ => rfl) (fun _ => nomut) fun f cdv A outer s H E o i => ?_
  obtain ⟨⟨fo, r, path⟩, h1, h2, h3, h4, h5⟩ := i
  have h1 : r < fo.homes.length := h1
  have h2 : isPath fo.above (fo.homes.getD r 0) path := h2
  have h3 : ∀ q ∈ path, 0 ≤ q ∧ q.toNat < fo.places.length := h3
  have h4 : path.length ≤ 1000 := h4
  have h5 : (upM fo.places path).length ≤ 1000 := h5
  refine ass_one (wRet (wTupP T.tuple (AEq.to (ae_lc2 (xs := path) (enc := D.int) (fun p => fo.places.getD p.toNat []) (encb := D.int) (own := [("place", 2), ("kind", 3)]) (ix := [2]) (jx := [3]) (vs1 := [3]) (fun _ _ => true) (fun _ k => .int k) (fun p δ => δ.set 2 (some (.d (.int p)))) (fun k δ => δ.set 3 (some (.d (.int k)))) o (blkOk_by (by kernel_rfl)) (by decide) (by decide) (by decide) (Nat.le_trans h5 (by decide)) (fun _ => rfl) (fun _ _ => rfl)
    (AI0.toI (ai_tup (wCallD g1 o (aa2 (vv 0) (wIx r (wFld (vv 0) Z.clF Z.fH) (vv 1) .t (get_map (d := 0) h1))) ⟨(fo, fo.homes.getD r 0, path), h2, h4⟩ rfl))) (fun s H C cl fp x => wName (o.blk ..)) (fun s H C cl fp x hx => ai_tup (wIx x.toNat (wFld (vv 0) Z.clF Z.fP) (vv 2) .t (get_map (f := tupI) (d := []) (h3 x hx).2) (Int.toNat_of_nonneg (h3 x hx).1).symm)) (fun s H C cl fp x => wName (o.blk ..)) (fun s H C cl fp x y _ _ => ats_nil) (fun s H C cl fp x y _ _ _ => vv 3)) (own_eq ?_))) rfl)
  show path.flatMap (fun x => ((fo.places.getD x.toNat []).filter fun _ => true).map D.int) = (path.flatMap fun p => fo.places.getD p.toNat []).map D.int
  rw [List.map_flatMap]
  congr 1
  funext x
  rw [List.filter_eq_self.mpr fun _ _ => rfl]
end
end NR
namespace NR
open PySem PySem.Spec PyProof.Rows L2
section
variable {X : Cx} {W : Wd} {e a b c elt tg iter : Expr} {es ifs : List Expr} {δ : Env} {pos : Pos} {st : Stmt} {rest body : List Stmt} {p q : Post} {P P1 P2 : S → Prop}
/-- a, b = x, y: both may be things of one's own -/
theorem ass_parM {k i j : Nat} {x y : Str} {px py pt : Pos} {kt k2 : Nat} {pt2 : Pos} (o : Cok k X) (h1 : AE X W a δ P1) (h2 : AE X W b δ P2) (hl1 : ∀ s, P1 s → ∀ ds, s ≠ .l ds) (hl2 : ∀ s, P2 s → ∀ ds, s ≠ .l ds)
    (t : ∀ s u, P1 s → P2 u → ASs X W rest ((δ.set i (some s)).set j (some u)) p) (hi : X.N[i]? = some x := by rfl) (hj : X.N[j]? = some y := by rfl) (hij : i ≠ j := by decide)
    (hx : X.env.scope.names.lookup x = some .local := by rfl) (hy : X.env.scope.names.lookup y = some .local := by rfl)
    (hw : swappedStores [.Tuple [.Name x px, .Name y py] kt pt] (.Tuple [a, b] k2 pt2) X.env = pure (some [x, y]) := by kernel_rfl)
    (hs : swapsWithSole [.Tuple [.Name x px, .Name y py] kt pt] (.Tuple [a, b] k2 pt2) pos.line X.env = pure false := by rfl)
    (he : starEach [a, b] X.env = (false, eval a X.env) :: starEach [b] X.env := by rfl) (he2 : starEach [b] X.env = (false, eval b X.env) :: starEach [] X.env := by rfl) :
    ASs X W (.Assign [.Tuple [.Name x px, .Name y py] kt pt] (.Tuple [a, b] k2 pt2) pos :: rest) δ p := by
  refine ass_cons (fun δ' => ∃ s u, P1 s ∧ P2 u ∧ δ' = (δ.set i (some s)).set j (some u)) (ps_weak (ps_par o.calm o.nd hi hj hij hx hy (pa_cons h1 (pa_cons h2 pa_nil he2) he) hw hs) fun D σ H ⟨B, q1, q2⟩ => ⟨q1.sr, fun s v H1 f r z => ⟨(q1.fr f).sr, fun u w H2 f2 r2 z2 => ?_⟩⟩) fun δ' ⟨s, u, z1, z2, e⟩ => e ▸ t s u z1 z2
  have s1 := q1.setR (i := i) f r (hl1 s z)
  have s2 := s1.setR (i := j) f2 r2 (hl2 u z2)
  exact ⟨v, w, rfl, q2.nx B _ _ H2 (.refl B) ((f.trans f2).ext q1.j) ⟨s, u, z, z2, rfl⟩ s2⟩
theorem wPar {k i j : Nat} {x y : Str} {px py pt : Pos} {kt k2 : Nat} {pt2 : Pos} {s u : S} (o : Cok k X) (h1 : AEq X W a δ s) (h2 : AEq X W b δ u) (t : ASs X W rest ((δ.set i (some s)).set j (some u)) p) (hl1 : ∀ ds, s ≠ .l ds := by exact fun _ h => nomatch h) (hl2 : ∀ ds, u ≠ .l ds := by exact fun _ h => nomatch h)
    (hi : X.N[i]? = some x := by rfl) (hj : X.N[j]? = some y := by rfl) (hij : i ≠ j := by decide)
    (hx : X.env.scope.names.lookup x = some .local := by rfl) (hy : X.env.scope.names.lookup y = some .local := by rfl)
    (hw : swappedStores [.Tuple [.Name x px, .Name y py] kt pt] (.Tuple [a, b] k2 pt2) X.env = pure (some [x, y]) := by kernel_rfl)
    (hs : swapsWithSole [.Tuple [.Name x px, .Name y py] kt pt] (.Tuple [a, b] k2 pt2) pos.line X.env = pure false := by rfl)
    (he : starEach [a, b] X.env = (false, eval a X.env) :: starEach [b] X.env := by rfl) (he2 : starEach [b] X.env = (false, eval b X.env) :: starEach [] X.env := by rfl) :
    ASs X W (.Assign [.Tuple [.Name x px, .Name y py] kt pt] (.Tuple [a, b] k2 pt2) pos :: rest) δ p :=
  ass_parM (i := i) (j := j) o h1 h2 (fun _ z => z ▸ hl1) (fun _ z => z ▸ hl2) (fun s u z1 z2 => z1 ▸ z2 ▸ t) hi hj hij hx hy hw hs he he2
/-- a, b = x, y by way of a tuple: where a name is a cell -/
theorem ass_parC {k i j : Nat} {x y : Str} {px py pt : Pos} {kt k2 : Nat} {pt2 : Pos} (o : Cok k X) (h1 : AE X W a δ P1) (h2 : AE X W b δ P2) (hl1 : ∀ s, P1 s → ∀ ds, s ≠ .l ds) (hl2 : ∀ s, P2 s → ∀ ds, s ≠ .l ds)
    (t : ∀ s u, P1 s → P2 u → ASs X W rest ((δ.set i (some s)).set j (some u)) p) (hi : X.N[i]? = some x := by rfl) (hj : X.N[j]? = some y := by rfl)
    (hx : Loc X.env.scope x := by first | exact Or.inl rfl | exact Or.inr rfl) (hy : Loc X.env.scope y := by first | exact Or.inl rfl | exact Or.inr rfl) (hf : X.fn x = true ∨ X.env.scope.names.lookup x = some .local := by first | exact .inl rfl | exact .inr rfl) (hf2 : X.fn y = true ∨ X.env.scope.names.lookup y = some .local := by first | exact .inl rfl | exact .inr rfl)
    (hw : swappedStores [.Tuple [.Name x px, .Name y py] kt pt] (.Tuple [a, b] k2 pt2) X.env = pure none := by rfl)
    (hs : swapsWithSole [.Tuple [.Name x px, .Name y py] kt pt] (.Tuple [a, b] k2 pt2) pos.line X.env = pure false := by rfl)
    (he : starEach [a, b] X.env = (false, eval a X.env) :: starEach [b] X.env := by rfl) (he2 : starEach [b] X.env = (false, eval b X.env) :: starEach [] X.env := by rfl)
    (g1 : (assignEach [.Name x px, .Name y py] X.env).map (·.2) = assign (.Name x px) X.env :: (assignEach [.Name y py] X.env).map (·.2) := by rfl) (g2 : (assignEach [.Name y py] X.env).map (·.2) = assign (.Name y py) X.env :: (assignEach [] X.env).map (·.2) := by rfl)
    (hn : (assignEach [.Name x px, .Name y py] X.env).length = 2 := by rfl) (hst : (assignEach [.Name x px, .Name y py] X.env).findIdx? (·.1) = none := by rfl)
    (h0 : (assignEach [.Tuple [.Name x px, .Name y py] kt pt] X.env).map (·.2) = [assign (.Tuple [.Name x px, .Name y py] kt pt) X.env] := by rfl) :
    ASs X W (.Assign [.Tuple [.Name x px, .Name y py] kt pt] (.Tuple [a, b] k2 pt2) pos :: rest) δ p := by
  refine ass_cons (fun δ' => ∃ s u, P1 s ∧ P2 u ∧ δ' = (δ.set i (some s)).set j (some u)) (ps_weak (ps_asg (pe_tup (pa_cons h1 (pa_cons h2 pa_nil he2) he)) (pg_tup o.calm (pgs_cons (pg_name o.nd hi hx hf) (pgs_cons (pg_name o.nd hj hy hf2) pgs_nil g2) g1) hn hst) hs hw h0)
    fun D σ H ⟨B, q1, q2⟩ => ⟨q1.sr, fun s v H1 f r z => ⟨(q1.fr f).sr, fun u w H2 f2 r2 z2 => ⟨by show 2 ≤ sizeLine; decide, fun pp hp => ?_⟩⟩⟩) fun δ' ⟨s, u, z1, z2, e⟩ => e ▸ t s u z1 z2
  have s1 := q1.setR (i := i) f r (hl1 s z)
  have s2 := s1.setR (i := j) f2 r2 (hl2 u z2)
  exact ⟨pp, [v, w], rfl, SqT.of upd_same, rfl, v, [w], rfl, w, [], rfl, rfl, q2.nx B _ _ _ (.refl B) (((f.trans f2).trans (.new f2.2 hp)).ext q1.j) ⟨s, u, z, z2, rfl⟩ (s2.fr (.new f2.2 hp))⟩
theorem wParC {k i j : Nat} {x y : Str} {px py pt : Pos} {kt k2 : Nat} {pt2 : Pos} {s u : S} (o : Cok k X) (h1 : AEq X W a δ s) (h2 : AEq X W b δ u) (t : ASs X W rest ((δ.set i (some s)).set j (some u)) p) (hl1 : ∀ ds, s ≠ .l ds := by exact fun _ h => nomatch h) (hl2 : ∀ ds, u ≠ .l ds := by exact fun _ h => nomatch h)
    (hi : X.N[i]? = some x := by rfl) (hj : X.N[j]? = some y := by rfl)
    (hx : Loc X.env.scope x := by first | exact Or.inl rfl | exact Or.inr rfl) (hy : Loc X.env.scope y := by first | exact Or.inl rfl | exact Or.inr rfl) (hf : X.fn x = true ∨ X.env.scope.names.lookup x = some .local := by first | exact .inl rfl | exact .inr rfl) (hf2 : X.fn y = true ∨ X.env.scope.names.lookup y = some .local := by first | exact .inl rfl | exact .inr rfl)
    (hw : swappedStores [.Tuple [.Name x px, .Name y py] kt pt] (.Tuple [a, b] k2 pt2) X.env = pure none := by rfl)
    (hs : swapsWithSole [.Tuple [.Name x px, .Name y py] kt pt] (.Tuple [a, b] k2 pt2) pos.line X.env = pure false := by rfl)
    (he : starEach [a, b] X.env = (false, eval a X.env) :: starEach [b] X.env := by rfl) (he2 : starEach [b] X.env = (false, eval b X.env) :: starEach [] X.env := by rfl)
    (g1 : (assignEach [.Name x px, .Name y py] X.env).map (·.2) = assign (.Name x px) X.env :: (assignEach [.Name y py] X.env).map (·.2) := by rfl) (g2 : (assignEach [.Name y py] X.env).map (·.2) = assign (.Name y py) X.env :: (assignEach [] X.env).map (·.2) := by rfl)
    (hn : (assignEach [.Name x px, .Name y py] X.env).length = 2 := by rfl) (hst : (assignEach [.Name x px, .Name y py] X.env).findIdx? (·.1) = none := by rfl)
    (h0 : (assignEach [.Tuple [.Name x px, .Name y py] kt pt] X.env).map (·.2) = [assign (.Tuple [.Name x px, .Name y py] kt pt) X.env] := by rfl) :
    ASs X W (.Assign [.Tuple [.Name x px, .Name y py] kt pt] (.Tuple [a, b] k2 pt2) pos :: rest) δ p :=
  ass_parC (i := i) (j := j) o h1 h2 (fun _ z => z ▸ hl1) (fun _ z => z ▸ hl2) (fun s u z1 z2 => z1 ▸ z2 ▸ t) hi hj hx hy hf hf2 hw hs he he2 g1 g2 hn hst h0
/-- range(a, b) -/
theorem wR2 {lo hi : Int} {pn : Pos} (hm : X.mg "range" = none) (ha : AEq X W a δ (.d (.int lo))) (hb : AEq X W b δ (.d (.int hi))) (h1 : -1000000 ≤ lo ∧ lo ≤ 1000000) (h2 : -1000000 ≤ hi ∧ hi ≤ 1000000) (hg : Gl X "range" := by rfl)
    (hs : starEach [a, b] X.env = [(false, eval a X.env), (false, eval b X.env)] := by rfl) (hs2 : starEach [b] X.env = [(false, eval b X.env)] := by rfl) :
    AI0 X W tg (.Call (.Name "range" pn) [a, b] [] pos) δ ((List.range (hi - lo).toNat).map fun i : Nat => D.int (lo + (i : Int))) := ai_range2 ha hb h1 h2 hg hm hs hs2
/-- a, b, c = a tuple -/
theorem wUn {ds : List D} {ix : List Nat} {up : Env → Env} (h : AEq X W e δ (.d (.tup ds))) (hg : AG X tg ix (.tup ds) up) (t : ASs X W rest (up δ) p) (hs : swapsWithSole [tg] e pos.line X.env = pure false := by rfl) (hw : swappedStores [tg] e X.env = pure none := by rfl) (h1 : (assignEach [tg] X.env).map (·.2) = [assign tg X.env] := by rfl) : ASs X W (.Assign [tg] e pos :: rest) δ p :=
  ass_asg (P := (· = .d (.tup ds))) (up := fun _ => up) (ix := ix) hs hw h1 h (fun s z => ⟨_, z⟩) (fun d z => by cases z; exact hg) (fun d z => t)
end
def bothM (ts : List Ty) (k l : Int) : List Int := (takersM ts k).filter fun r => decide (r ∈ takersM ts l)
def mineM (ts : List Ty) (k l : Int) : List Int := (takersM ts k).filter fun r => !decide (r ∈ takersM ts l)
def partM (one other : List Int) : Bool := one.all fun i => decide (i ∈ other)
def crossM (ts : List Ty) (k l : Int) : Bool := [bothM ts k l, mineM ts k l, mineM ts l k].all fun x => !x.isEmpty
def restR (n i : Nat) : List Nat := (List.range (n - (i + 1))).map fun j => i + 1 + j
def pairsM (n : Nat) (ts : List Ty) : List (Nat × Nat) := (List.range n).flatMap fun k => ((restR n k).filter fun l => crossM ts (nI k) (nI l)).map fun l => (k, l)
def ePr (p : Nat × Nat) : D := tupI [nI p.1, nI p.2]
theorem rest_enc (n i : Nat) (h : i < n) : ((List.range ((n : Int) - ((i : Int) + 1)).toNat).map fun j : Nat => D.int ((i : Int) + 1 + (j : Int))) = (restR n i).map fun l : Nat => D.int (l : Int) := by
  unfold restR
  rw [List.map_map, show ((n : Int) - ((i : Int) + 1)).toNat = n - (i + 1) by omega]
  congr 1
section
variable {P : Program} {w : World} {K : PySem.W.Frag} {mg : Str → Option Value} {base : Heap} {W : Wd} {CT CF CC : Addr}
abbrev Kparts (P : Program) (w : World) (K : PySem.W.Frag) (mg : Str → Option Value) (base : Heap) (W : Wd) (CT : Addr) := KnD P w K mg base W 2 "parts_of_pair" ["table", "one", "other"] (fun i : TbX × Int × Int => [tbD CT i.1, .int i.2.1, .int i.2.2]) (fun i => eLL [bothM i.1.1.2 i.2.1 i.2.2, mineM i.1.1.2 i.2.1 i.2.2, mineM i.1.1.2 i.2.2 i.2.1])
theorem sc_parts : FnScope ["table", "one", "other", "mine", "yours", "both", "number", "n"] ["table", "one", "other"] (defScope (top 33)) := ⟨rfl, rfl, rfl, by decide +kernel, rfl, by decide +kernel, by decide +kernel⟩
theorem takers12 (i : TbX) (k : Int) : (takersM i.1.2 k).length ≤ 12 := Nat.le_trans (takersM_len _ _) i.tb.t12
theorem ok_parts (T : Tx mg) (d : Df K mg "parts_of_pair" (top 33) ["table", "one", "other"]) (g1 : Ktakers P w K mg base W CT) : Kparts P w K mg base W CT := by
  refine kn_ok d sc_parts (fun _ => rfl) (fun _ => nomut) fun f cdv A outer s H E o i => ?_
  obtain ⟨tb, k, l⟩ := i
  have h1 := takers12 tb k
  have h2 := takers12 tb l
  refine wParC (i := 3) (j := 4) o (wCallE g1 o (aa2 (vv 0) (vv 1)) (tb, k)) (wCallE g1 o (aa2 (vv 0) (vv 2)) (tb, l)) ?_
  refine wSet (i := 5) (s := .d (tupI (bothM tb.1.2 k l))) o (wTupP T.tuple (LcJ.aq (wLc (xs := takersM tb.1.2 k) (enc := D.int) [("number", 6)] (ix := [6]) (fun r => decide (r ∈ takersM tb.1.2 l)) (fun r => .int r) (fun n δ => δ.set 6 (some (.d (.int n)))) o (by omega) (ai_tup (vv 3)).toI (fun s H C cl fp x => wName (o.blk ..)) (fun s H C cl fp x hx => ats_one (tInI (vv 6) (vv 4) .t)) (fun s H C cl fp x hx _ => vv 6)) o rfl)) ?_
  refine ass_one (wRet (ae_tup (ds := [tupI (bothM tb.1.2 k l), tupI (mineM tb.1.2 k l), tupI (mineM tb.1.2 l k)]) (aa3 (vv 5)
    (wTupP T.tuple (LcJ.aq (wLc (xs := takersM tb.1.2 k) (enc := D.int) [("number", 6)] (ix := [6]) (fun r => !decide (r ∈ takersM tb.1.2 l)) (fun r => .int r) (fun n δ => δ.set 6 (some (.d (.int n)))) o (by omega) (ai_tup (vv 3)).toI (fun s H C cl fp x => wName (o.blk ..)) (fun s H C cl fp x hx => ats_one (tNiI (vv 6) (vv 4) .t)) (fun s H C cl fp x hx _ => vv 6)) o rfl))
    (wTupP T.tuple (LcJ.aq (wLc (xs := takersM tb.1.2 l) (enc := D.int) [("n", 7)] (ix := [7]) (fun r => !decide (r ∈ takersM tb.1.2 k)) (fun r => .int r) (fun n δ => δ.set 7 (some (.d (.int n)))) o (by omega) (ai_tup (vv 4)).toI (fun s H C cl fp x => wName (o.blk ..)) (fun s H C cl fp x hx => ats_one (tNiI (vv 7) (vv 3) .t)) (fun s H C cl fp x hx _ => vv 7)) o rfl))) (by show 3 ≤ 100; decide)) rfl)
abbrev KdoCross (P : Program) (w : World) (K : PySem.W.Frag) (mg : Str → Option Value) (base : Heap) (W : Wd) (CT : Addr) := KnD P w K mg base W 3 "do_cross" ["table", "one", "other"] (fun i : TbX × Int × Int => [tbD CT i.1, .int i.2.1, .int i.2.2]) (fun i => .bl (crossM i.1.1.2 i.2.1 i.2.2))
theorem sc_do_cross : FnScope ["table", "one", "other", "lot"] ["table", "one", "other"] (defScope (top 34)) := ⟨rfl, rfl, rfl, by decide +kernel, rfl, by decide +kernel, by decide +kernel⟩
theorem ok_do_cross (T : Tx mg) (d : Df K mg "do_cross" (top 34) ["table", "one", "other"]) (g1 : Kparts P w K mg base W CT) : KdoCross P w K mg base W CT := by
  refine kn_ok d sc_do_cross (fun _ => rfl) (fun _ => nomut) fun f cdv A outer s H E o i => ?_
  obtain ⟨tb, k, l⟩ := i
  refine ass_one (wRet (wAll o T.all (wLcB (xs := [bothM tb.1.2 k l, mineM tb.1.2 k l, mineM tb.1.2 l k]) (enc := tupI) [("lot", 3)] (fun x => !x.isEmpty) (fun x δ => δ.set 3 (some (.d (tupI x)))) o (by show 3 ≤ 100000; decide)
    (ai_tup (wCallE g1 o (aa3 (vv 0) (vv 1) (vv 2)) (tb, k, l))).toI (fun s H C cl fp x => wName (o.blk ..)) fun s H C cl fp x _ => AEq.to (ae_neET (o.blk ..) (vv 3) (ae_tup (ds := []) aa_nil (by decide))) (by rw [List.isEmpty_map])) (.inl rfl)) ?_)
  show S.d (.bl _) = S.d (.bl (crossM tb.1.2 k l))
  rw [map_id_all] <;> rfl
abbrev KcrossingPairs (P : Program) (w : World) (K : PySem.W.Frag) (mg : Str → Option Value) (base : Heap) (W : Wd) (CT : Addr) := KnD P w K mg base W 4 "crossing_pairs" ["table"] (fun i : TbX => [tbD CT i]) (fun i => .tup ((pairsM i.1.1.length i.1.2).map ePr))
theorem sc_crossing_pairs : FnScope ["table", "many", "one", "other"] ["table"] (defScope (top 35)) := ⟨rfl, rfl, rfl, by decide +kernel, rfl, by decide +kernel, by decide +kernel⟩
theorem flat_len {α β : Type} {c : Nat} {f : α → List β} : ∀ {xs : List α}, (∀ x ∈ xs, (f x).length ≤ c) → (xs.flatMap f).length ≤ xs.length * c
  | [], _ => by simp
  | x :: xs, h => by
    have h1 := h x List.mem_cons_self
    have h2 := flat_len (f := f) (xs := xs) fun y hy => h y (List.mem_cons_of_mem _ hy)
    rw [List.flatMap_cons, List.length_append, List.length_cons, Nat.add_mul]
    omega
theorem restR_len (n i : Nat) : (restR n i).length ≤ n := by
  unfold restR
  rw [List.length_map, List.length_range]
  omega
theorem restR_mem {n i l : Nat} : l ∈ restR n i ↔ i < l ∧ l < n := by
  unfold restR
  simp only [List.mem_map, List.mem_range]
  constructor
  · rintro ⟨j, h, rfl⟩
    omega
  · rintro ⟨h1, h2⟩
    exact ⟨l - (i + 1), by omega, by omega⟩
theorem ok_crossing_pairs (T : Tx mg) (Z : Cz K mg CT CF CC) (d : Df K mg "crossing_pairs" (top 35) ["table"]) (g1 : KdoCross P w K mg base W CT) : KcrossingPairs P w K mg base W CT := by
  refine kn_ok d sc_crossing_pairs (fun _ => rfl) (fun _ => nomut) fun f cdv A outer s H E o i => ?_
  have h8 := i.tb.k8
  have hl : (i.1.1.map D.str).length = i.1.1.length := List.length_map ..
  refine wSet (i := 1) (s := .d (.int (i.1.1.length : Int))) o (AEq.to (wLen T.len (wFld (vv 0) Z.clT Z.tK) .t) (by rw [hl])) ?_
  refine ass_one (wRet (wTupP T.tuple (AEq.to (ae_lc2 (xs := List.range i.1.1.length) (enc := fun k : Nat => .int (k : Int)) (fun k => restR i.1.1.length k) (encb := fun k : Nat => .int (k : Int)) (own := [("one", 2), ("other", 3)]) (ix := [2]) (jx := [3]) (vs1 := [3]) (fun k l => crossM i.1.2 (nI k) (nI l)) (fun k l => ePr (k, l)) (fun k δ => δ.set 2 (some (.d (.int (k : Int))))) (fun k δ => δ.set 3 (some (.d (.int (k : Int))))) o (blkOk_by (by kernel_rfl)) (by decide) (by decide) (by decide)
    (Nat.le_trans (flat_len fun k _ => restR_len i.1.1.length k) (by rw [List.length_range]; exact Nat.le_trans (Nat.mul_le_mul h8 h8) (by decide))) (fun _ => rfl) (fun _ _ => rfl)
    ((wR1 (n := i.1.1.length) T.range (vv 1) (by omega) rfl).toI) (fun s H C cl fp x => wName (o.blk ..)) (fun s H C cl fp x hx => (wR2 T.range (ae_add (vv 2) ae_int) (vv 1) (by have := List.mem_range.mp hx; omega) (by omega)).eq0 (rest_enc _ _ (List.mem_range.mp hx))) (fun s H C cl fp x => wName (o.blk ..))
    (fun s H C cl fp x y _ _ => ats_one (atv (wCallE g1 (o.blk ..) (aa3 (vv 0) (vv 2) (vv 3)) (i, nI x, nI y)))) (fun s H C cl fp x y _ _ _ => ae_tup (ds := [_, _]) (aa2 (vv 2) (vv 3)) (by show 2 ≤ 100; decide))) (own_eq ?_))) rfl)
  unfold pairsM
  rw [List.map_flatMap]
  congr 1
  funext x
  rw [List.map_map] <;> rfl
end
end NR
namespace NR
open PySem PySem.Spec PyProof.Rows L2
section
variable {X : Cx} {W : Wd} {e a b c elt tg iter : Expr} {es ifs : List Expr} {δ : Env} {pos : Pos} {st : Stmt} {rest body : List Stmt} {p q : Post} {P P1 P2 : S → Prop}
/-- xs.append(e), the small premises filled -/
theorem wApp {i : Nat} {x : Str} {ds : List D} {d : D} {pn apos cpos epos : Pos} (h : AEq X W e δ (.d d)) (hlen : ds.length < 100000) (t : ASs X W rest (δ.set i (some (.own (ds ++ [d])))) p) (he : δ[i]? = some (some (.own ds)) := by rfl) (hN : X.N[i]? = some x := by rfl) (hv : Vis X.env.scope x := by first | exact Or.inl rfl | exact Or.inr (Or.inl rfl) | exact Or.inr (Or.inr rfl)) (hd : (x == ("__debug__" : Str)) = false := by decide) (hc : (x == ("__classdict__" : Str)) = false := by decide)
    (hs : swapsWith (.Call (.Attribute (.Name x pn) "append" apos) [e] [] cpos) none epos.line X.env = pure false := by rfl)
    (hb : attributeBase (.Name x pn) "append" X.env (eval (.Name x pn) X.env) = eval (.Name x pn) X.env := by rfl)
    (hfew : ((backTo cpos (starEach [e] X.env)).all (fun x => !x.1) && (backToKw cpos (keywordEach [] X.env)).all (fun x => x.1.isSome) && decide ([e].length + ([] : List Keyword).length + (if ([] : List Keyword).isEmpty then 0 else 1) < 30)) = true := by rfl)
    (hline : (apos.endLine == cpos.line) = true := by rfl) (hst : starEach [e] X.env = (false, eval e X.env) :: starEach [] X.env := by rfl) (hpl : (backTo cpos (starEach [] X.env)).any (·.1) = false := by rfl) :
    ASs X W (.Expr (.Call (.Attribute (.Name x pn) "append" apos) [e] [] cpos) epos :: rest) δ p :=
  ass_app (P := (· = .d d)) he hN hv hd hc hlen h (fun _ z => ⟨_, z⟩) hs hb hfew hline hst hpl fun d' z => by cases z; exact t
theorem wExt {i : Nat} {x : Str} {ds es' : List D} {pn apos cpos epos : Pos} (h : AEq X W e δ (.own es')) (hlen : ds.length + es'.length ≤ 1000000) (t : ASs X W rest (δ.set i (some (.own (ds ++ es')))) p) (he : δ[i]? = some (some (.own ds)) := by rfl) (hN : X.N[i]? = some x := by rfl) (hv : Vis X.env.scope x := by first | exact Or.inl rfl | exact Or.inr (Or.inl rfl) | exact Or.inr (Or.inr rfl)) (hd : (x == ("__debug__" : Str)) = false := by decide) (hc : (x == ("__classdict__" : Str)) = false := by decide)
    (hs : swapsWith (.Call (.Attribute (.Name x pn) "extend" apos) [e] [] cpos) none epos.line X.env = pure false := by rfl)
    (hb : attributeBase (.Name x pn) "extend" X.env (eval (.Name x pn) X.env) = eval (.Name x pn) X.env := by rfl)
    (hfew : ((backTo cpos (starEach [e] X.env)).all (fun x => !x.1) && (backToKw cpos (keywordEach [] X.env)).all (fun x => x.1.isSome) && decide ([e].length + ([] : List Keyword).length + (if ([] : List Keyword).isEmpty then 0 else 1) < 30)) = true := by rfl)
    (hline : (apos.endLine == cpos.line) = true := by rfl) (hst : starEach [e] X.env = (false, eval e X.env) :: starEach [] X.env := by rfl) (hpl : (backTo cpos (starEach [] X.env)).any (·.1) = false := by rfl) :
    ASs X W (.Expr (.Call (.Attribute (.Name x pn) "extend" apos) [e] [] cpos) epos :: rest) δ p :=
  ass_ext he hN hv hd hc hlen h hs hb hfew hline hst hpl t
/-- enumerate of a list in an expression -/
theorem wEnL {s : S} {ds : List D} {elts : List Expr} {kk : Nat} {tpos pn : Pos} (hm : X.mg "enumerate" = none) (ha : AEq X W e δ s) (hs : s = .own ds ∨ s = .l ds) (hg : Gl X "enumerate" := by rfl) (hst : starEach [e] X.env = [(false, eval e X.env)] := by rfl) :
    AI X W (.Tuple elts kk tpos) (.Call (.Name "enumerate" pn) [e] [] pos) δ (enD ds) := ai_enumL hg hm ha hs hst
theorem AI.eq {ds ds' : List D} (h : AI X W tg iter δ ds) (e : ds = ds') : AI X W tg iter δ ds' := e ▸ h
theorem AIs.eq {ds ds' : List D} (h : AIs X W tg iter δ ds) (e : ds = ds') : AIs X W tg iter δ ds' := e ▸ h
end
def eCr (CC : Addr) (c : List Int × List Int) : D := .ins CC ["kinds", "types"] [tupI c.1, tupI c.2]
def crossAt (ts : List Ty) (p : Nat × Nat) : List (List Int × List Int) := (bothM ts (nI p.1) (nI p.2)).flatMap fun f => (mineM ts (nI p.1) (nI p.2)).flatMap fun m => (mineM ts (nI p.2) (nI p.1)).map fun y => ([nI p.1, nI p.2], [f, m, y])
def crossingsM (n : Nat) (ts : List Ty) : List (List Int × List Int) := (pairsM n ts).flatMap (crossAt ts)
theorem filt_len {α : Type} {p : α → Bool} {xs : List α} {c : Nat} (h : xs.length ≤ c) : (xs.filter p).length ≤ c := Nat.le_trans (List.length_filter_le _ _) h
theorem three_len {α β γ δ : Type} {xs : List α} {ys : List β} {zs : List γ} {g : α → β → γ → δ} (h1 : xs.length ≤ 12) (h2 : ys.length ≤ 12) (h3 : zs.length ≤ 12) : (xs.flatMap fun x => ys.flatMap fun y => zs.map fun z => g x y z).length ≤ 1728 := by
  refine Nat.le_trans (flat_len (c := 144) fun x _ => ?_) (by omega)
  refine Nat.le_trans (flat_len (c := 12) fun y _ => ?_) (by omega)
  rw [List.length_map]
  exact h3
theorem crossAt_len (tb : TbX) (p : Nat × Nat) : (crossAt tb.1.2 p).length ≤ 1728 := three_len (filt_len (takers12 tb _)) (filt_len (takers12 tb _)) (filt_len (takers12 tb _))
theorem pairsM_len (n : Nat) (ts : List Ty) (h : n ≤ 8) : (pairsM n ts).length ≤ 64 := by
  unfold pairsM
  refine Nat.le_trans (flat_len (c := n) fun k _ => ?_) ?_
  · rw [List.length_map]
    exact filt_len (restR_len n k)
  · rw [List.length_range]
    exact Nat.le_trans (Nat.mul_le_mul h h) (by decide)
section
variable {P : Program} {w : World} {K : PySem.W.Frag} {mg : Str → Option Value} {base : Heap} {W : Wd} {CT CF CC : Addr}
abbrev KcrossingsOf (P : Program) (w : World) (K : PySem.W.Frag) (mg : Str → Option Value) (base : Heap) (W : Wd) (CT CC : Addr) := KnD P w K mg base W 5 "crossings_of" ["table"] (fun i : TbX => [tbD CT i]) (fun i => .tup ((crossingsM i.1.1.length i.1.2).map (eCr CC)))
theorem sc_crossings_of : FnScope ["table", "found", "pair", "both", "mine", "yours", "first", "one", "other"] ["table"] (defScope (top 36)) := ⟨rfl, rfl, rfl, by decide +kernel, rfl, by decide +kernel, by decide +kernel⟩
theorem getD_get {α : Type} {xs : List α} {i : Nat} {d : α} (h : i < xs.length) : xs[i] = xs.getD i d := by
  rw [List.getD_eq_getElem?_getD, List.getElem?_eq_getElem h] <;> rfl
theorem ok_crossings_of (T : Tx mg) (d : Df K mg "crossings_of" (top 36) ["table"]) (g1 : KcrossingPairs P w K mg base W CT) (g2 : Kparts P w K mg base W CT) (g3 : KCrossing P w K mg base W CC) : KcrossingsOf P w K mg base W CT CC := by
  refine kn_ok d sc_crossings_of (fun _ => rfl) (fun _ => nomut) fun f cdv A outer s H E o i => ?_
  have h8 := i.tb.k8
  have hp64 := pairsM_len i.1.1.length i.1.2 h8
  have hcl : ∀ k, ((pairsM i.1.1.length i.1.2).take k |>.flatMap (crossAt i.1.2)).length ≤ 64 * 1728 := fun k => Nat.le_trans (flat_len (c := 1728) fun p _ => crossAt_len i p) (Nat.mul_le_mul (Nat.le_trans (List.length_take_le' _ _) hp64) (Nat.le_refl _))
  refine wSet (i := 1) (s := .own []) o (ae_lst aa_nil (by decide)) ?_
  refine ass_cons (fun δ' => ∃ a b c d, δ' = [some (.d (tbD CT i)), some (.own ((crossingsM i.1.1.length i.1.2).map (eCr CC))), a, b, c, d, none, none, none])
    (as_for (I := fun k δ' => δ' = [some (.d (tbD CT i)), some (.own (((pairsM i.1.1.length i.1.2).take k |>.flatMap (crossAt i.1.2)).map (eCr CC))), none, none, none, none, none, none, none]) (ix := [2]) (fun k δ => δ.set 2 (some (.d (ePr ((pairsM i.1.1.length i.1.2).getD k (0, 0)))))) o (fun _ => rfl) (ai_tup (wCallE g1 o (aa1 (vv 0)) i)).toS ⟨_, rfl, .refl _⟩ (fun k d hd => ?_) (fun k d δ' hd hI => ?_) (fun δ' h => ?_)) fun δ' z => ?_
  · have hi : k < (pairsM i.1.1.length i.1.2).length := by
      have := (List.getElem?_eq_some_iff.mp hd).1
      rwa [List.length_map] at this
    rw [get_map (f := ePr) (d := (0, 0)) hi] at hd
    cases hd
    exact wName o
  · subst hI
    have hi : k < (pairsM i.1.1.length i.1.2).length := by
      have := (List.getElem?_eq_some_iff.mp hd).1
      rwa [List.length_map] at this
    have hg := getD_get (d := (0, 0)) hi
    generalize hq : (pairsM i.1.1.length i.1.2).getD k (0, 0) = q at hg
    have hl1 := takers12 i (nI q.1)
    have hl2 := takers12 i (nI q.2)
    refine wUn (ix := [3, 4, 5]) (wCallE g2 o (aa3 (vv 0) (wIx 0 (vv 2) ae_int .t rfl) (wIx 1 (vv 2) ae_int .t rfl)) (i, nI q.1, nI q.2)) (wTg3 o) ?_
    refine wExt (i := 1) (es' := (crossAt i.1.2 q).map (eCr CC)) (AEq.to (ae_lc3 (xs := bothM i.1.2 (nI q.1) (nI q.2)) (ys := mineM i.1.2 (nI q.1) (nI q.2)) (zs := mineM i.1.2 (nI q.2) (nI q.1)) (enc := D.int) (encb := D.int) (encc := D.int) [("first", 6), ("one", 7), ("other", 8)] (ix := [6]) (jx := [7]) (kx := [8]) [7, 8] [8] (fun f m y => eCr CC ([nI q.1, nI q.2], [f, m, y]))
      (fun x δ => δ.set 6 (some (.d (.int x)))) (fun x δ => δ.set 7 (some (.d (.int x)))) (fun x δ => δ.set 8 (some (.d (.int x)))) o (Nat.le_trans (three_len (filt_len hl1) (filt_len hl1) (filt_len hl2)) (by decide)) (ai_tup (vv 3)) (fun s H C cl fp x => wName (o.blk ..)) (fun s H C cl fp x => ai_tup (vv 4)) (fun s H C cl fp x => wName (o.blk ..)) (fun s H C cl fp x y => ai_tup (vv 5)) (fun s H C cl fp x => wName (o.blk ..))
      (fun s H C cl fp x y z => wMake g3 (o.blk ..) (aa2 (vv 2) (ae_tup (ds := [.int x, .int y, .int z]) (aa3 (vv 6) (vv 7) (vv 8)) (by show 3 ≤ 100; decide))) ([nI q.1, nI q.2], [x, y, z]))) (own_eq ?_)) ?_ ?_
    · unfold crossAt
      rw [List.map_flatMap]
      congr 1
      funext x
      rw [List.map_flatMap]
      congr 1
      funext y
      rw [List.map_map] <;> rfl
    · rw [List.length_map, List.length_map]
      have := hcl k
      have := crossAt_len i q
      omega
    · refine ass_nil ⟨_, rfl, ?_⟩
      have e3 : ((pairsM i.1.1.length i.1.2).take (k + 1) |>.flatMap (crossAt i.1.2)).map (eCr CC) = ((pairsM i.1.1.length i.1.2).take k |>.flatMap (crossAt i.1.2)).map (eCr CC) ++ (crossAt i.1.2 q).map (eCr CC) := by
        rw [List.take_add_one, List.getElem?_eq_getElem hi, hg, List.flatMap_append, List.map_append]
        simp
      rw [e3]
      exact .same (.same (.drop (.drop (.drop (.drop (.same (.same (.same .nil))))))))
  · subst h
    rw [List.length_map, List.take_length]
    exact ⟨_, _, _, _, rfl⟩
  · obtain ⟨a, b, c, d, rfl⟩ := z
    exact ass_one (wRet (wTup T.tuple (vo 1) (.inr rfl)) rfl)
abbrev KisPart (P : Program) (w : World) (K : PySem.W.Frag) (mg : Str → Option Value) (base : Heap) (W : Wd) := KnD P w K mg base W 1 "is_part" ["one", "other"] (fun i : LI × LI => [tupI i.1.1, tupI i.2.1]) (fun i => .bl (partM i.1.1 i.2.1))
theorem sc_is_part : FnScope ["one", "other", "item"] ["one", "other"] (defScope (top 37)) := ⟨rfl, rfl, rfl, by decide +kernel, rfl, by decide +kernel, by decide +kernel⟩
theorem ok_is_part (T : Tx mg) (d : Df K mg "is_part" (top 37) ["one", "other"]) : KisPart P w K mg base W := by
  refine kn_ok d sc_is_part (fun _ => rfl) (fun _ => nomut) fun f cdv A outer s H E o i => ?_
  obtain ⟨one, other⟩ := i
  refine ass_one (wRet (wAll o T.all (wLcB (xs := one.1) (enc := D.int) [("item", 2)] (fun x => decide (x ∈ other.1)) (fun x δ => δ.set 2 (some (.d (.int x)))) o (Nat.le_trans one.2 (by decide)) (ai_tup (vv 0)).toI (fun s H C cl fp x => wName (o.blk ..)) fun s H C cl fp x _ => wInI (vv 2) (vv 1) .t) (.inl rfl)) ?_)
  show S.d (.bl _) = S.d (.bl (partM one.1 other.1))
  rw [map_id_all] <;> rfl
end
end NR
namespace NR
open PySem PySem.Spec PyProof.Rows L2
def minOr (ps : List (Int × Int)) : Int := if ps = [] then -1 else (minP ps).2
def aboveL (lots : List (List Int)) : List Int := lots.zipIdx.map fun p => minOr ((lots.zipIdx.filter fun q => !decide (nI q.2 = nI p.2) && partM p.1 q.1).map fun q => (nI q.1.length, nI q.2))
def plLots (ts : List Ty) (pl : List (List Int)) : List (List Int) := pl.map fun lot => takersM ts (lot.headD 0)
def homeAt (pl : List (List Int)) (sz acc : List Int) : Int := minOr ((pl.zipIdx.filter fun q => decide (q.1.headD 0 ∈ acc)).map fun q => (sz.getD q.2 0, nI q.2))
def plSizes (ts : List Ty) (pl : List (List Int)) : List Int := pl.map fun lot => nI (takersM ts (lot.headD 0)).length
def homesM (ts : List Ty) (pl : List (List Int)) : List Int := ts.map fun t => homeAt pl (plSizes ts pl) t.2
def forestM (n : Nat) (ts : List Ty) : Fo := ⟨placesM (allT n ts), aboveL (plLots ts (placesM (allT n ts))), homesM ts (placesM (allT n ts))⟩
def courtM (CF CC : Addr) (n : Nat) (ts : List Ty) : D := match crossingsM n ts with
  | [] => eFo CF (forestM n ts)
  | c :: _ => eCr CC c
def nestM (one other : List Int) : Bool := partM one other || (partM other one || !(one.any fun i => decide (i ∈ other)))
def isForestM (n : Nat) (ts : List Ty) : Bool := (allT n ts).all fun one => (allT n ts).all fun other => nestM one other
def stockM (n : Nat) (kinds : List Int) : List Int := (List.range n).map fun k => if nI k ∈ kinds then 1 else 0
theorem head_get {lot : List Int} (h : lot ≠ []) : (lot.map D.int)[0]? = some (.int (lot.headD 0)) := by
  cases lot with
  | nil => exact absurd rfl h
  | cons x xs => rfl
theorem sameKs_ne {lots : List (List Int)} {k : Int} (h : k ∈ firstKs lots) : sameKs lots k ≠ [] := by
  obtain ⟨i, rfl, lot, h1, _⟩ := firstKs_mem.mp h
  intro z
  unfold sameKs at z
  rw [List.map_eq_nil_iff, List.filter_eq_nil_iff] at z
  have := z (lot, i) (List.mk_mem_zipIdx_iff_getElem?.mpr h1)
  have e : lots.getD (nI i).toNat [] = lot := by
    show lots.getD i [] = lot
    rw [List.getD_eq_getElem?_getD, h1] <;> rfl
  rw [e] at this
  exact this (decide_eq_true rfl)
theorem placesM_ne {lots : List (List Int)} : ∀ lot ∈ placesM lots, lot ≠ [] := by
  intro lot h
  unfold placesM at h
  obtain ⟨k, hk, rfl⟩ := List.mem_map.mp h
  exact sameKs_ne hk
theorem placesM_len (lots : List (List Int)) : (placesM lots).length ≤ lots.length := by
  unfold placesM
  rw [List.length_map]
  exact firstKs_len lots
section
variable {X : Cx} {W : Wd} {a b c : Expr} {δ : Env} {pos : Pos}
/-- for .. in enumerate(a list that a slot holds) -/
theorem wEnV (i : Nat) {x : Str} {ds : List D} {elts : List Expr} {kk : Nat} {tpos p pos2 : Pos} (hm : X.mg "enumerate" = none) (hs : δ[i]? = some (some (.l ds)) := by rfl) (hN : X.N[i]? = some x := by rfl) (hv : Vis X.env.scope x := by first | exact Or.inl rfl | exact Or.inr (Or.inl rfl) | exact Or.inr (Or.inr rfl)) (hd : (x == ("__debug__" : Str)) = false := by decide) (hc : (x == ("__classdict__" : Str)) = false := by decide)
    (hg : Gl X "enumerate" := by rfl) (hst : starEach [.Name x pos] X.env = [(false, eval (.Name x pos) X.env)] := by rfl) :
    AIs X W (.Tuple elts kk tpos) (.Call (.Name "enumerate" p) [.Name x pos] [] pos2) δ (enD ds) := ais_enumV hs hN hv hd hc hg hm hst
/-- min(some)[1] if some != [] else -1 -/
theorem wMinOr {k i : Nat} {x : Str} {ps : List (Int × Int)} {pn p1 p2 p3 p4 p5 p6 p7 p8 p9 : Pos} {j1 j2 : Nat} (o : Cok k X) (hm : X.mg "min" = none) (hs : δ[i]? = some (some (.own (ps.map eP))) := by rfl) (hN : X.N[i]? = some x := by rfl) (hv : Vis X.env.scope x := by first | exact Or.inl rfl | exact Or.inr (Or.inl rfl) | exact Or.inr (Or.inr rfl)) (hd : (x == ("__debug__" : Str)) = false := by decide) (hc : (x == ("__classdict__" : Str)) = false := by decide)
    (hg : Gl X "min" := by rfl) (he : starEach [.Name x p1] X.env = (false, eval (.Name x p1) X.env) :: starEach [] X.env := by rfl) (hp : (backTo p2 (starEach [] X.env)).any (·.1) = false := by rfl) :
    AEq X W (.IfExp (.Compare (.Name x p3) [.NotEq] [.List [] p4] p5) (.Subscript (.Call (.Name "min" pn) [.Name x p1] [] p2) (.Constant (.int 1) j1 p6) p7) (.UnaryOp .USub (.Constant (.int 1) j2 p8) p9) pos) δ (.d (.int (minOr ps))) := by
  refine AEq.to (ae_if (at_neEL o (ae_varO hs hN hv hd hc) (ae_lst aa_nil (by decide)) (.inr rfl)) (fun h => wIx 1 (wMinP o hm (ae_varO hs hN hv hd hc) (.inr rfl) ?_ hg he hp) ae_int .t rfl) fun _ => ae_neg ae_int) ?_
  · intro z
    subst z
    cases h
  · unfold minOr
    cases ps <;> rfl
end
section
variable {P : Program} {w : World} {K : PySem.W.Frag} {mg : Str → Option Value} {base : Heap} {W : Wd} {CT CF CC : Addr}
abbrev PlX := {x : TbX × List (List Int) // x.2.length ≤ 8 ∧ ∀ lot ∈ x.2, lot ≠ []}
abbrev KaboveOf (P : Program) (w : World) (K : PySem.W.Frag) (mg : Str → Option Value) (base : Heap) (W : Wd) (CT : Addr) := KnD P w K mg base W 2 "above_of" ["table", "places"] (fun i : PlX => [tbD CT i.1.1, eLL i.1.2]) (fun i => tupI (aboveL (plLots i.1.1.1.2 i.1.2)))
theorem sc_above_of : FnScope ["table", "places", "lots", "found", "at", "lot", "some", "place", "other"] ["table", "places"] (defScope (top 38)) := ⟨rfl, rfl, rfl, by decide +kernel, rfl, by decide +kernel, by decide +kernel⟩
theorem ok_above_of (T : Tx mg) (d : Df K mg "above_of" (top 38) ["table", "places"]) (g1 : Ktakers P w K mg base W CT) (g2 : KisPart P w K mg base W) : KaboveOf P w K mg base W CT := by
  refine kn_ok d sc_above_of (fun _ => rfl) (fun _ => nomut) fun f cdv A outer s H E o i => ?_
  obtain ⟨⟨tb, pl⟩, h8, hne⟩ := i
  have h8 : pl.length ≤ 8 := h8
  have hne : ∀ lot ∈ pl, lot ≠ [] := hne
  refine wSetLc (i := 2) (s := .own ((plLots tb.1.2 pl).map tupI)) o (LcJ.eqv (wLcA (xs := pl) (enc := tupI) [("lot", 5)] (ix := [5]) (fun lot => tupI (takersM tb.1.2 (lot.headD 0))) (fun lot δ => δ.set 5 (some (.d (tupI lot)))) o (by omega) (ai_tup (vv 1)).toI (fun s H C cl fp x => wName (o.blk ..)) fun s H C cl fp x hx => wCallE g1 (o.blk ..) (aa2 (vv 0) (wIx 0 (vv 5) ae_int .t (head_get (hne x hx)))) (tb, x.headD 0)) (own_eq ?_)) ?_
  · unfold plLots
    rw [List.map_map] <;> rfl
  have hll : ∀ x ∈ plLots tb.1.2 pl, x.length ≤ 12 := fun x hx => by
    obtain ⟨y, _, rfl⟩ := List.mem_map.mp hx
    exact takers12 tb _
  have hln : (plLots tb.1.2 pl).length ≤ 8 := by
    unfold plLots
    rw [List.length_map]
    exact h8
  show ASs _ W _ [some (.d (tbD CT tb)), some (.d (eLL pl)), some (.own ((plLots tb.1.2 pl).map tupI)), none, none, none, none, none, none] _
  show ASs _ W _ _ ⟨_, fun s => s = .d (tupI (aboveL (plLots tb.1.2 pl))), _, _⟩
  generalize plLots tb.1.2 pl = lots at hll hln
  have hL : (lots.map tupI).length = lots.length := List.length_map ..
  refine wSet (i := 3) (s := .own []) o (ae_lst aa_nil (by decide)) ?_
  refine ASs.freeze 2 ?_ rfl
  refine ass_cons (fun δ' => ∃ a b c, δ' = [some (.d (tbD CT tb)), some (.d (eLL pl)), some (.l (lots.map tupI)), some (.own ((aboveL lots).map D.int)), a, b, c, none, none])
    (as_for (I := fun k δ' => δ' = [some (.d (tbD CT tb)), some (.d (eLL pl)), some (.l (lots.map tupI)), some (.own (((aboveL lots).take k).map D.int)), none, none, none, none, none]) (ix := [4, 5]) (fun k δ => (δ.set 4 (some (.d (.int (k : Int))))).set 5 (some (.d (tupI (lots.getD k []))))) o (fun _ => rfl) (wEnV 2 T.enum) ⟨_, rfl, .refl _⟩ (fun k d hd => ?_) (fun k d δ' hd hI => ?_) (fun δ' h => ?_)) fun δ' z => ?_
  · obtain ⟨y, hx, rfl⟩ := enD_get hd
    have hi : k < lots.length := by
      have := (List.getElem?_eq_some_iff.mp hx).1
      omega
    rw [get_map (f := tupI) (d := []) hi] at hx
    cases hx
    exact wTg2 o
  · subst hI
    obtain ⟨y, hx, rfl⟩ := enD_get hd
    have hi : k < lots.length := by
      have := (List.getElem?_eq_some_iff.mp hx).1
      omega
    have hgk := getD_get (d := []) hi
    have hlk := hll _ (List.getElem_mem hi)
    rw [hgk] at hlk
    have hz : ∀ x ∈ lots.zipIdx, x.1.length ≤ 10000 := fun x hx => by
      have := hll x.1 (List.mem_of_getElem? (zip_mem hx).2)
      omega
    refine wSetLc (i := 6) (s := .own (((lots.zipIdx.filter fun q => !decide (nI q.2 = nI k) && partM (lots.getD k []) q.1).map fun q => (nI q.1.length, nI q.2)).map eP)) o (LcJ.eqv (wLc (xs := lots.zipIdx) (enc := fun p => .tup [.int (p.2 : Int), tupI p.1]) [("place", 7), ("other", 8)] (ix := [7, 8]) (fun q => !decide (nI q.2 = nI k) && partM (lots.getD k []) q.1) (fun q => .tup [.int (nI q.1.length), .int (nI q.2)]) (fun p δ => (δ.set 7 (some (.d (.int (p.2 : Int))))).set 8 (some (.d (tupI p.1)))) o (by rw [List.length_zipIdx]; omega)
      ((wEnL T.enum (vv 2) (.inr rfl)).eq (enD_map _ _)) (fun s H C cl fp x => wTg2 (o.blk ..)) (fun s H C cl fp x hx => ats_one (aw_and (at_neI (vv 7) (vv 4)) fun _ => aw_and1 (atv (wCallE g2 (o.blk ..) (aa2 (vv 5) (vv 8)) (⟨lots.getD k [], by omega⟩, ⟨x.1, hz x hx⟩)))).pt) (fun s H C cl fp x hx _ => AEq.to (ae_tup (ds := [_, _]) (aa2 (wLen T.len (vv 8) .t) (vv 7)) (by show 2 ≤ 100; decide)) (by rw [List.length_map] <;> rfl))) (own_eq ?_)) ?_
    · rw [List.map_map] <;> rfl
    · refine wApp (i := 3) (wMinOr (i := 6) o T.min) ?_ (ass_nil ⟨_, rfl, ?_⟩)
      · rw [List.length_map, List.length_take]
        omega
      · have e3 : ((aboveL lots).take (k + 1)).map D.int = ((aboveL lots).take k).map D.int ++ [.int (minOr ((lots.zipIdx.filter fun q => !decide (nI q.2 = nI k) && partM (lots.getD k []) q.1).map fun q => (nI q.1.length, nI q.2)))] := by
          have hk : (aboveL lots)[k]? = some (minOr ((lots.zipIdx.filter fun q => !decide (nI q.2 = nI k) && partM (lots.getD k []) q.1).map fun q => (nI q.1.length, nI q.2))) := by
            unfold aboveL
            rw [List.getElem?_map, List.getElem?_zipIdx, List.getElem?_eq_getElem hi, hgk]
            simp
          rw [List.take_add_one, hk, List.map_append] <;> rfl
        rw [e3]
        exact .same (.same (.same (.same (.drop (.drop (.drop (.same (.same .nil))))))))
  · subst h
    rw [enD_len, hL, List.take_of_length_le (by unfold aboveL; rw [List.length_map, List.length_zipIdx]; exact Nat.le_refl _)]
    exact ⟨_, _, _, rfl⟩
  · obtain ⟨a, b, c, rfl⟩ := z
    exact ass_one (wRet (wTup T.tuple (vo 3) (.inr rfl)) rfl)
end
end NR
namespace NR
open PySem PySem.Spec PyProof.Rows L2
section
variable {P : Program} {w : World} {K : PySem.W.Frag} {mg : Str → Option Value} {base : Heap} {W : Wd} {CT CF CC : Addr}
abbrev KhomesIn (P : Program) (w : World) (K : PySem.W.Frag) (mg : Str → Option Value) (base : Heap) (W : Wd) (CT : Addr) := KnD P w K mg base W 2 "homes_in" ["table", "places"] (fun i : PlX => [tbD CT i.1.1, eLL i.1.2]) (fun i => tupI (homesM i.1.1.1.2 i.1.2))
theorem sc_homes_in : FnScope ["table", "places", "sizes", "found", "name", "accepts", "some", "place", "lot"] ["table", "places"] (defScope (top 39)) := ⟨rfl, rfl, rfl, by decide +kernel, rfl, by decide +kernel, by decide +kernel⟩
theorem ok_homes_in (T : Tx mg) (Z : Cz K mg CT CF CC) (d : Df K mg "homes_in" (top 39) ["table", "places"]) (g1 : Ktakers P w K mg base W CT) : KhomesIn P w K mg base W CT := by
  refine kn_ok d sc_homes_in (fun _ => rfl) (fun _ => nomut) fun f cdv A outer s H E o i => ?_
  obtain ⟨⟨tb, pl⟩, h8, hne⟩ := i
  have h8 : pl.length ≤ 8 := h8
  have h12 := tb.tb.t12
  have hne : ∀ lot ∈ pl, lot ≠ [] := hne
  have hne2 : ∀ x ∈ pl.zipIdx, x.1 ≠ [] := fun x hx => hne _ (List.mem_of_getElem? (zip_mem hx).2)
  have hsz : ∀ x ∈ pl.zipIdx, ((plSizes tb.1.2 pl).map D.int)[x.2]? = some (.int ((plSizes tb.1.2 pl).getD x.2 0)) := fun x hx => get_map (by unfold plSizes; rw [List.length_map]; exact (zip_mem hx).1)
  refine wSet (i := 2) (s := .own ((plSizes tb.1.2 pl).map D.int)) o (LcJ.aq (wLcA (xs := pl) (enc := tupI) [("lot", 8)] (ix := [8]) (fun lot => .int (nI (takersM tb.1.2 (lot.headD 0)).length)) (fun lot δ => δ.set 8 (some (.d (tupI lot)))) o (by omega) (ai_tup (vv 1)).toI (fun s H C cl fp x => wName (o.blk ..)) fun s H C cl fp x hx => AEq.to (wLen T.len (wCallE g1 (o.blk ..) (aa2 (vv 0) (wIx 0 (vv 8) ae_int .t (head_get (hne x hx)))) (tb, x.headD 0)) .t) (by rw [List.length_map] <;> rfl)) o (own_eq ?_)) ?_
  · unfold plSizes
    rw [List.map_map] <;> rfl
  refine wSet (i := 3) (s := .own []) o (ae_lst aa_nil (by decide)) ?_
  refine ass_cons (fun δ' => ∃ a b c, δ' = [some (.d (tbD CT tb)), some (.d (eLL pl)), some (.own ((plSizes tb.1.2 pl).map D.int)), some (.own ((homesM tb.1.2 pl).map D.int)), a, b, c, none, none])
    (as_for (I := fun k δ' => δ' = [some (.d (tbD CT tb)), some (.d (eLL pl)), some (.own ((plSizes tb.1.2 pl).map D.int)), some (.own (((homesM tb.1.2 pl).take k).map D.int)), none, none, none, none, none]) (ix := [4, 5]) (fun k δ => (δ.set 4 (some (.d (.str (tb.1.2.getD k ("", [])).1)))).set 5 (some (.d (tupI (tb.1.2.getD k ("", [])).2)))) o (fun _ => rfl) (ai_tup (wFld (vv 0) Z.clT Z.tT)).toS ⟨_, rfl, .refl _⟩ (fun k d hd => ?_) (fun k d δ' hd hI => ?_) (fun δ' h => ?_)) fun δ' z => ?_
  · have hi : k < tb.1.2.length := by
      have := (List.getElem?_eq_some_iff.mp hd).1
      rwa [List.length_map] at this
    rw [get_map (f := eTy) (d := ("", [])) hi] at hd
    cases hd
    exact wTg2 o
  · subst hI
    have hi : k < tb.1.2.length := by
      have := (List.getElem?_eq_some_iff.mp hd).1
      rwa [List.length_map] at this
    have hgk := getD_get (xs := tb.1.2) (d := (("", []) : Ty)) hi
    refine wSetLc (i := 6) (s := .own (((pl.zipIdx.filter fun q => decide (q.1.headD 0 ∈ (tb.1.2.getD k ("", [])).2)).map fun q => ((plSizes tb.1.2 pl).getD q.2 0, nI q.2)).map eP)) o (LcJ.eqv (wLc (xs := pl.zipIdx) (enc := fun p => .tup [.int (p.2 : Int), tupI p.1]) [("place", 7), ("lot", 8)] (ix := [7, 8]) (fun q => decide (q.1.headD 0 ∈ (tb.1.2.getD k ("", [])).2)) (fun q => .tup [.int ((plSizes tb.1.2 pl).getD q.2 0), .int (nI q.2)]) (fun p δ => (δ.set 7 (some (.d (.int (p.2 : Int))))).set 8 (some (.d (tupI p.1)))) o (by rw [List.length_zipIdx]; omega)
      ((wEn T.enum (vv 1) (.inl rfl)).eq (enD_map _ _)) (fun s H C cl fp x => wTg2 (o.blk ..)) (fun s H C cl fp x hx => ats_one (tInI (wIx 0 (vv 8) ae_int .t (head_get (hne2 x hx))) (vv 5) .t)) (fun s H C cl fp x hx _ => ae_tup (ds := [_, _]) (aa2 (wIx x.2 (vo 2) (vv 7) .l (hsz x hx)) (vv 7)) (by show 2 ≤ 100; decide))) (own_eq ?_)) ?_
    · rw [List.map_map] <;> rfl
    · refine wApp (i := 3) (wMinOr (i := 6) o T.min) ?_ (ass_nil ⟨_, rfl, ?_⟩)
      · rw [List.length_map, List.length_take]
        omega
      · have e3 : ((homesM tb.1.2 pl).take (k + 1)).map D.int = ((homesM tb.1.2 pl).take k).map D.int ++ [.int (minOr ((pl.zipIdx.filter fun q => decide (q.1.headD 0 ∈ (tb.1.2.getD k ("", [])).2)).map fun q => ((plSizes tb.1.2 pl).getD q.2 0, nI q.2)))] := by
          have hk : (homesM tb.1.2 pl)[k]? = some (minOr ((pl.zipIdx.filter fun q => decide (q.1.headD 0 ∈ (tb.1.2.getD k ("", [])).2)).map fun q => ((plSizes tb.1.2 pl).getD q.2 0, nI q.2))) := by
            unfold homesM
            rw [List.getElem?_map, List.getElem?_eq_getElem hi, hgk] <;> rfl
          rw [List.take_add_one, hk, List.map_append] <;> rfl
        rw [e3]
        exact .same (.same (.same (.same (.drop (.drop (.drop (.same (.same .nil))))))))
  · subst h
    rw [List.length_map, List.take_of_length_le (by unfold homesM; rw [List.length_map]; exact Nat.le_refl _)]
    exact ⟨_, _, _, rfl⟩
  · obtain ⟨a, b, c, rfl⟩ := z
    exact ass_one (wRet (wTup T.tuple (vo 3) (.inr rfl)) rfl)
abbrev Kcourt (P : Program) (w : World) (K : PySem.W.Frag) (mg : Str → Option Value) (base : Heap) (W : Wd) (CT CF CC : Addr) := KnD P w K mg base W 6 "court" ["table"] (fun i : TbX => [tbD CT i]) (fun i => courtM CF CC i.1.1.length i.1.2)
theorem sc_court : FnScope ["table", "found", "places"] ["table"] (defScope (top 40)) := ⟨rfl, rfl, rfl, by decide +kernel, rfl, by decide +kernel, by decide +kernel⟩
theorem ok_court (T : Tx mg) (Z : Cz K mg CT CF CC) (d : Df K mg "court" (top 40) ["table"]) (g1 : KcrossingsOf P w K mg base W CT CC) (g2 : KplacesOf P w K mg base W CT) (g3 : KaboveOf P w K mg base W CT) (g4 : KhomesIn P w K mg base W CT) (g5 : KForest P w K mg base W CF) : Kcourt P w K mg base W CT CF CC := by
  refine kn_ok d sc_court (fun _ => rfl) (fun _ => nomut) fun f cdv A outer s H E o i => ?_
  have h8 := i.tb.k8
  have hpl : (placesM (allT i.1.1.length i.1.2)).length ≤ 8 := Nat.le_trans (placesM_len _) (by rw [allT_len]; exact h8)
  have hne := placesM_ne (lots := allT i.1.1.length i.1.2)
  refine wSet (i := 1) o (wCallE g1 o (aa1 (vv 0)) i) ?_
  refine ass_ifR (B := (· = !((crossingsM i.1.1.length i.1.2).map (eCr CC)).isEmpty)) (at_neET o (vv 1) (ae_tup (ds := []) aa_nil (by decide))) (fun h => ?_) fun h => ?_
  · cases hc : crossingsM i.1.1.length i.1.2 with
    | nil =>
      rw [hc] at h
      cases h
    | cons c cs =>
      refine ass_one (wRet (wIx (d := eCr CC c) 0 (vv 1) ae_int .t ?_) ?_)
      · show ((crossingsM i.1.1.length i.1.2).map (eCr CC))[0]? = _
        rw [hc] <;> rfl
      · show S.d _ = S.d (courtM CF CC i.1.1.length i.1.2)
        unfold courtM
        rw [hc]
  · have hc : crossingsM i.1.1.length i.1.2 = [] := by
      rw [List.isEmpty_map] at h
      cases hc : crossingsM i.1.1.length i.1.2 with
      | nil => rfl
      | cons c cs =>
        rw [hc] at h
        cases h
    refine wSet (i := 2) o (wCallE g2 o (aa1 (vv 0)) i) ?_
    refine ass_one (wRet (wMake g5 o (aa3 (vv 2) (wCallE g3 o (aa2 (vv 0) (vv 2)) ⟨(i, placesM (allT i.1.1.length i.1.2)), hpl, hne⟩) (wCallE g4 o (aa2 (vv 0) (vv 2)) ⟨(i, placesM (allT i.1.1.length i.1.2)), hpl, hne⟩)) (forestM i.1.1.length i.1.2)) ?_)
    show S.d _ = S.d (courtM CF CC i.1.1.length i.1.2)
    unfold courtM
    rw [hc] <;> rfl
abbrev Knest (P : Program) (w : World) (K : PySem.W.Frag) (mg : Str → Option Value) (base : Heap) (W : Wd) := KnD P w K mg base W 2 "are_nested_or_apart" ["one", "other"] (fun i : LI × LI => [tupI i.1.1, tupI i.2.1]) (fun i => .bl (nestM i.1.1 i.2.1))
theorem sc_nest : FnScope ["one", "other", "item"] ["one", "other"] (defScope (top 41)) := ⟨rfl, rfl, rfl, by decide +kernel, rfl, by decide +kernel, by decide +kernel⟩
theorem ok_nest (T : Tx mg) (d : Df K mg "are_nested_or_apart" (top 41) ["one", "other"]) (g1 : KisPart P w K mg base W) : Knest P w K mg base W := by
  refine kn_ok d sc_nest (fun _ => rfl) (fun _ => nomut) fun f cdv A outer s H E o i => ?_
  obtain ⟨one, other⟩ := i
  refine ass_one (wRet (ae_or (wCallE g1 o (aa2 (vv 0) (vv 1)) (one, other)) fun _ => ae_or (wCallE g1 o (aa2 (vv 1) (vv 0)) (other, one)) fun _ => ae_one (ae_not (wAny o T.any (wLcB (xs := one.1) (enc := D.int) [("item", 2)] (fun x => decide (x ∈ other.1)) (fun x δ => δ.set 2 (some (.d (.int x)))) o (Nat.le_trans one.2 (by decide)) (ai_tup (vv 0)).toI (fun s H C cl fp x => wName (o.blk ..)) fun s H C cl fp x _ => wInI (vv 2) (vv 1) .t) (.inl rfl)))) ?_)
  show S.d (.bl _) = S.d (.bl (nestM one.1 other.1))
  unfold nestM
  rw [List.any_map] <;> rfl
abbrev KisForest (P : Program) (w : World) (K : PySem.W.Frag) (mg : Str → Option Value) (base : Heap) (W : Wd) (CT : Addr) := KnD P w K mg base W 3 "is_forest" ["table"] (fun i : TbX => [tbD CT i]) (fun i => .bl (isForestM i.1.1.length i.1.2))
theorem sc_is_forest : FnScope ["table", "lots", "one", "other"] ["table"] (defScope (top 42)) := ⟨rfl, rfl, rfl, by decide +kernel, rfl, by decide +kernel, by decide +kernel⟩
theorem allT_short (i : TbX) : ∀ x ∈ allT i.1.1.length i.1.2, x.length ≤ 12 := fun x hx => by
  unfold allT at hx
  obtain ⟨k, _, rfl⟩ := List.mem_map.mp hx
  exact takers12 i _
theorem ok_is_forest (T : Tx mg) (d : Df K mg "is_forest" (top 42) ["table"]) (g1 : KallTakers P w K mg base W CT) (g2 : Knest P w K mg base W) : KisForest P w K mg base W CT := by
  refine kn_ok d sc_is_forest (fun _ => rfl) (fun _ => nomut) fun f cdv A outer s H E o i => ?_
  have h8 := i.tb.k8
  have hs : ∀ x ∈ allT i.1.1.length i.1.2, x.length ≤ 10000 := fun x hx => Nat.le_trans (allT_short i x hx) (by decide)
  have hal : (allT i.1.1.length i.1.2).length ≤ 8 := by rw [allT_len]; exact h8
  refine wSet (i := 1) o (wCallE g1 o (aa1 (vv 0)) i) ?_
  refine ass_one (wRet (wAll (bs := (allT i.1.1.length i.1.2).flatMap fun one => (allT i.1.1.length i.1.2).map fun other => nestM one other) o T.all (AEq.to (ae_lc2 (xs := allT i.1.1.length i.1.2) (enc := tupI) (fun _ => allT i.1.1.length i.1.2) (encb := tupI) (own := [("one", 2), ("other", 3)]) (ix := [2]) (jx := [3]) (vs1 := [3]) (fun _ _ => true) (fun x y => .bl (nestM x y)) (fun x δ => δ.set 2 (some (.d (tupI x)))) (fun x δ => δ.set 3 (some (.d (tupI x)))) o (blkOk_by (by kernel_rfl)) (by decide) (by decide) (by decide)
    (Nat.le_trans (flat_len (c := 8) fun _ _ => hal) (Nat.le_trans (Nat.mul_le_mul hal (Nat.le_refl _)) (by decide))) (fun _ => rfl) (fun _ _ => rfl) (ai_isT (vv 1) (.inr rfl)).toI (fun s H C cl fp x => wName (o.blk ..)) (fun s H C cl fp x hx => ai_isT (vv 1) (.inr rfl)) (fun s H C cl fp x => wName (o.blk ..)) (fun s H C cl fp x y _ _ => ats_nil)
    (fun s H C cl fp x y hx hy _ => wCallE g2 (o.blk ..) (aa2 (vv 2) (vv 3)) (⟨x, hs x hx⟩, ⟨y, hs y hy⟩))) (own_eq ?_)) (.inl rfl)) ?_)
  · rw [List.map_flatMap]
    congr 1
    funext x
    rw [List.filter_eq_self.mpr fun _ _ => rfl, List.map_map] <;> rfl
  · show S.d (.bl _) = S.d (.bl (isForestM i.1.1.length i.1.2))
    unfold isForestM
    rw [List.all_flatMap]
    congr 2
    congr 1
    funext x
    rw [List.all_map] <;> rfl
abbrev CrX := List Int × Int × Int × Int
def dayD (n : Nat) (c : CrX) : D := .tup [tupI (stockM n c.1), .tup [tupI [c.2.1, c.2.2.1], tupI [c.2.1, c.2.2.2]]]
abbrev KcrossingDay (P : Program) (w : World) (K : PySem.W.Frag) (mg : Str → Option Value) (base : Heap) (W : Wd) (CT CC : Addr) := KnD P w K mg base W 1 "crossing_day" ["table", "crossing"] (fun i : TbX × CrX => [tbD CT i.1, eCr CC (i.2.1, [i.2.2.1, i.2.2.2.1, i.2.2.2.2])]) (fun i => dayD i.1.1.1.length i.2)
theorem sc_crossing_day : FnScope ["table", "crossing", "first", "one", "other", "stock", "kind"] ["table", "crossing"] (defScope (top 44)) := ⟨rfl, rfl, rfl, by decide +kernel, rfl, by decide +kernel, by decide +kernel⟩
theorem ok_crossing_day (T : Tx mg) (Z : Cz K mg CT CF CC) (d : Df K mg "crossing_day" (top 44) ["table", "crossing"]) : KcrossingDay P w K mg base W CT CC := by
  refine kn_ok d sc_crossing_day (fun _ => rfl) (fun _ => nomut) fun f cdv A outer s H E o i => ?_
  obtain ⟨tb, ks, f1, m1, y1⟩ := i
  have h8 := tb.tb.k8
  have hl : (tb.1.1.map D.str).length = tb.1.1.length := List.length_map ..
  refine wUn (ix := [2, 3, 4]) (wFld (d := tupI [f1, m1, y1]) (vv 1) Z.clC Z.cT) (wTg3 o) ?_
  refine wSet (i := 5) (s := .d (tupI (stockM tb.1.1.length ks))) o (wTupP T.tuple (LcJ.aq (wLcA (xs := List.range tb.1.1.length) (enc := fun k : Nat => .int (k : Int)) [("kind", 6)] (ix := [6]) (fun k => .int (if decide (nI k ∈ ks) = true then 1 else 0)) (fun k δ => δ.set 6 (some (.d (.int (k : Int))))) o (by rw [List.length_range]; omega)
    ((wR1 T.range (wLen T.len (wFld (vv 0) Z.clT Z.tK) .t) (by omega) (by rw [hl])).toI) (fun s H C cl fp x => wName (o.blk ..)) (fun s H C cl fp x hx => wT call_int1 PyProof.Rows.boot_int T.int (aa1 (wInI (vv 6) (wFld (d := tupI ks) (vv 1) Z.clC Z.cK) .t)) cd_intB)) o (own_eq ?_))) ?_
  · unfold stockM
    rw [List.map_map]
    congr 1
    funext k
    show D.int _ = D.int _
    congr 1
    by_cases q : nI k ∈ ks <;> simp [q]
  · exact ass_one (wRet (ae_tup (ds := [_, _]) (aa2 (vv 5) (ae_tup (ds := [tupI [f1, m1], tupI [f1, y1]]) (aa2 (ae_tup (ds := [.int f1, .int m1]) (aa2 (vv 2) (vv 3)) (by show 2 ≤ 100; decide)) (ae_tup (ds := [.int f1, .int y1]) (aa2 (vv 2) (vv 4)) (by show 2 ≤ 100; decide))) (by show 2 ≤ 100; decide))) (by show 2 ≤ 100; decide)) rfl)
end
end NR
namespace NR
open PySem PySem.Spec PyProof.Rows L2
section
variable {X : Cx} {W : Wd} {e a b c elt tg iter : Expr} {es ifs : List Expr} {δ : Env} {pos : Pos} {st : Stmt} {rest body : List Stmt} {p q : Post} {P P1 P2 P3 : S → Prop} {A A1 : List S → Prop}
/-! xs + ys of lists that are read -/
def rCatS2 (K : PySem.W.Frag) : R2 := fun x y H Q => ∃ l b xs zs, x = .ref l ∧ y = .ref b ∧ SqL K H l xs ∧ SqL K H b zs ∧ xs.length + zs.length ≤ sizeLine ∧ ∀ p, H p = none → Q (.ref p) (upd H p (.lst (xs ++ zs)))
theorem op_catS : OpR X (binaryOp .Add) (rCatS2 X.K) := by
  intro pins s σ H x y v u Q I rx ry h
  obtain ⟨l, b, xs, zs, rfl, rfl, hH, hB, hz, q⟩ := h
  cases rx
  cases ry
  obtain ⟨its, r, pl, hz1⟩ := I.list hH
  obtain ⟨its2, r2, pl2, hz2⟩ := I.list hB
  have h1 := r.length
  have h2 := r2.length
  obtain ⟨⟨cls, dd, data, sl⟩, n, ho, hc, hdd, hd⟩ := pl
  obtain ⟨⟨cls2, dd2, data2, sl2⟩, n2, ho2, hc2, hdd2, hd2⟩ := pl2
  simp only at hc hd hc2 hd2
  subst hc hd hc2 hd2
  have ea : its.toArray ++ its2.toArray = (its ++ its2).toArray := by simp
  refine concat_meets ⟨_, ho, rfl⟩ ⟨_, ho2, rfl⟩ noFill_list_add seq_list_add PySem.F.slot_list_add PySem.F.entry_list_add (PySem.F.args_list_add_2 _ _) (list_addW l b its.toArray its2.toArray n n2 dd dd2 sl sl2 (by rw [List.size_toArray, List.size_toArray]; omega)) ⟨ho, ho2, ?_⟩
  rw [ea]
  exact ⟨.ref _, _, I.lnew (t' := s.toks) (r.append r2) (by rw [List.length_append]; omega), rfl, q _ I.fresh⟩
theorem ae_addL {ds es' : List D} {s1 s2 : S} (ha : AEq X W a δ s1) (hb : AEq X W b δ s2) (h1 : s1 = .own ds ∨ s1 = .l ds) (h2 : s2 = .own es' ∨ s2 = .l es') (hl : ds.length + es'.length ≤ 1000000) : AEq X W (.BinOp a .Add b pos) δ (.own (ds ++ es')) :=
  ae_op op_catS ha hb fun x y H Q j r1 r2 q => by
    obtain ⟨p, vs, rfl, e2, e3⟩ := lst_of h1 r1
    obtain ⟨p', us, rfl, f2, f3⟩ := lst_of h2 r2
    refine ⟨p, p', vs, us, rfl, rfl, e2, f2, by rw [e3.len, f3.len]; exact Nat.le_trans hl (by decide), fun t ht => ?_⟩
    obtain ⟨f, r⟩ := rs_lst (W := W) j ht (e3.app f3)
    exact q _ _ _ f r rfl
/-- a list of one's own, only to be read -/
theorem AEq.l {ds : List D} (h : AEq X W e δ (.own ds)) : AEq X W e δ (.l ds) := pe_weak h fun σ H Q ⟨q1, q2⟩ => ⟨q1, fun s v H1 f r z => by
  subst z
  exact q2 (.l ds) v H1 f ⟨r.1.toL, fun m => m.elim⟩ rfl⟩
theorem AE.lG (h : AE X W e δ P1) (k : ∀ s, P1 s → ∃ ds, s = .own ds ∧ P (.l ds)) : AE X W e δ P := pe_weak h fun σ H Q ⟨q1, q2⟩ => ⟨q1, fun s v H1 f r z => by
  obtain ⟨ds, rfl, hp⟩ := k s z
  exact q2 (.l ds) v H1 f ⟨r.1.toL, fun m => m.elim⟩ hp⟩
/-- a call whose arguments are not all known -/
theorem wCallG {k j : Nat} {x : Str} {ps : List Str} {ι : Type} {args : ι → List S} {post : ι → S → Prop} {pn : Pos} (G : Kn X.prog X.w X.K X.mg X.base W k x ps args post) (o : Cok j X) (ha : AA X W (e :: es) δ A) (h : ∀ ss, A ss → ∃ i, ss = args i ∧ ∀ s, post i s → P s) (hk : k ≤ j := by decide) (hg : Gl X x := by rfl)
    (hd : (x == ("__debug__" : Str)) = false := by decide) (he : starEach (e :: es) X.env = (false, eval e X.env) :: starEach es X.env := by rfl) (hp : (backTo pos (starEach es X.env)).any (·.1) = false := by rfl) : AE X W (.Call (.Name x pn) (e :: es) [] pos) δ P := by
  obtain ⟨f, fd, F, m, kp, bb⟩ := G
  exact ae_callG F o hk hg m kp bb ha h hd he hp
theorem ag1 (h1 : AE X W a δ P1) (hs : starEach [a] X.env = (false, eval a X.env) :: starEach [] X.env := by rfl) : AA X W [a] δ (fun ss => ∃ s, P1 s ∧ ss = [s]) := aa_consG h1 aa_nil hs fun s ss z1 z2 => ⟨s, z1, by rw [z2]⟩
theorem ag2 (h1 : AE X W a δ P1) (h2 : AE X W b δ P2) (hs : starEach [a, b] X.env = (false, eval a X.env) :: starEach [b] X.env := by rfl) (hs2 : starEach [b] X.env = (false, eval b X.env) :: starEach [] X.env := by rfl) : AA X W [a, b] δ (fun ss => ∃ s t, P1 s ∧ P2 t ∧ ss = [s, t]) :=
  aa_consG h1 (ag1 h2 hs2) hs fun s ss z1 ⟨t, z2, e⟩ => ⟨s, t, z1, z2, by rw [e]⟩
theorem ag3 (h1 : AE X W a δ P1) (h2 : AE X W b δ P2) (h3 : AE X W c δ P3) (hs : starEach [a, b, c] X.env = (false, eval a X.env) :: starEach [b, c] X.env := by rfl) (hs2 : starEach [b, c] X.env = (false, eval b X.env) :: starEach [c] X.env := by rfl) (hs3 : starEach [c] X.env = (false, eval c X.env) :: starEach [] X.env := by rfl) :
    AA X W [a, b, c] δ (fun ss => ∃ s t u, P1 s ∧ P2 t ∧ P3 u ∧ ss = [s, t, u]) :=
  aa_consG h1 (ag2 h2 h3 hs2 hs3) hs fun s ss z1 ⟨t, u, z2, z3, e⟩ => ⟨s, t, u, z1, z2, z3, by rw [e]⟩
end
/-! the law's heap -/
structure HS (oa ia : Addr) (ns : List Int) (st : Int) (H : Hp) : Prop where
  h1 : H ia = some (.lst (ns.map V.int))
  h2 : H oa = some (.lst [.ref ia, .int st])
  ln : ns.length ≤ 1000
def WH (oa ia : Addr) : Wd where
  bd := fun b => b = oa ∨ b = ia
  hv := .ref oa
  J := fun H => ∃ ns st, HS oa ia ns st H
  jm := fun H H' h ⟨ns, st, h1, h2, l⟩ => ⟨ns, st, by rw [h ia (.inr rfl)]; exact h1, by rw [h oa (.inl rfl)]; exact h2, l⟩
  al := fun H b ⟨ns, st, h1, h2, _⟩ hb => by
    rcases hb with rfl | rfl
    · exact ⟨_, h2⟩
    · exact ⟨_, h1⟩
section
variable {oa ia : Addr} {ns ms : List Int} {st st' : Int} {H H1 H2 : Hp}
theorem HS.ne (h : HS oa ia ns st H) : oa ≠ ia := fun e => by
  obtain ⟨h1, h2, _⟩ := h
  rw [e, h1] at h2
  cases ns with
  | nil => cases h2
  | cons x xs => cases h2
/-- what stands outside stays -/
def Out (oa ia : Addr) (H H' : Hp) : Prop := ∀ b o, ¬ (b = oa ∨ b = ia) → H b = some o → H' b = some o
theorem Out.refl (H : Hp) : Out oa ia H H := fun _ _ _ h => h
theorem Out.trans (a : Out oa ia H H1) (b : Out oa ia H1 H2) : Out oa ia H H2 := fun c o n h => b c o n (a c o n h)
theorem Out.fr (a : Out oa ia H H1) (h : HS oa ia ns st H1) : Fr (WH oa ia) H H1 := ⟨a, ns, st, h⟩
theorem HS.out_new {p : Addr} {o : HO} (hp : H p = none) : Out oa ia H (upd H p o) := fun b u _ e => by
  rw [upd_ne (ne_of_none e hp)]
  exact e
theorem HS.new {p : Addr} {o : HO} (h : HS oa ia ns st H) (hp : H p = none) : HS oa ia ns st (upd H p o) := ⟨by rw [upd_ne (ne_of_none h.h1 hp)]; exact h.h1, by rw [upd_ne (ne_of_none h.h2 hp)]; exact h.h2, h.ln⟩
theorem HS.inner (h : HS oa ia ns st H) (l : ms.length ≤ 1000) : HS oa ia ms st (upd H ia (.lst (ms.map V.int))) ∧ Out oa ia H (upd H ia (.lst (ms.map V.int))) := ⟨⟨upd_same, by rw [upd_ne h.ne]; exact h.h2, l⟩, fun b o n e => by rw [upd_ne (fun z => n (.inr z))]; exact e⟩
theorem HS.outer (h : HS oa ia ns st H) : HS oa ia ns st' (upd H oa (.lst [.ref ia, .int st'])) ∧ Out oa ia H (upd H oa (.lst [.ref ia, .int st'])) := ⟨⟨by rw [upd_ne (Ne.symm h.ne)]; exact h.h1, upd_same, h.ln⟩, fun b o n e => by rw [upd_ne (fun z => n (.inl z))]; exact e⟩
end
end NR
namespace NR
open PySem PySem.Spec PyProof.Rows L2
section
variable {X : Cx} {pos : Pos}
theorem pv (i : Nat) {x : Str} (hN : X.N[i]? = some x := by rfl) (hv : Vis X.env.scope x := by first | exact Or.inl rfl | exact Or.inr (Or.inl rfl) | exact Or.inr (Or.inr rfl)) (hd : (x == ("__debug__" : Str)) = false := by decide) (hc : (x == ("__classdict__" : Str)) = false := by decide) : PE X (.Name x pos) (tVar i) := pe_var hN hv hd hc
end
section
variable {K : PySem.W.Frag} {oa ia : Addr}
/-! readings on the law's heap -/
theorem rdH {σ : L2.St} {H : Hp} {ns : List Int} {st : Int} {Q : VK} (e : σ[0]? = some (some (V.ref oa))) (h : HS oa ia ns st H) (q : Q (.ref ia) H) : tOp (rIxL K) (tVar 0) (tC (.int 0)) σ H Q := ⟨_, e, oa, _, 0, .ref ia, rfl, rfl, SqL.of h.h2, rfl, q⟩
theorem rdH1 {σ : L2.St} {H : Hp} {ns : List Int} {st : Int} {Q : VK} (e : σ[0]? = some (some (V.ref oa))) (h : HS oa ia ns st H) (q : Q (.int st) H) : tOp (rIxL K) (tVar 0) (tC (.int 1)) σ H Q := ⟨_, e, oa, _, 1, .int st, rfl, rfl, SqL.of h.h2, rfl, q⟩
theorem neH {σ : L2.St} {H : Hp} {ns : List Int} {st : Int} {Q : Bool → Hp → Prop} (e : σ[0]? = some (some (V.ref oa))) (h : HS oa ia ns st H) (q : ∀ H', HS oa ia ns st H' → Out oa ia H H' → Q (!ns.isEmpty) H') :
    tTest (tOp (rEqE K true) (tOp (rIxL K) (tVar 0) (tC (.int 0))) (tLst tNil)) σ H Q := rdH e h ⟨by show 0 ≤ sizeLine; decide, fun p hp => ⟨ia, p, ns.map V.int, [], rfl, rfl, .inr ⟨SqL.of (h.new hp).h1, SqL.of upd_same⟩, rfl, _, rfl, by
  show Q (!(ns.map V.int).isEmpty) _
  rw [List.isEmpty_map]
  exact q _ (h.new hp) (HS.out_new hp)⟩⟩
theorem popH {σ : L2.St} {H : Hp} {init : List Int} {last st : Int} {Q : VK} (e : σ[0]? = some (some (V.ref oa))) (h : HS oa ia (init ++ [last]) st H) (q : ∀ H', HS oa ia init st H' → Out oa ia H H' → Q (.int last) H') : tBM0 K "list" rPop (tOp (rIxL K) (tVar 0) (tC (.int 0))) σ H Q :=
  rdH e h ⟨.inl ⟨rfl, _, SqL.of h.h1⟩, ia, _, .int last, rfl, rfl, h.h1, by simp, by
    have z := h.inner (ms := init) (by have := h.ln; simp at this; omega)
    have e2 : ((init ++ [last]).map V.int).dropLast = init.map V.int := by simp
    rw [e2]
    exact q _ z.1 z.2⟩
end
section
variable {P : Program} {w : World} {K : PySem.W.Frag} {mg : Str → Option Value} {base : Heap} {oa ia : Addr}
abbrev DrX := {m : Int // 0 < m ∧ m < 1000000}
abbrev Kdraw (P : Program) (w : World) (K : PySem.W.Frag) (mg : Str → Option Value) (base : Heap) (oa ia : Addr) := Kn P w K mg base (WH oa ia) 1 "_law_draw" ["_law_heap_here", "_law_many"] (fun i : DrX => [.hp, .d (.int i.1)]) (fun i s => ∃ r, (0 ≤ r ∧ r < i.1) ∧ s = .d (.int r))
theorem sc_draw : FnScope ["_law_heap_here", "_law_many", "_law_rest"] ["_law_heap_here", "_law_many"] (defScope (top 47)) := ⟨rfl, rfl, rfl, by decide +kernel, rfl, by decide +kernel, by decide +kernel⟩
theorem ok_draw (T : Tx mg) (d : Df K mg "_law_draw" (top 47) ["_law_heap_here", "_law_many"]) : Kdraw P w K mg base oa ia := by
  refine kn_ok d sc_draw (fun _ => rfl) (fun i s h => by simp at h; rcases h with rfl | rfl <;> exact id) fun f cdv A outer s H E o i => ?_
  obtain ⟨m, hm0, hm1⟩ := i
  have hmn : m ≠ 0 := by omega
  refine ass_cons (fun δ' => δ' = [some .hp, some (.d (.int m)), none]) (ps_weak (ps_while o.own (PW.pt (pw_and (pt_cmpR (op_neE o.hu) (pe_ix ix_list (pv 0) pe_int (fun _ _ => rfl)) (pe_lst pa_nil) (nb (by decide) (by decide))) (pw_and1 (pt_cmpR op_eq (pe_ix ix_list (pe_ix ix_list (pv 0) pe_int (fun _ _ => rfl)) (pe_un un_neg pe_int) (fun _ _ => rfl)) pe_int (nb (by decide) (by decide))))))
      (pss_one (ps_expr (pe_bm0 PySem.F.plainAttrs_list PySem.F.slot_list_pop PySem.F.type_list_pop mt_pop (pe_ix ix_list (pv 0) pe_int (fun _ _ => rfl)))))) fun D σ H ⟨B, q1, q2⟩ => ?_) fun δ' e => ?_
  · obtain ⟨v0, e0, h0⟩ := q1.at_ 0 _ rfl
    have h0 : v0 = .ref oa := h0
    subst h0
    obtain ⟨ns, st, hHS⟩ := q1.j
    refine ⟨fun k σ' H' => σ' = σ ∧ ∃ ns', ns'.length = k ∧ HS oa ia ns' st H' ∧ Out oa ia H H', ⟨ns.length, rfl, ns, rfl, hHS, .refl _⟩, ?_⟩
    rintro k σ' H1 ⟨rfl, ns', rfl, h1, out1⟩
    have fin : ∀ ns' H', HS oa ia ns' st H' → Out oa ia H H' → D.nx σ' H' := fun ns' H' h out => q2.nx B _ _ H' (.refl B) ((out.fr h).ext q1.j) rfl (q1.fr (out.fr h))
    refine neH e0 h1 fun H2 h2 out2 => ?_
    rcases List.eq_nil_or_concat ns' with rfl | ⟨init, last, rfl⟩ <;> (try rw [List.concat_eq_append] at *)
    · exact fin _ _ h2 (out1.trans out2)
    · rw [if_pos (by simp)]
      refine rdH e0 h2 ⟨1, rfl, ia, _, -1, .int last, rfl, rfl, SqL.of h2.h1, ?_, rfl, ?_⟩
      · rw [List.map_append]
        exact atI_last _ _
      · refine ⟨_, rfl, ?_⟩
        by_cases hz : last = 0
        · rw [show decide (V.int last = V.int 0) = true by simp [hz]]
          exact ⟨fun σ'' H'' => σ'' = σ' ∧ HS oa ia init st H'' ∧ Out oa ia H H'', fun σ'' H'' ⟨z1, z2, z3⟩ => ⟨init.length, by simp, z1, init, rfl, z2, z3⟩, popH e0 h2 fun H3 h3 out3 => ⟨rfl, h3, (out1.trans out2).trans out3⟩⟩
        · rw [show decide (V.int last = V.int 0) = false by simp [hz]]
          exact fin _ _ h2 (out1.trans out2)
  subst e
  refine ass_cons (fun δ' => δ' = [some .hp, some (.d (.int m)), none]) (ps_weak (ps_if (pt_cmpR (op_neE o.hu) (pe_ix ix_list (pv 0) pe_int (fun _ _ => rfl)) (pe_lst pa_nil) (nb (by decide) (by decide)))
        (pss_cons (ps_asg (pe_bm0 PySem.F.plainAttrs_list PySem.F.slot_list_pop PySem.F.type_list_pop mt_pop (pe_ix ix_list (pv 0) pe_int (fun _ _ => rfl))) (pg_name (i := 2) o.nd rfl (Or.inl rfl)))
          (pss_cons (ps_expr (pe_bm PySem.F.plainAttrs_list PySem.F.slot_list_append PySem.F.type_list_append mt_append (pe_ix ix_list (pv 0) pe_int (fun _ _ => rfl)) (pa_cons (pe_op op_fdiv (pv 2) (pv 1)) pa_nil)))
            (pss_one (ps_ret (pe_op op_mod (pe_callTy call_int1 (by rfl) T.int PyProof.Rows.boot_int (pa_cons (pv 2) pa_nil)) (pv 1))))))
        pss_nil) fun D σ H ⟨B, q1, q2⟩ => ?_) fun δ' e => ?_
  · obtain ⟨v0, e0, h0⟩ := q1.at_ 0 _ rfl
    obtain ⟨v1, e1, h1⟩ := q1.at_ 1 _ rfl
    have h0 : v0 = .ref oa := h0
    have h1 : v1 = .int m := sv_int (W := WH oa ia) h1
    subst h0 h1
    obtain ⟨ns, st, hHS⟩ := q1.j
    refine neH e0 hHS fun H2 h2 out2 => ?_
    rcases List.eq_nil_or_concat ns with rfl | ⟨init, last, rfl⟩ <;> (try rw [List.concat_eq_append] at *)
    · exact q2.nx B _ _ H2 (.refl B) ((out2.fr h2).ext q1.j) rfl (q1.fr (out2.fr h2))
    · rw [if_pos (by simp)]
      have l3 : σ.length = 3 := q1.len
      have s0 : (σ.set 2 (some (V.int last)))[0]? = some (some (V.ref oa)) := by rw [List.getElem?_set_ne (by decide)]; exact e0
      have s1 : (σ.set 2 (some (V.int last)))[1]? = some (some (V.int m)) := by rw [List.getElem?_set_ne (by decide)]; exact e1
      have s2 : (σ.set 2 (some (V.int last)))[2]? = some (some (V.int last)) := List.getElem?_set_self (by omega)
      refine popH e0 h2 fun H3 h3 out3 => ?_
      refine rdH s0 h3 ⟨.inl ⟨rfl, _, SqL.of h3.h1⟩, _, s2, _, s1, last, m, rfl, rfl, ⟨hm0, by omega⟩, ia, _, .int (last / m), rfl, rfl, h3.h1, ?_, ?_⟩
      · rw [List.length_map]
        have := h3.ln
        exact Nat.lt_of_le_of_lt this (by decide)
      · have h4 := h3.inner (ms := init ++ [last / m]) (by have := h2.ln; simp at this ⊢; omega)
        have e4 : (init ++ [last / m]).map V.int = init.map V.int ++ [V.int (last / m)] := by simp
        rw [e4] at h4
        refine ⟨_, s2, .inl ⟨last, rfl, _, s1, last, m, rfl, rfl, hm0, ?_⟩⟩
        have out4 := ((out2.trans out3).trans h4.2)
        exact q2.rt B (.d (.int (last % m))) _ _ (.refl B) ((out4.fr h4.1).ext q1.j) ⟨last % m, ⟨Int.emod_nonneg _ hmn, Int.emod_lt_of_pos _ hm0⟩, rfl⟩ ⟨⟨_, _, h4.1⟩, q1.sub.fr (out4.fr h4.1), show Rp _ _ _ _ from rp_int⟩
  subst e
  refine ass_cons (fun δ' => δ' = [some .hp, some (.d (.int m)), none]) (ps_weak (ps_asg (pe_op op_mod (pe_callTy call_int1 (by rfl) T.int PyProof.Rows.boot_int (pa_cons (pe_op op_add (pe_op op_mul (pe_ix ix_list (pv 0) pe_int (fun _ _ => rfl)) pe_int) pe_int) pa_nil)) pe_int) (pg_sub (pv 0) pe_int set_list)) fun D σ H ⟨B, q1, q2⟩ => ?_) fun δ' e => ?_
  · obtain ⟨v0, e0, h0⟩ := q1.at_ 0 _ rfl
    have h0 : v0 = .ref oa := h0
    subst h0
    obtain ⟨ns, st, hHS⟩ := q1.j
    refine rdH1 e0 hHS ⟨st, 48271, rfl, rfl, .inr (by decide), _, 17, rfl, rfl, .inl ⟨_, rfl, _, 2147483647, rfl, rfl, (by show (0 : Int) < 2147483647; decide), ?_⟩⟩
    refine ⟨_, e0, oa, _, 1, 1, rfl, rfl, hHS.h2, rfl, ?_⟩
    have h2 := hHS.outer (st' := (st * 48271 + 17) % 2147483647)
    exact q2.nx B _ _ _ (.refl B) ((h2.2.fr h2.1).ext q1.j) rfl (q1.fr (h2.2.fr h2.1))
  subst e
  refine ass_one (ps_weak (ps_ret (pe_op op_mod (pe_callTy call_int1 (by rfl) T.int PyProof.Rows.boot_int (pa_cons (pe_op op_fdiv (pe_ix ix_list (pv 0) pe_int (fun _ _ => rfl)) pe_int) pa_nil)) (pv 1))) fun D σ H ⟨B, q1, q2⟩ => ?_)
  obtain ⟨v0, e0, h0⟩ := q1.at_ 0 _ rfl
  obtain ⟨v1, e1, h1⟩ := q1.at_ 1 _ rfl
  have h0 : v0 = .ref oa := h0
  have h1 : v1 = .int m := sv_int (W := WH oa ia) h1
  subst h0 h1
  obtain ⟨ns, st, hHS⟩ := q1.j
  refine rdH1 e0 hHS ⟨st, 32, rfl, rfl, ⟨by decide, by decide⟩, .inl ⟨_, rfl, _, e1, _, m, rfl, rfl, hm0, ?_⟩⟩
  exact q2.rt B (.d (.int (st / 32 % m))) _ _ (.refl B) (.refl H) ⟨_, ⟨Int.emod_nonneg _ hmn, Int.emod_lt_of_pos _ hm0⟩, rfl⟩ ⟨q1.j, q1.sub, show Rp _ _ _ _ from rp_int⟩
end
end NR
namespace NR
open PySem PySem.Spec PyProof.Rows L2
abbrev frontsS : List Str := ["", "", "b", "zz", "mnopqrs"]
def nameAt (fr : Str) (fi : Int) (at0 : Nat) : Str := fr ++ ⟨#[97 + ((fi + 7 * (at0 : Int)) % 26).toNat]⟩
theorem letters_get : ∀ j < 26, lettersS.cps.toList[j]? = some (97 + j) := by decide +kernel
theorem name_ok1 : ∀ fr ∈ frontsS, ∀ j < 26, nameOk (fr ++ ⟨#[97 + j]⟩) = true := by decide +kernel
theorem name_ok2 : ∀ fr ∈ frontsS, ∀ j < 26, Str.length (fr ++ ⟨#[97 + j]⟩) < 8 → nameOk ((fr ++ ⟨#[97 + j]⟩) ++ ("o" : Str)) = true := by decide +kernel
theorem name_len : ∀ fr ∈ frontsS, ∀ j < 26, Str.length (fr ++ ⟨#[97 + j]⟩) ≤ 8 := by decide +kernel
theorem fronts_len : ∀ fr ∈ frontsS, fr.length ≤ 7 := by decide +kernel
theorem cps_app (a b : Str) : (a ++ b).cps.toList = a.cps.toList ++ b.cps.toList := Array.toList_append
theorem str_app_inj {a b c : Str} (h : a ++ b = a ++ c) : b.cps.toList = c.cps.toList := by
  have := congrArg (fun s : Str => s.cps.toList) h
  simp only [cps_app] at this
  exact List.append_cancel_left this
theorem mod_lt (fi : Int) (i : Nat) : ((fi + 7 * (i : Int)) % 26).toNat < 26 := by omega
theorem nameAt_inj {fr : Str} {fi : Int} {i j : Nat} (hi : i < 26) (hj : j < 26) (h : nameAt fr fi i = nameAt fr fi j) : i = j := by
  have := str_app_inj h
  simp at this
  omega
theorem nameAt_inj2 {fr : Str} {fi : Int} {i j : Nat} (h : nameAt fr fi i = nameAt fr fi j ++ ("o" : Str)) : False := by
  have := congrArg (fun s : Str => s.cps.toList.length) h
  simp only [nameAt, cps_app, List.length_append] at this
  have e : ("o" : Str).cps.toList.length = 1 := by decide +kernel
  rw [e] at this
  simp at this
def namesAt (fr : Str) (fi : Int) (n : Nat) : List Str := (List.range n).map (nameAt fr fi)
theorem namesAt_get {fr : Str} {fi : Int} {n i : Nat} {s : Str} (h : (namesAt fr fi n)[i]? = some s) : i < n ∧ s = nameAt fr fi i := by
  unfold namesAt at h
  rw [List.getElem?_map] at h
  by_cases q : i < n
  · rw [List.getElem?_range q] at h
    simp at h
    exact ⟨q, h.symm⟩
  · rw [List.getElem?_eq_none (by rw [List.length_range]; omega)] at h
    cases h
structure NmOk (n : Nat) (ns : List Str) : Prop where
  len : ns.length = n
  ok : ∀ s ∈ ns, nameOk s = true
  nd : ns.Nodup
theorem namesAt_ok {fr : Str} (hf : fr ∈ frontsS) (fi : Int) {n : Nat} (hn : n ≤ 26) : NmOk n (namesAt fr fi n) := by
  refine ⟨by unfold namesAt; rw [List.length_map, List.length_range], fun s hs => ?_, ?_⟩
  · obtain ⟨i, hi⟩ := List.mem_iff_getElem?.mp hs
    obtain ⟨_, rfl⟩ := namesAt_get hi
    exact name_ok1 fr hf _ (mod_lt fi i)
  · unfold namesAt List.Nodup
    rw [List.pairwise_map]
    refine List.nodup_range.imp_of_mem fun {a b} ha hb hab e => hab (nameAt_inj ?_ ?_ e)
    · have := List.mem_range.mp ha; omega
    · have := List.mem_range.mp hb; omega
theorem namesAt_set {fr : Str} (hf : fr ∈ frontsS) (fi : Int) {n a : Nat} (hn : n ≤ 26) (ha : a < n) (hl : (nameAt fr fi a).length < 8) : NmOk n ((namesAt fr fi n).set a (nameAt fr fi a ++ ("o" : Str))) := by
  have h0 := namesAt_ok hf fi hn
  refine ⟨by rw [List.length_set, h0.len], fun s hs => ?_, ?_⟩
  · rcases List.mem_or_eq_of_mem_set hs with h | rfl
    · exact h0.ok s h
    · exact name_ok2 fr hf _ (mod_lt fi a) hl
  · unfold List.Nodup
    rw [List.pairwise_iff_getElem]
    intro i j hi hj hij e
    rw [List.length_set] at hi hj
    have key : ∀ k, (hk : k < (namesAt fr fi n).length) → ((namesAt fr fi n).set a (nameAt fr fi a ++ ("o" : Str)))[k]'(by rw [List.length_set]; exact hk) = if a = k then nameAt fr fi a ++ ("o" : Str) else nameAt fr fi k := fun k hk => by
      rw [List.getElem_set]
      split
      · rfl
      · exact (namesAt_get (List.getElem?_eq_getElem hk)).2
    rw [key i hi, key j hj] at e
    rw [h0.len] at hi hj
    by_cases h1 : a = i
    · by_cases h2 : a = j
      · omega
      · rw [if_pos h1, if_neg h2] at e
        exact nameAt_inj2 e.symm
    · by_cases h2 : a = j
      · rw [if_neg h1, if_pos h2] at e
        exact nameAt_inj2 e
      · rw [if_neg h1, if_neg h2] at e
        have := nameAt_inj (by omega) (by omega) e
        omega
theorem sorted_lt : ∀ {ys : List Str}, sortedS ys = true → ys.Nodup → ys.Pairwise ltS := by
  intro ys h hn
  have step : ∀ (ys : List Str), sortedS ys = true → ys.Nodup → ∀ i, (h1 : i + 1 < ys.length) → ltS ys[i] ys[i + 1] := by
    intro ys
    induction ys with
    | nil => intro _ _ i h; simp at h
    | cons x ys ih =>
      intro hs hn i hi
      cases ys with
      | nil => simp at hi
      | cons y zs =>
        have hs : (!ltCps y.cps.toList x.cps.toList && risingS y zs) = true := hs
        simp only [Bool.and_eq_true] at hs
        cases i with
        | zero =>
          simp only [List.getElem_cons_zero, List.getElem_cons_succ]
          have h1 := hs.1
          have h2 : x ≠ y := by
            intro e
            rw [e] at hn
            simp at hn
          have h3 : ¬ y.cps.toList < x.cps.toList := by
            rw [ltCps_eq] at h1
            simpa using h1
          have h4 : x.cps.toList ≠ y.cps.toList := fun e => h2 (by
            cases x; cases y
            simp at e
            rw [e])
          show x.cps.toList < y.cps.toList
          by_cases q : x.cps.toList < y.cps.toList
          · exact q
          · exact absurd (List.le_antisymm (List.not_lt.mp h3) (List.not_lt.mp q)) h4
        | succ i =>
          exact ih hs.2 (List.nodup_cons.mp hn).2 i (by simpa using hi)
  have hs := step ys h hn
  rw [List.pairwise_iff_getElem]
  have key : ∀ (j i : Nat), i < j → (hj : j < ys.length) → (hi : i < ys.length) → ltS ys[i] ys[j] := by
    intro j
    induction j with
    | zero => intro i h; omega
    | succ j ih =>
      intro i hij hj hi
      by_cases e : i = j
      · subst e
        exact hs i hj
      · exact ltS_trans (ih i (by omega) (by omega) hi) (hs j hj)
  exact fun i j hi hj hij => key j i hij hj hi
end NR
namespace NR
open PySem PySem.Spec PyProof.Rows L2
def up2 (i j : Nat) (d : D) (δ : Env) : Env := match d with
  | .tup [a, b] => (δ.set i (some (.d a))).set j (some (.d b))
  | _ => δ
def up3 (i j l : Nat) (d : D) (δ : Env) : Env := match d with
  | .tup [a, b, c] => ((δ.set i (some (.d a))).set j (some (.d b))).set l (some (.d c))
  | _ => δ
section
variable {X : Cx} {W : Wd} {e a b c elt tg iter : Expr} {es ifs : List Expr} {δ : Env} {pos : Pos} {st : Stmt} {rest body : List Stmt} {p q : Post} {P P1 P2 P3 : S → Prop}
/-- target = a tuple that is not all known -/
theorem wUnG {ix : List Nat} (up : D → Env → Env) (h : AE X W e δ P) (hP : ∀ s, P s → ∃ d, s = .d d) (hg : ∀ d, P (.d d) → AG X tg ix d (up d)) (t : ∀ d, P (.d d) → ASs X W rest (up d δ) p) (hs : swapsWithSole [tg] e pos.line X.env = pure false := by rfl) (hw : swappedStores [tg] e X.env = pure none := by rfl) (h1 : (assignEach [tg] X.env).map (·.2) = [assign tg X.env] := by rfl) : ASs X W (.Assign [tg] e pos :: rest) δ p :=
  ass_asg (up := up) (ix := ix) hs hw h1 h hP hg t
/-- name = e, e not all known -/
theorem wSetG {k i : Nat} {x : Str} {pos' : Pos} (o : Cok k X) (h : AE X W e δ P) (t : ∀ s, P s → ASs X W rest (δ.set i (some s)) p) (hl : ∀ s, P s → ∀ ds, s ≠ .l ds) (hi : X.N[i]? = some x := by rfl) (hx : Loc X.env.scope x := by first | exact Or.inl rfl | exact Or.inr rfl)
    (hf : X.fn x = true ∨ X.env.scope.names.lookup x = some .local := by first | exact .inl rfl | exact .inr rfl) (hs : swapsWith e (some (.Name x pos')) pos.line X.env = pure false := by rfl) : ASs X W (.Assign [.Name x pos'] e pos :: rest) δ p := ass_setG o.nd hi hx hf hs h hl t
/-- x[i] = e, a list of one's own -/
theorem wSetAt {i j : Nat} {x : Str} {ds : List D} {d : D} {n : Int} {pn spos : Pos} (h : AEq X W e δ (.d d)) (hix : AEq X W a δ (.d (.int n))) (hn : n = (j : Int)) (hj : j < ds.length)
    (hg : ∀ {to ti : TE}, PE X (.Name x pn) to → PE X a ti → PG X (.Subscript (.Name x pn) a spos) (gSub to ti rSetL)) (t : ASs X W rest (δ.set i (some (.own (ds.set j d)))) p) (he : δ[i]? = some (some (.own ds)) := by rfl) (hN : X.N[i]? = some x := by rfl) (hv : Vis X.env.scope x := by first | exact Or.inl rfl | exact Or.inr (Or.inl rfl) | exact Or.inr (Or.inr rfl)) (hd : (x == ("__debug__" : Str)) = false := by decide) (hc : (x == ("__classdict__" : Str)) = false := by decide)
    (hsw : swapsWithSole [.Subscript (.Name x pn) a spos] e pos.line X.env = pure false := by rfl) (hw : swappedStores [.Subscript (.Name x pn) a spos] e X.env = pure none := by rfl) (h1 : (assignEach [.Subscript (.Name x pn) a spos] X.env).map (·.2) = [assign (.Subscript (.Name x pn) a spos) X.env] := by rfl) :
    ASs X W (.Assign [.Subscript (.Name x pn) a spos] e pos :: rest) δ p := ass_setAt he hN hv hd hc h hix hn hj hsw hw h1 hg t
/-- a comprehension, not all known, its block's names told -/
theorem wLcG {k : Nat} {ds : List D} {scope : Scope} (own : List (Str × Nat)) {ix : List Nat} (o : Cok k X) (hlen : ds.length ≤ 100000)
    (ups : Nat → Env → Env) (Pt : Nat → Bool → Prop) (Pe : Nat → D → Prop) (Acc : Nat → List D → Prop) (hi : AI X W tg iter δ ds)
    (hg : ∀ (s : Shared) (H : Hp) (C : Addr) (cl : List (Str × Addr)) (fp : List Addr) (i : Nat) d, ds[i]? = some d → AG (X.blk s H scope (compEnvC scope cl C X.env) fp) tg ix d (ups i))
    (ht : ∀ (s : Shared) (H : Hp) (C : Addr) (cl : List (Str × Addr)) (fp : List Addr) (i : Nat) d, ds[i]? = some d → ATs (X.blk s H scope (compEnvC scope cl C X.env) fp) W ifs (ups i (wipeE δ (own.map fun p : Str × Nat => p.2))) (Pt i))
    (he : ∀ (s : Shared) (H : Hp) (C : Addr) (cl : List (Str × Addr)) (fp : List Addr) (i : Nat) d, ds[i]? = some d → Pt i true → AE (X.blk s H scope (compEnvC scope cl C X.env) fp) W elt (ups i (wipeE δ (own.map fun p : Str × Nat => p.2))) (fun s => ∃ e, s = .d e ∧ Pe i e))
    (h0 : Acc 0 []) (hT : ∀ (i : Nat) acc e, i < ds.length → Acc i acc → Pt i true → Pe i e → Acc (i + 1) (acc ++ [e])) (hF : ∀ (i : Nat) acc, i < ds.length → Acc i acc → Pt i false → Acc (i + 1) acc)
    (hend : ∀ acc, Acc ds.length acc → P (.own acc)) (ok : BlkOk X.N X.env.scope scope own := by exact blkOk_by (by kernel_rfl)) (hix : ∀ i ∈ ix, i ∈ (own.map fun p : Str × Nat => p.2) := by decide) (hs : ∀ x, foldedSetIterable iter X.env x = pure x := by intro _; rfl) : LcJ X W elt tg iter ifs scope own δ P :=
  lcG o ok hix hlen ups Pt Pe Acc hs hi hg ht he h0 hT hF hend
theorem wMax {k : Nat} {i j : Int} {pn : Pos} (o : Cok k X) (hm : X.mg "max" = none) (ha : AEq X W a δ (.d (.int i))) (hb : AEq X W b δ (.d (.int j))) (hg : Gl X "max" := by rfl) (he : starEach [a, b] X.env = (false, eval a X.env) :: starEach [b] X.env := by rfl) (hs2 : starEach [b] X.env = (false, eval b X.env) :: starEach [] X.env := by rfl) (hp : (backTo pos (starEach [b] X.env)).any (·.1) = false := by rfl) :
    AEq X W (.Call (.Name "max" pn) [a, b] [] pos) δ (.d (.int (if j > i then j else i))) := ae_cb (call_max2 o.calm) hg hm PyProof.Rows.boot_max (aa2 ha hb he hs2) cd_max (by decide) (by decide) he hp
theorem wMin {k : Nat} {i j : Int} {pn : Pos} (o : Cok k X) (hm : X.mg "min" = none) (ha : AEq X W a δ (.d (.int i))) (hb : AEq X W b δ (.d (.int j))) (hg : Gl X "min" := by rfl) (he : starEach [a, b] X.env = (false, eval a X.env) :: starEach [b] X.env := by rfl) (hs2 : starEach [b] X.env = (false, eval b X.env) :: starEach [] X.env := by rfl) (hp : (backTo pos (starEach [b] X.env)).any (·.1) = false := by rfl) :
    AEq X W (.Call (.Name "min" pn) [a, b] [] pos) δ (.d (.int (if j < i then j else i))) := ae_cb (call_min2 o.calm) hg hm PyProof.Rows.boot_min (aa2 ha hb he hs2) cd_min (by decide) (by decide) he hp
theorem wInt {i : Int} {pn : Pos} (hm : X.mg "int" = none) (ha : AEq X W a δ (.d (.int i))) (hg : Gl X "int" := by rfl) (he : starEach [a] X.env = (false, eval a X.env) :: starEach [] X.env := by rfl) (hp : (backTo pos (starEach [] X.env)).any (·.1) = false := by rfl) :
    AEq X W (.Call (.Name "int" pn) [a] [] pos) δ (.d (.int i)) := ae_ct call_int1 hg hm PyProof.Rows.boot_int (aa1 ha he) cd_int (by decide) (by decide) he hp
end
section
variable {P : Program} {w : World} {K : PySem.W.Frag} {mg : Str → Option Value} {base : Heap} {oa ia : Addr}
abbrev PkX := {ds : List D // ds ≠ [] ∧ ds.length ≤ 1000}
abbrev Kpick (P : Program) (w : World) (K : PySem.W.Frag) (mg : Str → Option Value) (base : Heap) (oa ia : Addr) := Kn P w K mg base (WH oa ia) 2 "_law_pick" ["_law_heap_here", "_law_some"] (fun i : PkX => [.hp, .l i.1]) (fun i s => ∃ d, d ∈ i.1 ∧ s = .d d)
theorem sc_pick : FnScope ["_law_heap_here", "_law_some"] ["_law_heap_here", "_law_some"] (defScope (top 48)) := ⟨rfl, rfl, rfl, by decide +kernel, rfl, by decide +kernel, by decide +kernel⟩
theorem ok_pick (T : Tx mg) (d : Df K mg "_law_pick" (top 48) ["_law_heap_here", "_law_some"]) (g : Kdraw P w K mg base oa ia) : Kpick P w K mg base oa ia := by
  refine kn_ok d sc_pick (fun _ => rfl) (fun i s h => by simp at h; rcases h with rfl | rfl <;> exact id) fun f cdv A outer s H E o i => ?_
  obtain ⟨ds, hne, hl⟩ := i
  have hp : 0 < ds.length := List.length_pos_iff.mpr hne
  refine ass_one (wRetG (ae_ixG (vv 1) (wCall g o (aa2 (vv 0) (wLen T.len (vv 1) .l)) ⟨(ds.length : Int), by omega, by omega⟩) (fun _ _ => rfl) .l fun t z => ?_) fun s z => ⟨fun ds e => ?_, z⟩)
  · obtain ⟨r, ⟨h0, h1⟩, rfl⟩ := z
    have h1 : r < (ds.length : Int) := h1
    have hr : r.toNat < ds.length := by omega
    exact ⟨r.toNat, ds[r.toNat], by rw [Int.toNat_of_nonneg h0], List.getElem?_eq_getElem hr, ds[r.toNat], List.getElem_mem hr, rfl⟩
  · obtain ⟨d, _, rfl⟩ := z
    cases e
abbrev Knames (P : Program) (w : World) (K : PySem.W.Frag) (mg : Str → Option Value) (base : Heap) (oa ia : Addr) := Kn P w K mg base (WH oa ia) 3 "_law_names" ["_law_heap_here", "_law_many"] (fun i : {n : Nat // n ≤ 12} => [.hp, .d (.int (i.1 : Int))]) (fun i s => ∃ ns : List Str, (ns.length = i.1 ∧ (∀ s ∈ ns, nameOk s = true) ∧ ns.Pairwise ltS) ∧ s = .d (eNames ns))
theorem sc_names : FnScope ["_law_heap_here", "_law_many", "_law_letters", "_law_front", "_law_first", "_law_found", "_law_at"] ["_law_heap_here", "_law_many"] (defScope (top 49)) := ⟨rfl, rfl, rfl, by decide +kernel, rfl, by decide +kernel, by decide +kernel⟩
theorem ok_names (T : Tx mg) (d : Df K mg "_law_names" (top 49) ["_law_heap_here", "_law_many"]) (g : Kdraw P w K mg base oa ia) (g2 : Kpick P w K mg base oa ia) : Knames P w K mg base oa ia := by
  refine kn_ok d sc_names (fun _ => rfl) (fun i s h => by simp at h; rcases h with rfl | rfl <;> exact id) fun f cdv A outer s H E o i => ?_
  obtain ⟨n, hn⟩ := i
  refine wUnG (P := fun s => ∃ fr fi, fr ∈ frontsS ∧ (0 ≤ fi ∧ fi < 26) ∧ s = .d (.tup [.str lettersS, .str fr, .int fi])) (ix := [2, 3, 4]) (up3 2 3 4) (ae_tupG (ag3 ae_str (wCall g2 o (aa2 (vv 0) (AEq.l (ae_lst (ds := frontsS.map D.str) (aa_cons ae_str (aa_cons ae_str (aa_cons ae_str (aa_cons ae_str (aa_cons ae_str aa_nil))))) (by decide)))) ⟨frontsS.map D.str, by decide, by decide⟩) (wCall g o (aa2 (vv 0) ae_int) ⟨26, by decide, by decide⟩)) fun ss z => ?_) (fun s z => ?_) (fun d z => ?_) fun d z => ?_
  · obtain ⟨s, t, u, rfl, ⟨d1, h1, rfl⟩, ⟨r, h2, rfl⟩, rfl⟩ := z
    obtain ⟨fr, hf, rfl⟩ := List.mem_map.mp h1
    exact ⟨[.str lettersS, .str fr, .int r], rfl, by show 3 ≤ 100; decide, fr, r, hf, h2, rfl⟩
  · obtain ⟨fr, fi, _, _, rfl⟩ := z
    exact ⟨_, rfl⟩
  · obtain ⟨fr, fi, _, _, e⟩ := z
    cases e
    exact wTg3 o
  obtain ⟨fr, fi, hf, hfi, e⟩ := z
  cases e
  have hfl := fronts_len fr hf
  refine wSetLc (i := 5) (s := .own ((namesAt fr fi n).map D.str)) o (LcJ.eqv (wLcA (xs := List.range n) (enc := fun k : Nat => .int (k : Int)) [("_law_at", 6)] (ix := [6]) (fun k => .str (nameAt fr fi k)) (fun k δ => δ.set 6 (some (.d (.int (k : Int))))) o (by rw [List.length_range]; omega) ((wR1 (n := n) T.range (vv 1) (by omega) rfl).toI) (fun s H C cl fp x => wName (o.blk ..))
    fun s H C cl fp x hx => ae_addS (vv 3) (ae_ixS (k := 97 + ((fi + 7 * (x : Int)) % 26).toNat) (vv 2) (ae_mod (wInt T.int (ae_add (vv 4) (ae_mul ae_int (vv 6) (.inl (by decide))))) ae_int (by decide)) (fun _ _ => rfl) (Int.toNat_of_nonneg (by omega)).symm (by decide +kernel) (letters_get _ (mod_lt fi x))) ?_) (own_eq ?_)) ?_
  · show fr.length + 1 ≤ sizeLine
    exact Nat.le_trans (Nat.succ_le_succ hfl) (by decide)
  · unfold namesAt
    rw [List.map_map] <;> rfl
  have h0 := namesAt_ok hf fi (n := n) (by omega)
  refine wSetG (i := 6) o (wCall g o (aa2 (vv 0) (wMax o T.max ae_int (vv 1))) ⟨if (n : Int) > 1 then n else 1, by split <;> omega, by split <;> omega⟩) (fun s z => ?_) (fun s z ds e => by obtain ⟨r, _, rfl⟩ := z; cases e)
  obtain ⟨a, ha, rfl⟩ := z
  have ha : 0 ≤ a ∧ a < if (n : Int) > 1 then (n : Int) else 1 := ha
  refine ass_ifM (M := fun δ' => ∃ ns, NmOk n ns ∧ δ' = [some .hp, some (.d (.int (n : Int))), some (.d (.str lettersS)), some (.d (.str fr)), some (.d (.int fi)), some (.own (ns.map D.str)), some (.d (.int a))]) (B := fun b => b = true → 0 < n ∧ (nameAt fr fi a.toNat).length < 8) ?_ (fun hB => ?_) (fun _ => ass_nil ⟨_, ⟨_, h0, rfl⟩, .refl _⟩) fun δ' ⟨ns, hok, e⟩ => ?_
  · by_cases hz : n = 0
    · refine AT.weak (aw_and (q := false) (at_gt (vv 1) ae_int) fun z => ?_).pt fun b z y => ?_
      · have z2 : (0 : Int) < (n : Int) := of_decide_eq_true z
        omega
      · rw [z] at y
        simp at y
    · have ha2 : a < n := by
        have := ha.2
        split at this <;> omega
      have hal : a.toNat < (namesAt fr fi n).length := by rw [h0.len]; omega
      have hget : (namesAt fr fi n)[a.toNat]? = some (nameAt fr fi a.toNat) := by
        rw [List.getElem?_eq_getElem hal]
        exact congrArg some (namesAt_get (List.getElem?_eq_getElem hal)).2
      have hget2 : ((namesAt fr fi n).map D.str)[a.toNat]? = some (.str (nameAt fr fi a.toNat)) := by rw [List.getElem?_map, hget] <;> rfl
      have hl8 := name_len fr hf _ (mod_lt fi a.toNat)
      exact AT.weak (aw_andG (B := fun b => b = true → (nameAt fr fi a.toNat).length < 8) (at_gt (vv 1) ae_int) (aw_andG (B := fun b => b = true → (nameAt fr fi a.toNat).length < 8) (at_lt (wLenS T.len (wIx a.toNat (vo 5) (vv 6) .l hget2 (Int.toNat_of_nonneg ha.1).symm) (Nat.le_trans hl8 (by decide))) ae_int)
        (aw_and1 (at_eqG (wCall g o (aa2 (vv 0) ae_int) ⟨2, by decide, by decide⟩) ae_int fun s ⟨r, _, e⟩ => ⟨r, e⟩)) (fun _ z => nomatch z) fun e q _ _ => by have := of_decide_eq_true e.symm; omega) (fun _ z => nomatch z) fun e q h z => h z).pt fun b h z => ⟨by omega, h z⟩
  · obtain ⟨hn0, hl8⟩ := hB rfl
    have ha2 : a < n := by
      have := ha.2
      split at this <;> omega
    have hal : a.toNat < (namesAt fr fi n).length := by rw [h0.len]; omega
    have hget : (namesAt fr fi n)[a.toNat]? = some (nameAt fr fi a.toNat) := by
      rw [List.getElem?_eq_getElem hal]
      exact congrArg some (namesAt_get (List.getElem?_eq_getElem hal)).2
    have hget2 : ((namesAt fr fi n).map D.str)[a.toNat]? = some (.str (nameAt fr fi a.toNat)) := by rw [List.getElem?_map, hget] <;> rfl
    refine wSetAt (i := 5) (j := a.toNat) (ds := (namesAt fr fi n).map D.str) (ae_addS (wIx a.toNat (vo 5) (vv 6) .l hget2 (Int.toNat_of_nonneg ha.1).symm) ae_str (Nat.le_trans (Nat.add_le_add (Nat.le_of_lt hl8) (show Str.length ("o" : Str) ≤ 1 by decide +kernel)) (by decide))) (vv 6) (Int.toNat_of_nonneg ha.1).symm (by rw [List.length_map]; exact hal) (fun h1 h2 => pg_sub h1 h2 set_list) (ass_nil ⟨_, ⟨_, namesAt_set hf fi (by omega) (by omega) hl8, ?_⟩, .refl _⟩)
    rw [List.map_set] <;> rfl
  · subst e
    refine ass_one (wRetG (wTupG T.tuple (wSortS T.sorted (vo 5) (.inr rfl) (by rw [hok.len]; omega)) fun s z => ?_) fun s z => ⟨fun ds e => ?_, z⟩)
    · obtain ⟨ys, rfl, hp, hs⟩ := z
      refine ⟨_, .inl rfl, ys, ⟨by rw [hp.length_eq, hok.len], fun s hs => hok.ok s (hp.mem_iff.mp hs), sorted_lt hs (hp.symm.nodup hok.nd)⟩, rfl⟩
    · obtain ⟨ns, _, rfl⟩ := z
      cases e
abbrev LotIn (n : Nat) (l : List Int) : Prop := (∀ x ∈ l, 0 ≤ x ∧ x < (n : Int)) ∧ l.Pairwise (· < ·)
abbrev Klot (P : Program) (w : World) (K : PySem.W.Frag) (mg : Str → Option Value) (base : Heap) (oa ia : Addr) := Kn P w K mg base (WH oa ia) 2 "_law_lot" ["_law_heap_here", "_law_many", "_law_share"] (fun i : {n : Nat // n ≤ 1000} × DrX => [.hp, .d (.int (i.1.1 : Int)), .d (.int i.2.1)]) (fun i s => ∃ l : List Int, LotIn i.1.1 l ∧ s = .d (tupI l))
theorem sc_lot : FnScope ["_law_heap_here", "_law_many", "_law_share", "_law_at"] ["_law_heap_here", "_law_many", "_law_share"] (defScope (top 50)) := ⟨rfl, rfl, rfl, by decide +kernel, rfl, by decide +kernel, by decide +kernel⟩
theorem ok_lot (T : Tx mg) (d : Df K mg "_law_lot" (top 50) ["_law_heap_here", "_law_many", "_law_share"]) (g : Kdraw P w K mg base oa ia) : Klot P w K mg base oa ia := by
  refine kn_ok d sc_lot (fun _ => rfl) (fun i s h => by simp at h; rcases h with rfl | rfl | rfl <;> exact id) fun f cdv A outer s H E o i => ?_
  obtain ⟨⟨n, hn⟩, m⟩ := i
  refine ass_one (wRetG (wTupG T.tuple (LcJ.ae (P := fun s => ∃ l : List Int, LotIn n l ∧ s = .own (l.map D.int)) (wLcG (ds := (List.range n).map fun k : Nat => D.int (k : Int)) [("_law_at", 3)] (ix := [3]) o (by rw [List.length_map, List.length_range]; omega) (fun k δ => δ.set 3 (some (.d (.int (k : Int))))) (fun _ _ => True) (fun k e => e = .int (k : Int)) (fun k acc => ∃ l : List Int, LotIn k l ∧ acc = l.map D.int)
    ((wR1 (n := n) T.range (vv 1) (by omega) rfl).toI) (fun s H C cl fp k d hd => ?_) (fun s H C cl fp k d hd => ats_one (AT.weak (at_eqG (wCall g (o.blk ..) (aa2 (vv 0) (vv 2)) m) ae_int fun s ⟨r, _, e⟩ => ⟨r, e⟩) fun _ _ => trivial)) (fun s H C cl fp k d hd _ => AE.weak (vv 3) fun s e => ⟨_, e, rfl⟩)
    ⟨[], ⟨(fun _ h => nomatch h), .nil⟩, rfl⟩ (fun k acc e hk h _ he => ?_) (fun k acc hk h _ => ?_) fun acc h => ?_) o) fun s z => ?_) fun s z => ⟨fun ds e => ?_, z⟩)
  · have hk : k < n := by
      have := (List.getElem?_eq_some_iff.mp hd).1
      rwa [List.length_map, List.length_range] at this
    rw [List.getElem?_map, List.getElem?_range hk] at hd
    cases hd
    exact wName (o.blk ..)
  · obtain ⟨l, ⟨h1, h2⟩, rfl⟩ := h
    subst he
    refine ⟨l ++ [(k : Int)], ⟨fun x hx => ?_, ?_⟩, by rw [List.map_append] <;> rfl⟩
    · rcases List.mem_append.mp hx with hx | hx
      · have := h1 x hx
        omega
      · rw [List.mem_singleton.mp hx]
        omega
    · refine List.pairwise_append.mpr ⟨h2, List.pairwise_singleton _ _, fun x hx y hy => ?_⟩
      rw [List.mem_singleton.mp hy]
      exact (h1 x hx).2
  · obtain ⟨l, ⟨h1, h2⟩, rfl⟩ := h
    exact ⟨l, ⟨fun x hx => by have := h1 x hx; omega, h2⟩, rfl⟩
  · obtain ⟨l, h1, rfl⟩ := h
    rw [List.length_map, List.length_range] at h1
    exact ⟨l, h1, rfl⟩
  · obtain ⟨l, h1, rfl⟩ := z
    exact ⟨_, .inl rfl, l, h1, rfl⟩
  · obtain ⟨l, _, rfl⟩ := z
    cases e
end
end NR
namespace NR
open PySem PySem.Spec PyProof.Rows L2
section
variable {X : Cx} {W : Wd} {e a b c : Expr} {δ : Env} {pos : Pos} {P : S → Prop}
theorem wList {s : S} {ds : List D} {pn : Pos} (hm : X.mg "list" = none) (ha : AEq X W a δ s) (hs : IsSeq s ds) (hg : Gl X "list" := by rfl) (he : starEach [a] X.env = (false, eval a X.env) :: starEach [] X.env := by rfl) (hp : (backTo pos (starEach [] X.env)).any (·.1) = false := by rfl) :
    AEq X W (.Call (.Name "list" pn) [a] [] pos) δ (.own ds) := ae_ct call_list_of hg hm (by decide +kernel) (aa1 ha he) (cd_listOf hs) (by decide) (by decide) he hp
end
structure Pts (n m : Nat) (ks : List Str) (ts : List Ty) : Prop where
  kl : ks.length = n
  kn : ∀ s ∈ ks, nameOk s = true
  ka : ks.Pairwise ltS
  tl : ts.length = m
  tn : ∀ t ∈ ts, nameOk t.1 = true
  ta : (ts.map (·.1)).Pairwise ltS
  lot : ∀ t ∈ ts, LotIn n t.2
theorem Pts.tb {n m : Nat} {ks : List Str} {ts : List Ty} (h : Pts n m ks ts) (h1 : 1 ≤ n) (h8 : n ≤ 8) (h12 : m ≤ 12) : Tb ks ts := ⟨by rw [h.kl]; exact h1, by rw [h.kl]; exact h8, h.kn, h.ka, by rw [h.tl]; exact h12, h.tn, fun t ht => by rw [h.kl]; exact h.lot t ht, h.ta⟩
theorem Pts.mk' {n m : Nat} {ks : List Str} {ts : List Ty} {ns : List Str} (h1 : ks.length = n ∧ (∀ s ∈ ks, nameOk s = true) ∧ ks.Pairwise ltS) (h2 : ns.length = m ∧ (∀ s ∈ ns, nameOk s = true) ∧ ns.Pairwise ltS) (e : ts.map (·.1) = ns) (hl : ∀ t ∈ ts, LotIn n t.2) : Pts n m ks ts := by
  subst e
  exact ⟨h1.1, h1.2.1, h1.2.2, by rw [← h2.1, List.length_map], fun t ht => h2.2.1 _ (List.mem_map.mpr ⟨t, ht, rfl⟩), h2.2.2, hl⟩
theorem lot_range (n : Nat) : LotIn n ((List.range n).map nI) := ⟨fun x hx => by
  obtain ⟨k, hk, rfl⟩ := List.mem_map.mp hx
  have := List.mem_range.mp hk
  unfold nI
  omega, range_pw n⟩
section
variable {P : Program} {w : World} {K : PySem.W.Frag} {mg : Str → Option Value} {base : Heap} {oa ia : Addr}
abbrev PtX := {x : Nat × Nat // (1 ≤ x.1 ∧ x.1 ≤ 8) ∧ x.2 ≤ 12}
abbrev ptArgs : PtX → List S := fun i => [.hp, .d (.int (i.1.1 : Int)), .d (.int (i.1.2 : Int))]
abbrev ptPost : PtX → S → Prop := fun i s => ∃ (ks : List Str) (ts : List Ty), Pts i.1.1 i.1.2 ks ts ∧ s = .d (.tup [eNames ks, eTys ts])
theorem ptm (i : PtX) : ∀ s ∈ ptArgs i, ¬ Mutb s := fun s h => by simp at h; rcases h with rfl | rfl | rfl <;> exact id
abbrev Kparts2 (P : Program) (w : World) (K : PySem.W.Frag) (mg : Str → Option Value) (base : Heap) (oa ia : Addr) := Kn P w K mg base (WH oa ia) 4 "_law_parts" ["_law_heap_here", "_law_kinds", "_law_types"] ptArgs ptPost
theorem sc_parts2 : FnScope ["_law_heap_here", "_law_kinds", "_law_types", "_law_names_here", "_law_found", "_law_name", "_law_kind", "_law_lot_here"] ["_law_heap_here", "_law_kinds", "_law_types"] (defScope (top 51)) := ⟨rfl, rfl, rfl, by decide +kernel, rfl, by decide +kernel, by decide +kernel⟩
theorem ok_parts2 (T : Tx mg) (d : Df K mg "_law_parts" (top 51) ["_law_heap_here", "_law_kinds", "_law_types"]) (g1 : Kdraw P w K mg base oa ia) (g2 : Kpick P w K mg base oa ia) (g3 : Knames P w K mg base oa ia) (g4 : Klot P w K mg base oa ia) : Kparts2 P w K mg base oa ia := by
  refine kn_ok d sc_parts2 (fun _ => rfl) ptm fun f cdv A outer s H E o i => ?_
  obtain ⟨⟨n, m⟩, ⟨hn1, hn8⟩, hm⟩ := i
  have hn1 : 1 ≤ n := hn1
  have hn8 : n ≤ 8 := hn8
  have hm : m ≤ 12 := hm
  refine ass_parM (i := 3) (j := 4) o (wCall g3 o (aa2 (vv 0) (vv 2)) ⟨m, hm⟩) (P2 := (· = .own [])) (ae_lst aa_nil (by decide)) (fun s z ds e => by obtain ⟨ns, _, rfl⟩ := z; cases e) (fun s z ds e => by rw [z] at e; cases e) fun s u z1 z2 => ?_
  obtain ⟨ns, hns, rfl⟩ := z1
  subst z2
  have hnl : ns.length = m := hns.1
  refine ass_cons (fun δ' => ∃ ts : List Ty, ∃ a b c, ts.map (·.1) = ns ∧ (∀ t ∈ ts, LotIn n t.2) ∧ δ' = [some .hp, some (.d (.int (n : Int))), some (.d (.int (m : Int))), some (.d (eNames ns)), some (.own (ts.map eTy)), a, b, c])
    (as_for (I := fun k δ' => ∃ ts : List Ty, ts.map (·.1) = ns.take k ∧ (∀ t ∈ ts, LotIn n t.2) ∧ δ' = [some .hp, some (.d (.int (n : Int))), some (.d (.int (m : Int))), some (.d (eNames ns)), some (.own (ts.map eTy)), none, none, none]) (ix := [5]) (fun k δ => δ.set 5 (some (.d (.str (ns.getD k ""))))) o (fun _ => rfl) (ai_tup (vv 3)).toS ⟨_, ⟨[], rfl, (fun _ h => nomatch h), rfl⟩, .refl _⟩ (fun k d hd => ?_) (fun k d δ' hd hI => ?_) (fun δ' h => ?_)) fun δ' z => ?_
  · have hi : k < ns.length := by
      have := (List.getElem?_eq_some_iff.mp hd).1
      rwa [List.length_map] at this
    rw [get_map (f := D.str) (d := "") hi] at hd
    cases hd
    exact wName o
  · obtain ⟨ts, hts, hlot, rfl⟩ := hI
    have hi : k < ns.length := by
      have := (List.getElem?_eq_some_iff.mp hd).1
      rwa [List.length_map] at this
    have hg := getD_get (xs := ns) (d := ("" : Str)) hi
    have htl : ts.length = k := by
      have := congrArg List.length hts
      rw [List.length_map, List.length_take] at this
      omega
    refine wSetG (i := 6) o (wCall g1 o (aa2 (vv 0) ae_int) ⟨6, by decide, by decide⟩) (fun s z => ?_) (fun s z ds e => by obtain ⟨r, _, rfl⟩ := z; cases e)
    obtain ⟨kd, _, rfl⟩ := z
    refine wSetG (P := fun s => ∃ l : List Int, LotIn n l ∧ s = .d (tupI l)) (i := 7) o (wCallG g4 o (ag3 (vv 0) (vv 1) (wCall g2 o (aa2 (vv 0) (AEq.l (ae_lst (ds := [.int 2, .int 2, .int 3]) (aa_cons ae_int (aa_cons ae_int (aa_cons ae_int aa_nil))) (by decide)))) ⟨[.int 2, .int 2, .int 3], by simp, by decide⟩)) fun ss z => ?_) (fun s z => ?_) (fun s z ds e => by obtain ⟨r, _, rfl⟩ := z; cases e)
    · obtain ⟨s, t, u, rfl, rfl, ⟨x, hx, rfl⟩, rfl⟩ := z
      have : ∃ j : Int, (0 < j ∧ j < 1000000) ∧ x = .int j := by
        have hx : x ∈ ([.int 2, .int 2, .int 3] : List D) := hx
        simp only [List.mem_cons, List.not_mem_nil, or_false] at hx
        rcases hx with rfl | rfl | rfl
        · exact ⟨2, by decide, rfl⟩
        · exact ⟨2, by decide, rfl⟩
        · exact ⟨3, by decide, rfl⟩
      obtain ⟨j, hj, rfl⟩ := this
      exact ⟨(⟨n, by omega⟩, ⟨j, hj⟩), rfl, fun s z => z⟩
    obtain ⟨l, hl, rfl⟩ := z
    refine ass_ifM (M := fun δ' => ∃ l, LotIn n l ∧ δ' = [some .hp, some (.d (.int (n : Int))), some (.d (.int (m : Int))), some (.d (eNames ns)), some (.own (ts.map eTy)), some (.d (.str (ns.getD k ""))), some (.d (.int kd)), some (.d (tupI l))]) (B := fun b => b = true → ts ≠ []) ?_ (fun hB => ?_) (fun _ => ass_nil ⟨_, ⟨l, hl, rfl⟩, .refl _⟩) fun δ' ⟨l, hl, e⟩ => ?_
    · refine (aw_andG (B1 := fun _ => True) (AT.weak (at_eqI (vv 6) ae_int) fun _ _ => trivial) (aw_and1 (at_neEL o (vo 4) (ae_lst aa_nil (by decide)) (.inr rfl))) (fun _ z => nomatch z) fun _ q e z => ?_).pt
      intro h
      rw [z, h] at e
      cases e
    · rcases List.eq_nil_or_concat ts with h | ⟨init, last, h⟩
      · exact absurd h (hB rfl)
      · rw [List.concat_eq_append] at h
        refine wSet (i := 7) (s := .d (tupI last.2)) o (wIx (ds := [.str last.1, tupI last.2]) 1 (ae_ixL (ds := init.map eTy) (d := eTy last) (vo 4) (ae_neg ae_int) (fun _ _ => rfl) (.inr (.inl (by rw [h, List.map_append] <;> rfl)))) ae_int .t rfl) (ass_nil ⟨_, ⟨last.2, hlot last (by rw [h]; simp), rfl⟩, .refl _⟩)
    · subst e
      refine ass_app (P := fun s => ∃ l, LotIn n l ∧ s = .d (eTy (ns.getD k "", l))) (i := 4) rfl rfl (Or.inl rfl) (by decide) (by decide) (by rw [List.length_map]; omega) ?_ (fun s ⟨l, _, e⟩ => ⟨_, e⟩) rfl rfl rfl rfl rfl rfl fun d hd => ?_
      · refine ae_tupG (ag2 (vv 5) (ae_ifG (P := fun s => ∃ l, LotIn n l ∧ s = .d (tupI l)) (B := fun _ => True) (aw_andG (B1 := fun _ => True) (AT.weak (at_eqI (vv 6) ae_int) fun _ _ => trivial) (aw_and1 (at_eqG (wCall g1 o (aa2 (vv 0) ae_int) ⟨3, by decide, by decide⟩) ae_int fun s ⟨r, _, e⟩ => ⟨r, e⟩)) (fun _ => trivial) fun _ _ _ => trivial).pt
          (fun _ => AE.weak (wTupRg (n := n) o T.tuple T.range (vv 1) rfl (by omega)) fun s e => ⟨(List.range n).map nI, lot_range n, by rw [e, tupI, List.map_map] <;> rfl⟩) (fun _ => AE.weak (vv 7) fun s e => ⟨l, hl, e⟩))) fun ss z => ?_
        obtain ⟨s, t, rfl, ⟨l2, h2, rfl⟩, rfl⟩ := z
        exact ⟨[.str (ns.getD k ""), tupI l2], rfl, by show 2 ≤ 100; decide, l2, h2, rfl⟩
      · obtain ⟨l2, h2, e⟩ := hd
        cases e
        refine ass_nil ⟨_, ⟨ts ++ [(ns.getD k "", l2)], ?_, fun t ht => ?_, rfl⟩, ?_⟩
        · rw [List.map_append, hts, List.take_add_one, List.getElem?_eq_getElem hi, hg] <;> rfl
        · rcases List.mem_append.mp ht with ht | ht
          · exact hlot t ht
          · rw [List.mem_singleton.mp ht]
            exact h2
        · rw [List.map_append]
          exact .same (.same (.same (.same (.same (.drop (.drop (.drop .nil)))))))
  · obtain ⟨ts, hts, hlot, rfl⟩ := h
    rw [List.length_map, List.take_length] at hts
    exact ⟨ts, _, _, _, hts, hlot, rfl⟩
  · obtain ⟨ts, a, b, c, hts, hlot, rfl⟩ := z
    refine ass_one (wRetG (ae_tupG (ag2 (wCall g3 o (aa2 (vv 0) (vv 1)) ⟨n, by omega⟩) (wTup T.tuple (vo 4) (.inr rfl))) fun ss z => ?_) fun s z => ⟨fun ds e => ?_, z⟩)
    · obtain ⟨s, t, ⟨ks, hks, rfl⟩, rfl, rfl⟩ := z
      exact ⟨[eNames ks, eTys ts], rfl, by show 2 ≤ 100; decide, ks, ts, .mk' hks hns hts hlot, rfl⟩
    · obtain ⟨_, _, _, rfl⟩ := z
      cases e
end
end NR
namespace NR
open PySem PySem.Spec PyProof.Rows L2
section
variable {X : Cx} {W : Wd} {e a b c elt tg iter : Expr} {es ifs : List Expr} {δ : Env} {pos : Pos} {st : Stmt} {rest body : List Stmt} {p q : Post} {P : S → Prop}
theorem wSetLcG {k i : Nat} {x : Str} {pos' pos2 : Pos} {scope : Scope} {own : List (Str × Nat)} (o : Cok k X) (h : LcJ X W elt tg iter ifs scope own δ P) (t : ∀ s, P s → ASs X W rest (δ.set i (some s)) p) (hl : ∀ s, P s → ∀ ds, s ≠ .l ds) (hi : X.N[i]? = some x := by rfl) (hyl : X.env.scope.names.lookup x = some .local := by rfl)
    (hsw : swapsWith (.ListComp elt [⟨tg, iter, ifs, 0⟩] scope pos) (some (.Name x pos')) pos2.line X.env = pure true := by rfl) :
    ASs X W (.Assign [.Name x pos'] (.ListComp elt [⟨tg, iter, ifs, 0⟩] scope pos) pos2 :: rest) δ p := ass_lcG o hi hyl hsw h hl t
theorem own_l {P : List Int → Prop} (s : S) (h : ∃ l : List Int, P l ∧ s = .own (l.map D.int)) : ∀ ds, s ≠ .l ds := fun ds e => by
  obtain ⟨l, _, rfl⟩ := h
  cases e
end
section
variable {P : Program} {w : World} {K : PySem.W.Frag} {mg : Str → Option Value} {base : Heap} {oa ia : Addr}
/-- ints by draws, one for each of a range -/
theorem lc_draws {X : Cx} {W : Wd} {k n j : Nat} {lo hi : Int} {elt tg iter : Expr} {scope : Scope} {x : Str} {δ : Env} (o : Cok k X) (hn : n ≤ 1000) (hi1 : AI X W tg iter δ ((List.range n).map fun k : Nat => D.int (k : Int)))
    (hg : ∀ (s : Shared) (H : Hp) (C : Addr) (cl : List (Str × Addr)) (fp : List Addr) (i : Nat), AG (X.blk s H scope (compEnvC scope cl C X.env) fp) tg [j] (.int (i : Int)) (fun δ => δ.set j (some (.d (.int (i : Int))))))
    (he : ∀ (s : Shared) (H : Hp) (C : Addr) (cl : List (Str × Addr)) (fp : List Addr) (i : Nat), i < n → AE (X.blk s H scope (compEnvC scope cl C X.env) fp) W elt ((wipeE δ [j]).set j (some (.d (.int (i : Int))))) (fun s => ∃ r, (lo ≤ r ∧ r < hi) ∧ s = .d (.int r)))
    (ok : BlkOk X.N X.env.scope scope [(x, j)] := by exact blkOk_by (by kernel_rfl)) (hs : ∀ x, foldedSetIterable iter X.env x = pure x := by intro _; rfl) : LcJ X W elt tg iter [] scope [(x, j)] δ (fun s => ∃ l : List Int, (l.length = n ∧ ∀ x ∈ l, lo ≤ x ∧ x < hi) ∧ s = .own (l.map D.int)) := by
  have hget : ∀ {i : Nat} {d : D}, ((List.range n).map fun k : Nat => D.int (k : Int))[i]? = some d → i < n ∧ d = .int (i : Int) := fun {i d} hd => by
    have hk : i < n := by
      have := (List.getElem?_eq_some_iff.mp hd).1
      rwa [List.length_map, List.length_range] at this
    rw [List.getElem?_map, List.getElem?_range hk] at hd
    cases hd
    exact ⟨hk, rfl⟩
  refine wLcG (ds := (List.range n).map fun k : Nat => D.int (k : Int)) [(x, j)] (ix := [j]) o (by rw [List.length_map, List.length_range]; omega) (fun k δ => δ.set j (some (.d (.int (k : Int))))) (fun _ b => b = true) (fun k e => ∃ r, (lo ≤ r ∧ r < hi) ∧ e = .int r) (fun k acc => ∃ l : List Int, (l.length = k ∧ ∀ x ∈ l, lo ≤ x ∧ x < hi) ∧ acc = l.map D.int) hi1
    (fun s H C cl fp k d hd => ?_) (fun s H C cl fp k d hd => ats_nil) (fun s H C cl fp k d hd _ => ?_) ⟨[], ⟨rfl, (fun _ h => nomatch h)⟩, rfl⟩ (fun k acc e hk h _ he => ?_) (fun k acc hk h z => nomatch z) (fun acc h => ?_) ok (fun i h => h) hs
  · obtain ⟨_, rfl⟩ := hget hd
    exact hg ..
  · obtain ⟨h1, rfl⟩ := hget hd
    exact AE.weak (he s H C cl fp k h1) fun s ⟨r, h, e⟩ => ⟨_, e, r, h, rfl⟩
  · obtain ⟨l, ⟨h1, h2⟩, rfl⟩ := h
    obtain ⟨r, h3, rfl⟩ := he
    refine ⟨l ++ [r], ⟨by rw [List.length_append, h1] <;> rfl, fun x hx => ?_⟩, by rw [List.map_append] <;> rfl⟩
    rcases List.mem_append.mp hx with hx | hx
    · exact h2 x hx
    · rw [List.mem_singleton.mp hx]
      exact h3
  · obtain ⟨l, ⟨h1, h2⟩, rfl⟩ := h
    rw [List.length_map, List.length_range] at h1
    exact ⟨l, ⟨h1, h2⟩, rfl⟩
abbrev Kfparts (P : Program) (w : World) (K : PySem.W.Frag) (mg : Str → Option Value) (base : Heap) (oa ia : Addr) := Kn P w K mg base (WH oa ia) 4 "_law_forest_parts" ["_law_heap_here", "_law_kinds", "_law_types"] ptArgs ptPost
theorem sc_fparts : FnScope ["_law_heap_here", "_law_kinds", "_law_types", "_law_many", "_law_above", "_law_place", "_law_spots", "_law_kind", "_law_names_here", "_law_found", "_law_name", "_law_home", "_law_way", "_law_turn"] ["_law_heap_here", "_law_kinds", "_law_types"] (defScope (top 52)) := ⟨rfl, rfl, rfl, by decide +kernel, rfl, by decide +kernel, by decide +kernel⟩
theorem ok_fparts (T : Tx mg) (d : Df K mg "_law_forest_parts" (top 52) ["_law_heap_here", "_law_kinds", "_law_types"]) (g1 : Kdraw P w K mg base oa ia) (g3 : Knames P w K mg base oa ia) : Kfparts P w K mg base oa ia := by
  refine kn_ok d sc_fparts (fun _ => rfl) ptm fun f cdv A outer s H E o i => ?_
  obtain ⟨⟨n, m⟩, ⟨hn1, hn8⟩, hm⟩ := i
  have hn1 : 1 ≤ n := hn1
  have hn8 : n ≤ 8 := hn8
  have hm : m ≤ 12 := hm
  refine wSetG (P := fun s => ∃ q : Nat, (1 ≤ q ∧ q ≤ n) ∧ s = .d (.int (q : Int))) (i := 3) o (ae_addG ae_int (wCall g1 o (aa2 (vv 0) (vv 1)) ⟨(n : Int), by omega, by omega⟩) fun s t p1 p2 => ?_) (fun s z => ?_) (fun s z ds e => by obtain ⟨r, _, rfl⟩ := z; cases e)
  · obtain ⟨r, ⟨h0, h1⟩, rfl⟩ := p2
    have h1 : r < (n : Int) := h1
    exact ⟨1, r, p1, rfl, (1 + r).toNat, ⟨by omega, by omega⟩, by rw [Int.toNat_of_nonneg (by omega)]⟩
  obtain ⟨q, ⟨hq1, hq2⟩, rfl⟩ := z
  refine wSetLcG (i := 4) o (lc_draws (n := q) (j := 5) (x := "_law_place") (lo := -1) (hi := (q : Int)) o (by omega) ((wR1 (n := q) T.range (vv 3) (by omega) rfl).toI) (fun s H C cl fp i => wName (o.blk ..)) fun s H C cl fp i hi => ae_subG (wCall g1 (o.blk ..) (aa2 (vv 0) (ae_add (vv 5) ae_int)) ⟨(i : Int) + 1, by omega, by omega⟩) ae_int fun s t p1 p2 => ?_) (fun s z => ?_) own_l
  · obtain ⟨r, ⟨h0, h1⟩, rfl⟩ := p1
    have h1 : r < (i : Int) + 1 := h1
    exact ⟨r, 1, rfl, p2, r - 1, ⟨by omega, by omega⟩, rfl⟩
  obtain ⟨ab, ⟨hal, hab⟩, rfl⟩ := z
  refine wSetG (i := 6) o (LcJ.ae (lc_draws (n := n) (j := 7) (x := "_law_kind") (lo := -1) (hi := (q : Int)) o (by omega) ((wR1 (n := n) T.range (vv 1) (by omega) rfl).toI) (fun s H C cl fp i => wName (o.blk ..)) fun s H C cl fp i hi => ae_subG (wCall g1 (o.blk ..) (aa2 (vv 0) (ae_add (vv 3) ae_int)) ⟨(q : Int) + 1, by omega, by omega⟩) ae_int fun s t p1 p2 => ?_) o) (fun s z => ?_) own_l
  · obtain ⟨r, ⟨h0, h1⟩, rfl⟩ := p1
    have h1 : r < (q : Int) + 1 := h1
    exact ⟨r, 1, rfl, p2, r - 1, ⟨by omega, by omega⟩, rfl⟩
  obtain ⟨sp, ⟨hsl, _⟩, rfl⟩ := z
  have hspl : ∀ x ∈ List.range n, (sp.map D.int)[x]? = some (.int (sp.getD x 0)) := fun x hx => get_map (by rw [hsl]; exact List.mem_range.mp hx)
  refine ass_parM (i := 8) (j := 9) o (wCall g3 o (aa2 (vv 0) (vv 2)) ⟨m, hm⟩) (P2 := (· = .own [])) (ae_lst aa_nil (by decide)) (fun s z ds e => by obtain ⟨ns, _, rfl⟩ := z; cases e) (fun s z ds e => by rw [z] at e; cases e) fun s u z1 z2 => ?_
  obtain ⟨ns, hns, rfl⟩ := z1
  subst z2
  have hnl : ns.length = m := hns.1
  refine ass_cons (fun δ' => ∃ ts : List Ty, ∃ a b c d, ts.map (·.1) = ns ∧ (∀ t ∈ ts, LotIn n t.2) ∧ δ' = [some .hp, some (.d (.int (n : Int))), some (.d (.int (m : Int))), some (.d (.int (q : Int))), some (.own (ab.map D.int)), none, some (.own (sp.map D.int)), none, some (.d (eNames ns)), some (.own (ts.map eTy)), a, b, c, d])
    (as_for (I := fun k δ' => ∃ ts : List Ty, ts.map (·.1) = ns.take k ∧ (∀ t ∈ ts, LotIn n t.2) ∧ δ' = [some .hp, some (.d (.int (n : Int))), some (.d (.int (m : Int))), some (.d (.int (q : Int))), some (.own (ab.map D.int)), none, some (.own (sp.map D.int)), none, some (.d (eNames ns)), some (.own (ts.map eTy)), none, none, none, none]) (ix := [10]) (fun k δ => δ.set 10 (some (.d (.str (ns.getD k ""))))) o (fun _ => rfl) (ai_tup (vv 8)).toS ⟨_, ⟨[], rfl, (fun _ h => nomatch h), rfl⟩, .refl _⟩ (fun k d hd => ?_) (fun k d δ' hd hI => ?_) (fun δ' h => ?_)) fun δ' z => ?_
  · have hi : k < ns.length := by
      have := (List.getElem?_eq_some_iff.mp hd).1
      rwa [List.length_map] at this
    rw [get_map (f := D.str) (d := "") hi] at hd
    cases hd
    exact wName o
  · obtain ⟨ts, hts, hlot, rfl⟩ := hI
    have hi : k < ns.length := by
      have := (List.getElem?_eq_some_iff.mp hd).1
      rwa [List.length_map] at this
    have hg := getD_get (xs := ns) (d := ("" : Str)) hi
    have htl : ts.length = k := by
      have := congrArg List.length hts
      rw [List.length_map, List.length_take] at this
      omega
    refine ass_parC (i := 11) (j := 12) (P1 := fun s => ∃ r, (-1 ≤ r ∧ r < (q : Int)) ∧ s = .d (.int r)) o (ae_subG (wCall g1 o (aa2 (vv 0) (ae_add (vv 3) ae_int)) ⟨(q : Int) + 1, by omega, by omega⟩) ae_int fun s t p1 p2 => ?_) (P2 := (· = .own [])) (ae_lst aa_nil (by decide)) (fun s z ds e => by obtain ⟨ns, _, rfl⟩ := z; cases e) (fun s z ds e => by rw [z] at e; cases e) fun s u z1 z2 => ?_
    · obtain ⟨r, ⟨h0, h1⟩, rfl⟩ := p1
      have h1 : r < (q : Int) + 1 := h1
      exact ⟨r, 1, rfl, p2, r - 1, ⟨by omega, by omega⟩, rfl⟩
    obtain ⟨hm0, hhm, rfl⟩ := z1
    subst z2
    refine ass_cons (fun δ' => ∃ wy : List Int, ∃ b c, δ' = [some .hp, some (.d (.int (n : Int))), some (.d (.int (m : Int))), some (.d (.int (q : Int))), some (.own (ab.map D.int)), none, some (.own (sp.map D.int)), none, some (.d (eNames ns)), some (.own (ts.map eTy)), some (.d (.str (ns.getD k ""))), b, some (.own (wy.map D.int)), c])
      (as_for (I := fun j δ' => ∃ (wy : List Int) (hm : Int), wy.length ≤ j ∧ (-1 ≤ hm ∧ hm < (q : Int)) ∧ δ' = [some .hp, some (.d (.int (n : Int))), some (.d (.int (m : Int))), some (.d (.int (q : Int))), some (.own (ab.map D.int)), none, some (.own (sp.map D.int)), none, some (.d (eNames ns)), some (.own (ts.map eTy)), some (.d (.str (ns.getD k ""))), some (.d (.int hm)), some (.own (wy.map D.int)), none]) (ix := [13]) (fun k δ => δ.set 13 (some (.d (.int (k : Int))))) o (fun _ => rfl) (wR1 (n := q) T.range (vv 3) (by omega) rfl).toS ⟨_, ⟨[], hm0, Nat.le_refl _, hhm, rfl⟩, .refl _⟩ (fun j d hd => ?_) (fun j d δ' hd hI => ?_) (fun δ' h => ?_)) fun δ' z => ?_
    · have hj : j < q := by
        have := (List.getElem?_eq_some_iff.mp hd).1
        rwa [List.length_map, List.length_range] at this
      rw [List.getElem?_map, List.getElem?_range hj] at hd
      cases hd
      exact wName o
    · have hj : j < q := by
        have := (List.getElem?_eq_some_iff.mp hd).1
        rwa [List.length_map, List.length_range] at this
      obtain ⟨wy, hm, hwl, hmr, rfl⟩ := hI
      refine ass_one (as_if (at_ge (vv 11) ae_int) (fun h0 => ?_) fun _ => ass_nil ⟨_, ⟨wy, hm, by omega, hmr, rfl⟩, by repeat' first | exact Fg.nil | apply Fg.same | apply Fg.drop⟩)
      have h0 : 0 ≤ hm := of_decide_eq_true h0
      have hal2 : hm.toNat < ab.length := by omega
      refine wApp (i := 12) (ds := wy.map D.int) (vv 11) (by rw [List.length_map]; omega) ?_
      refine wSet (i := 11) o (wIx hm.toNat (vo 4) (vv 11) .l (get_map (d := 0) hal2) (Int.toNat_of_nonneg h0).symm) (ass_nil ⟨_, ⟨wy ++ [hm], ab.getD hm.toNat 0, by rw [List.length_append]; show wy.length + 1 ≤ _; omega, ?_, rfl⟩, ?_⟩)
      · rw [← getD_get hal2]
        exact hab _ (List.getElem_mem hal2)
      · rw [List.map_append]
        repeat' first | exact Fg.nil | apply Fg.same | apply Fg.drop
    · obtain ⟨wy, hm, _, _, rfl⟩ := h
      exact ⟨wy, _, _, rfl⟩
    · obtain ⟨wy, b, c, rfl⟩ := z
      refine ass_app (P := fun s => ∃ l, LotIn n l ∧ s = .d (eTy (ns.getD k "", l))) (i := 9) rfl rfl (Or.inl rfl) (by decide) (by decide) (by rw [List.length_map]; omega) ?_ (fun s ⟨l, _, e⟩ => ⟨_, e⟩) rfl rfl rfl rfl rfl rfl fun d hd => ?_
      · refine AE.weak (ae_tup (ds := [.str (ns.getD k ""), tupI (((List.range n).filter fun x => decide (sp.getD x 0 ∈ wy)).map nI)]) (aa2 (vv 10) (wTupP T.tuple (LcJ.aq (wLc (xs := List.range n) (enc := fun k : Nat => .int (k : Int)) [("_law_kind", 7)] (ix := [7]) (fun x => decide (sp.getD x 0 ∈ wy)) (fun x => .int (nI x)) (fun k δ => δ.set 7 (some (.d (.int (k : Int))))) o (by rw [List.length_range]; omega) ((wR1 (n := n) T.range (vv 1) (by omega) rfl).toI) (fun s H C cl fp x => wName (o.blk ..))
          (fun s H C cl fp x hx => ats_one (tInI (wIx x (vo 6) (vv 7) .l (hspl x hx)) (vo 12) .l)) (fun s H C cl fp x hx _ => vv 7)) o (own_eq (by rw [List.map_map] <;> rfl))))) (by show 2 ≤ 100; decide)) fun s e => ⟨_, ⟨fun x hx => ?_, ?_⟩, e⟩
        · obtain ⟨y, hy, rfl⟩ := List.mem_map.mp hx
          have := List.mem_range.mp (List.mem_filter.mp hy).1
          unfold nI
          omega
        · rw [List.pairwise_map]
          exact (List.pairwise_lt_range.sublist List.filter_sublist).imp fun {a b} h => by unfold nI; omega
      · obtain ⟨l2, h2, e⟩ := hd
        cases e
        refine ass_nil ⟨_, ⟨ts ++ [(ns.getD k "", l2)], ?_, fun t ht => ?_, rfl⟩, ?_⟩
        · rw [List.map_append, hts, List.take_add_one, List.getElem?_eq_getElem hi, hg] <;> rfl
        · rcases List.mem_append.mp ht with ht | ht
          · exact hlot t ht
          · rw [List.mem_singleton.mp ht]
            exact h2
        · rw [List.map_append]
          exact .same (.same (.same (.same (.same (.same (.same (.same (.same (.same (.drop (.drop (.drop (.drop .nil)))))))))))))
  · obtain ⟨ts, hts, hlot, rfl⟩ := h
    rw [List.length_map, List.take_length] at hts
    exact ⟨ts, _, _, _, _, hts, hlot, rfl⟩
  · obtain ⟨ts, a, b, c, d, hts, hlot, rfl⟩ := z
    refine ass_one (wRetG (ae_tupG (ag2 (wCall g3 o (aa2 (vv 0) (vv 1)) ⟨n, by omega⟩) (wTup T.tuple (vo 9) (.inr rfl))) fun ss z => ?_) fun s z => ⟨fun ds e => ?_, z⟩)
    · obtain ⟨s, t, ⟨ks, hks, rfl⟩, rfl, rfl⟩ := z
      exact ⟨[eNames ks, eTys ts], rfl, by show 2 ≤ 100; decide, ks, ts, .mk' hks hns hts hlot, rfl⟩
    · obtain ⟨_, _, _, rfl⟩ := z
      cases e
end
end NR
namespace NR
open PySem PySem.Spec PyProof.Rows L2
section
variable {P : Program} {w : World} {K : PySem.W.Frag} {mg : Str → Option Value} {base : Heap} {oa ia : Addr}
theorem take_drop_fst {ts : List Ty} {a : Nat} {t : Ty} {l : List Int} (h : ts[a]? = some t) : (ts.take a ++ [(t.1, l)] ++ ts.drop (a + 1)).map (·.1) = ts.map (·.1) := by
  have ha : a < ts.length := (List.getElem?_eq_some_iff.mp h).1
  have e : ts = ts.take a ++ [t] ++ ts.drop (a + 1) := by
    have h1 : ts.take (a + 1) = ts.take a ++ [t] := by
      rw [List.take_add_one, h] <;> rfl
    rw [← h1, List.take_append_drop]
  conv => rhs; rw [e]
  simp
theorem Pts.swap {n m : Nat} {ks : List Str} {ts : List Ty} (h : Pts n m ks ts) {a : Nat} {t : Ty} {l : List Int} (ha : ts[a]? = some t) (hl : LotIn n l) : Pts n m ks (ts.take a ++ [(t.1, l)] ++ ts.drop (a + 1)) := by
  refine .mk' ⟨h.kl, h.kn, h.ka⟩ (ns := ts.map (·.1)) ⟨by rw [List.length_map, h.tl], fun s hs => ?_, h.ta⟩ (take_drop_fst ha) fun u hu => ?_
  · obtain ⟨u, hu, rfl⟩ := List.mem_map.mp hs
    exact h.tn u hu
  · rcases List.mem_append.mp hu with hu | hu
    · rcases List.mem_append.mp hu with hu | hu
      · exact h.lot u (List.mem_of_mem_take hu)
      · rw [List.mem_singleton.mp hu]
        exact hl
    · exact h.lot u (List.mem_of_mem_drop hu)
theorem lot_len {n : Nat} {l : List Int} (h : LotIn n l) : l.length ≤ n := by
  have := asc_bound (m := n) (lo := 0) (fun x hx => (h.1 x hx).2) (fun x hx => (h.1 x hx).1) h.2 (by omega)
  omega
abbrev Kany (P : Program) (w : World) (K : PySem.W.Frag) (mg : Str → Option Value) (base : Heap) (oa ia : Addr) := Kn P w K mg base (WH oa ia) 5 "_law_any_parts" ["_law_heap_here", "_law_kinds", "_law_types"] ptArgs ptPost
theorem sc_any : FnScope ["_law_heap_here", "_law_kinds", "_law_types", "_law_kind", "_law_names_here", "_law_found", "_law_at", "_law_other", "_law_lot_here", "_law_one"] ["_law_heap_here", "_law_kinds", "_law_types"] (defScope (top 53)) := ⟨rfl, rfl, rfl, by decide +kernel, rfl, by decide +kernel, by decide +kernel⟩
theorem post_l (i : PtX) (s : S) (h : ptPost i s) : ∀ ds, s ≠ .l ds := fun ds e => by
  obtain ⟨_, _, _, rfl⟩ := h
  cases e
theorem ok_any (T : Tx mg) (d : Df K mg "_law_any_parts" (top 53) ["_law_heap_here", "_law_kinds", "_law_types"]) (g1 : Kdraw P w K mg base oa ia) (g2 : Kparts2 P w K mg base oa ia) (g3 : Kfparts P w K mg base oa ia) : Kany P w K mg base oa ia := by
  refine kn_ok d sc_any (fun _ => rfl) ptm fun f cdv A outer s H E o i => ?_
  obtain ⟨⟨n, m⟩, ⟨hn1, hn8⟩, hm⟩ := i
  have hn1' : 1 ≤ n := hn1
  have hn8' : n ≤ 8 := hn8
  have hm' : m ≤ 12 := hm
  refine wSetG (i := 3) o (wCall g1 o (aa2 (vv 0) ae_int) ⟨3, by decide, by decide⟩) (fun s z => ?_) (fun s z ds e => by obtain ⟨r, _, rfl⟩ := z; cases e)
  obtain ⟨kd, _, rfl⟩ := z
  refine ass_ifR (B := fun _ => True) (AT.weak (at_eqI (vv 3) ae_int) fun _ _ => trivial) (fun _ => ass_one (wRetG (wCall g2 o (aa3 (vv 0) (vv 1) (vv 2)) ⟨(n, m), ⟨hn1, hn8⟩, hm⟩) fun s z => ⟨post_l _ s z, z⟩)) fun _ => ?_
  refine wUnG (P := ptPost ⟨(n, m), ⟨hn1, hn8⟩, hm⟩) (ix := [4, 5]) (up2 4 5) (wCall g3 o (aa3 (vv 0) (vv 1) (vv 2)) ⟨(n, m), ⟨hn1, hn8⟩, hm⟩) (fun s z => ?_) (fun d z => ?_) fun d z => ?_
  · obtain ⟨_, _, _, rfl⟩ := z
    exact ⟨_, rfl⟩
  · obtain ⟨_, _, _, e⟩ := z
    cases e
    exact wTg2 o
  obtain ⟨ks, ts, hp, e⟩ := z
  cases e
  have hp : Pts n m ks ts := hp
  have htl : ts.length = m := hp.tl
  have htl2 : (ts.map eTy).length = ts.length := List.length_map ..
  refine ass_ifM (M := fun δ' => ∃ ts' a b c, Pts n m ks ts' ∧ δ' = [some .hp, some (.d (.int (n : Int))), some (.d (.int (m : Int))), some (.d (.int kd)), some (.d (eNames ks)), some (.d (eTys ts')), a, b, c, none]) (B := fun b => b = true → ts ≠ []) ?_ (fun hB => ?_) (fun _ => ass_nil ⟨_, ⟨ts, _, _, _, hp, rfl⟩, .refl _⟩) fun δ' ⟨ts', a, b, c, hp', e⟩ => ?_
  · refine (aw_andG (B1 := fun _ => True) (AT.weak (at_eqI (vv 3) ae_int) fun _ _ => trivial) (aw_and1 (at_neET o (vv 5) (ae_tup (ds := []) aa_nil (by decide)))) (fun _ z => nomatch z) fun _ q e z => ?_).pt
    intro h
    rw [z, h] at e
    cases e
  · have hne := hB rfl
    have hpos : 0 < ts.length := List.length_pos_iff.mpr hne
    refine ass_parC (i := 6) (j := 7) o (wCall g1 o (aa2 (vv 0) (wLen T.len (vv 5) .t)) ⟨((ts.map eTy).length : Int), by rw [htl2]; omega, by rw [htl2]; omega⟩) (wCall g1 o (aa2 (vv 0) (vv 1)) ⟨(n : Int), by omega, by omega⟩) (fun s z ds e => by obtain ⟨r, _, rfl⟩ := z; cases e) (fun s z ds e => by obtain ⟨r, _, rfl⟩ := z; cases e) fun s u z1 z2 => ?_
    obtain ⟨a, ⟨ha0, ha1⟩, rfl⟩ := z1
    obtain ⟨x, hx, rfl⟩ := z2
    have hx : 0 ≤ x ∧ x < (n : Int) := hx
    have ha1 : a < ((ts.map eTy).length : Int) := ha1
    have hal : a.toNat < ts.length := by rw [htl2] at ha1; omega
    have hai : a = (a.toNat : Int) := (Int.toNat_of_nonneg ha0).symm
    have hg := getD_get (xs := ts) (d := (("", []) : Ty)) hal
    have hget : (ts.map eTy)[a.toNat]? = some (eTy (ts.getD a.toNat ("", []))) := get_map hal
    have hget2 : ts[a.toNat]? = some (ts.getD a.toNat ("", [])) := by rw [List.getElem?_eq_getElem hal, hg]
    generalize ts.getD a.toNat ("", []) = t at hget hget2 hg
    have hlot : LotIn n t.2 := hp.lot t (List.mem_of_getElem? hget2)
    have htl8 := lot_len hlot
    refine wSetG (P := fun s => ∃ l, LotIn n l ∧ s = .d (tupI l)) (i := 8) o (ae_ifG (P := fun s => ∃ l, LotIn n l ∧ s = .d (tupI l)) (tNiI (vv 7) (wIx (ds := [.str t.1, tupI t.2]) 1 (wIx (d := eTy t) a.toNat (vv 5) (vv 6) .t hget hai) ae_int .t rfl) .t) (fun _ => ?_) (fun _ => ?_)) (fun s z => ?_) (fun s z ds e => by obtain ⟨r, _, rfl⟩ := z; cases e)
    · have hin : LotIn n (setS (t.2 ++ [x])) := ⟨fun y hy => by
        rcases List.mem_append.mp ((setS_mem y _).mp hy) with h | h
        · exact hlot.1 y h
        · rw [List.mem_singleton.mp h]
          exact hx, setS_pw _⟩
      have h8 := lot_len hin
      exact AE.weak (wTup T.tuple (wSortSet (ns := t.2 ++ [x]) o T.sorted T.set (AEq.to (ae_addL (ds := t.2.map D.int) (es' := [.int x]) (wList T.list (wIx (ds := [.str t.1, tupI t.2]) 1 (wIx (d := eTy t) a.toNat (vv 5) (vv 6) .t hget hai) ae_int .t rfl) .t) (ae_lst (aa_cons (vv 7) aa_nil) (by show 1 ≤ 100; decide)) (.inl rfl) (.inl rfl) (by rw [List.length_map]; show t.2.length + 1 ≤ _; omega)) (s := .own (t.2.map D.int ++ [.int x])) (t := .own ((t.2 ++ [x]).map D.int)) (by rw [List.map_append] <;> rfl)) (.inl rfl) (by rw [List.length_append]; show t.2.length + 1 ≤ _; omega) (by omega)) (.inl rfl)) fun s e => ⟨_, hin, e⟩
    · exact AE.weak (wTupP T.tuple (LcJ.aq (wLc (xs := t.2) (enc := D.int) [("_law_one", 9)] (ix := [9]) (fun y => !decide (y = x)) (fun y => .int y) (fun y δ => δ.set 9 (some (.d (.int y)))) o (by omega) (ai_tup (wIx (ds := [.str t.1, tupI t.2]) 1 (wIx (d := eTy t) a.toNat (vv 5) (vv 6) .t hget hai) ae_int .t rfl)).toI (fun s H C cl fp x => wName (o.blk ..))
        (fun s H C cl fp y hy => ats_one (at_neI (vv 9) (vv 7))) (fun s H C cl fp y hy _ => vv 9)) o rfl)) fun s e => ⟨t.2.filter fun y => !decide (y = x), ⟨fun y hy => hlot.1 y (List.mem_filter.mp hy).1, hlot.2.sublist List.filter_sublist⟩, e⟩
    · obtain ⟨l, hl, rfl⟩ := z
      refine wSet (i := 5) (s := .d (eTys (ts.take a.toNat ++ [(t.1, l)] ++ ts.drop (a.toNat + 1)))) o (AEq.to (ae_addT (ae_addT (ae_slTo (vv 5) (vv 6) hai) (ae_tup (ds := [eTy (t.1, l)]) (aa_cons (ae_tup (ds := [.str t.1, tupI l]) (aa2 (wIx (ds := [.str t.1, tupI t.2]) 0 (wIx (d := eTy t) a.toNat (vv 5) (vv 6) .t hget hai) ae_int .t rfl) (vv 8)) (by show 2 ≤ 100; decide)) aa_nil) (by show 1 ≤ 100; decide)) ?_) (ae_slFrom (k := a.toNat + 1) (vv 5) (ae_add (vv 6) ae_int) (by omega)) ?_) ?_) (ass_nil ⟨_, ⟨_, _, _, _, hp.swap hget2 hl, rfl⟩, .refl _⟩)
      · rw [List.length_take]
        show min _ (ts.map eTy).length + 1 ≤ _
        omega
      · rw [List.length_append, List.length_take, List.length_drop]
        show min _ (ts.map eTy).length + 1 + ((ts.map eTy).length - _) ≤ _
        omega
      · unfold eTys
        rw [List.map_append, List.map_append, List.map_take, List.map_drop] <;> rfl
  · subst e
    refine ass_one (wRetG (AE.weak (ae_tup (ds := [eNames ks, eTys ts']) (aa2 (vv 4) (vv 5)) (by show 2 ≤ 100; decide)) fun s e => (⟨ks, ts', hp', e⟩ : ptPost ⟨(n, m), ⟨hn1, hn8⟩, hm⟩ s)) fun s z => ⟨post_l _ s z, z⟩)
end
end NR
namespace NR
open PySem PySem.Spec PyProof.Rows L2
section
variable {X : Cx} {W : Wd} {e a b c elt tg iter : Expr} {es ifs : List Expr} {δ : Env} {pos : Pos} {st : Stmt} {rest body : List Stmt} {p q : Post} {P : S → Prop}
theorem wRetO (i : Nat) {x : Str} {ds : List D} {pn : Pos} (hP : p.R (.own ds)) (he : δ[i]? = some (some (.own ds)) := by rfl) (hN : X.N[i]? = some x := by rfl) (hv : Vis X.env.scope x := by first | exact Or.inl rfl | exact Or.inr (Or.inl rfl) | exact Or.inr (Or.inr rfl)) (hd : (x == ("__debug__" : Str)) = false := by decide) (hc : (x == ("__classdict__" : Str)) = false := by decide) : AS X W (.Return (some (.Name x pn)) pos) δ p := as_retO he hN hv hd hc hP
/-- x = y, where y is a list of one's own: it is x's from now on -/
theorem wMove {k i j : Nat} {x y : Str} {ds : List D} {pn pos' : Pos} (o : Cok k X) (hij : i ≠ j) (t : ASs X W rest ((δ.set i none).set j (some (.own ds))) p) (he : δ[i]? = some (some (.own ds)) := by rfl) (hN : X.N[i]? = some y := by rfl) (hv : Vis X.env.scope y := by first | exact Or.inl rfl | exact Or.inr (Or.inl rfl) | exact Or.inr (Or.inr rfl)) (hd : (y == ("__debug__" : Str)) = false := by decide) (hc : (y == ("__classdict__" : Str)) = false := by decide)
    (hi : X.N[j]? = some x := by rfl) (hx : Loc X.env.scope x := by first | exact Or.inl rfl | exact Or.inr rfl) (hf : X.fn x = true ∨ X.env.scope.names.lookup x = some .local := by first | exact .inl rfl | exact .inr rfl) (hs : swapsWith (.Name y pn) (some (.Name x pos')) pos.line X.env = pure false := by rfl) : ASs X W (.Assign [.Name x pos'] (.Name y pn) pos :: rest) δ p := by
  refine ass_cons (fun δ' => δ' = (δ.set i none).set j (some (.own ds))) (ps_weak (ps_set o.nd hi hx (pe_var hN hv hd hc) hs hf) fun D σ H ⟨B, q1, q2⟩ => ?_) fun δ' e => e ▸ t
  obtain ⟨v, e1, e2⟩ := q1.at_ i _ he
  refine ⟨v, e1, q2.nx B _ _ H (.refl B) (.refl H) rfl ?_⟩
  have s1 : SRs X.K W B (δ.set i none) σ H := q1.fg ⟨by rw [List.length_set], fun k s z => (set_none z).2⟩
  refine s1.setD e2 fun _ k t a nk z m ev hk => ?_
  obtain ⟨nki, z'⟩ := set_none z
  exact q1.ne i k _ t a (Ne.symm nki) he z' trivial m (by rw [e1, ev]) hk
/-- .. where a list is made anew -/
theorem wNew {ds : List D} (h : AEq X W e δ (.own ds)) : AIs X W tg e δ ds := ais_new h
end
theorem zip_range {α : Type} (d : α) (xs : List α) : xs.zipIdx = (List.range xs.length).map fun a => (xs.getD a d, a) := by
  apply List.ext_getElem?
  intro i
  rw [List.getElem?_zipIdx, List.getElem?_map]
  by_cases h : i < xs.length
  · rw [List.getElem?_range h, List.getElem?_eq_getElem h, getD_get (d := d) h]
    simp
  · rw [List.getElem?_eq_none (by omega), List.getElem?_eq_none (by rw [List.length_range]; omega)] <;> rfl
theorem rangeT (ts : List Ty) (k : Int) : ((List.range ts.length).filter fun a => decide (k ∈ (ts.getD a ("", [])).2)).map nI = takersM ts k := by
  unfold takersM
  rw [zip_range (("", []) : Ty) ts, List.filter_map, List.map_map] <;> rfl
theorem takers_mem {ts : List Ty} {k r : Int} : r ∈ takersM ts k ↔ ∃ a : Nat, r = nI a ∧ a < ts.length ∧ k ∈ (ts.getD a ("", [])).2 := by
  rw [← rangeT]
  simp only [List.mem_map, List.mem_filter, List.mem_range, decide_eq_true_eq]
  constructor
  · rintro ⟨a, ⟨h1, h2⟩, rfl⟩
    exact ⟨a, rfl, h1, h2⟩
  · rintro ⟨a, rfl, h1, h2⟩
    exact ⟨a, ⟨h1, h2⟩, rfl⟩
theorem takers_pw (ts : List Ty) (k : Int) : (takersM ts k).Pairwise (· < ·) := by
  rw [← rangeT, List.pairwise_map]
  exact (List.pairwise_lt_range.sublist List.filter_sublist).imp fun {a b} h => by unfold nI; omega
theorem allT_getD {n : Nat} {ts : List Ty} {k : Nat} (h : k < n) : (allT n ts).getD k [] = takersM ts (nI k) := by
  unfold allT
  rw [List.getD_eq_getElem?_getD, List.getElem?_map, List.getElem?_range h] <;> rfl
theorem take_flat {α β : Type} {f : α → List β} {xs : List α} {i : Nat} {x : α} (h : xs[i]? = some x) : (xs.take (i + 1)).flatMap f = (xs.take i).flatMap f ++ f x := by
  rw [List.take_add_one, h, List.flatMap_append]
  simp
def inF (ts : List Ty) (k l f : Int) : List (List Int × List Int) := (mineM ts k l).flatMap fun m => (mineM ts l k).map fun y => ([k, l], [f, m, y])
theorem crossAt_eq (ts : List Ty) (k l : Nat) : crossAt ts (k, l) = (bothM ts (nI k) (nI l)).flatMap (inF ts (nI k) (nI l)) := rfl
def ifF (ts : List Ty) (k l : Int) (a : Nat) : List (List Int × List Int) := if (decide (nI a ∈ takersM ts k) && decide (nI a ∈ takersM ts l)) = true then inF ts k l (nI a) else []
theorem flat_if {α β : Type} {q : α → Bool} {f : α → List β} : ∀ xs : List α, (xs.flatMap fun a => if q a = true then f a else []) = (xs.filter q).flatMap f
  | [] => rfl
  | x :: xs => by
    rw [List.flatMap_cons, flat_if xs, List.filter_cons]
    cases q x <;> simp
theorem both_range (ts : List Ty) (k l : Int) : ((List.range ts.length).filter fun a => decide (nI a ∈ takersM ts k) && decide (nI a ∈ takersM ts l)).map nI = bothM ts k l := by
  refine pw_ext ?_ ?_ fun r => ?_
  · rw [List.pairwise_map]
    exact (List.pairwise_lt_range.sublist List.filter_sublist).imp fun {a b} h => by unfold nI; omega
  · exact (takers_pw ts k).sublist List.filter_sublist
  · unfold bothM
    simp only [List.mem_map, List.mem_filter, List.mem_range, decide_eq_true_eq, Bool.and_eq_true]
    constructor
    · rintro ⟨a, ⟨_, h2⟩, rfl⟩
      exact h2
    · rintro ⟨h1, h2⟩
      obtain ⟨a, rfl, h3, _⟩ := takers_mem.mp h1
      exact ⟨a, ⟨h3, h1, h2⟩, rfl⟩
theorem range_ifF (ts : List Ty) (k l : Nat) : (List.range ts.length).flatMap (ifF ts (nI k) (nI l)) = crossAt ts (k, l) := by
  show ((List.range ts.length).flatMap fun a => if (decide (nI a ∈ takersM ts (nI k)) && decide (nI a ∈ takersM ts (nI l))) = true then inF ts (nI k) (nI l) (nI a) else []) = _
  rw [flat_if, crossAt_eq, ← both_range, List.flatMap_map] <;> rfl
def lawR (n : Nat) (ts : List Ty) (k : Nat) : List (List Int × List Int) := (restR n k).flatMap fun l => crossAt ts (k, l)
def lawC (n : Nat) (ts : List Ty) : List (List Int × List Int) := (List.range n).flatMap (lawR n ts)
def eLC (c : List Int × List Int) : D := .tup [tupI c.1, tupI c.2]
section
variable {P : Program} {w : World} {K : PySem.W.Frag} {mg : Str → Option Value} {base : Heap} {W : Wd}
abbrev Kltakers (P : Program) (w : World) (K : PySem.W.Frag) (mg : Str → Option Value) (base : Heap) (W : Wd) := Kn P w K mg base W 1 "_law_takers" ["_law_kinds", "_law_types"] (fun i : TbX => [.d (eNames i.1.1), .d (eTys i.1.2)]) (fun i s => s = .own ((allT i.1.1.length i.1.2).map tupI))
theorem tbm (i : TbX) : ∀ s ∈ [S.d (eNames i.1.1), .d (eTys i.1.2)], ¬ Mutb s := fun s h => by simp at h; rcases h with rfl | rfl <;> exact id
theorem sc_ltakers : FnScope ["_law_kinds", "_law_types", "_law_at", "_law_kind"] ["_law_kinds", "_law_types"] (defScope (top 54)) := ⟨rfl, rfl, rfl, by decide +kernel, rfl, by decide +kernel, by decide +kernel⟩
theorem ok_ltakers (T : Tx mg) (d : Df K mg "_law_takers" (top 54) ["_law_kinds", "_law_types"]) : Kltakers P w K mg base W := by
  refine kn_ok d sc_ltakers (fun _ => rfl) tbm fun f cdv A outer s H E o i => ?_
  have h8 := i.tb.k8
  have h12 := i.tb.t12
  have hl : (i.1.1.map D.str).length = i.1.1.length := List.length_map ..
  have hl2 : (i.1.2.map eTy).length = i.1.2.length := List.length_map ..
  have hget : ∀ x ∈ List.range i.1.2.length, (i.1.2.map eTy)[x]? = some (eTy (i.1.2.getD x ("", []))) := fun x hx => get_map (List.mem_range.mp hx)
  refine ass_one (wRet (LcJ.aq (wLcA (xs := List.range i.1.1.length) (enc := fun k : Nat => .int (k : Int)) [("_law_kind", 3)] (ix := [3]) (fun k => tupI (takersM i.1.2 (nI k))) (fun k δ => δ.set 3 (some (.d (.int (k : Int))))) o (by rw [List.length_range]; omega) ((wR1 (n := i.1.1.length) T.range (wLen T.len (vv 0) .t) (by omega) (by rw [hl])).toI) (fun s H C cl fp x => wName (o.blk ..))
    fun s H C cl fp k hk => wTupP T.tuple (LcJ.aq (wLc (xs := List.range i.1.2.length) (enc := fun a : Nat => .int (a : Int)) [("_law_at", 2)] (ix := [2]) (fun a => decide (nI k ∈ (i.1.2.getD a ("", [])).2)) (fun a => .int (nI a)) (fun a δ => δ.set 2 (some (.d (.int (a : Int))))) (o.blk ..) (by rw [List.length_range]; omega) ((wR1 (n := i.1.2.length) T.range (wLen T.len (vv 1) .t) (by omega) (by rw [hl2])).toI) (fun s H C cl fp x => wName ((o.blk ..).blk ..))
      (fun s H C cl fp a ha => ats_one (tInI (vv 3) (wIx (ds := [.str (i.1.2.getD a ("", [])).1, tupI (i.1.2.getD a ("", [])).2]) 1 (wIx (d := eTy (i.1.2.getD a ("", []))) a (vv 1) (vv 2) .t (hget a ha)) ae_int .t rfl) .t)) (fun s H C cl fp a ha _ => vv 2)) (o.blk ..) (own_eq ?_))) o (own_eq ?_)) rfl)
  · rw [← rangeT, List.map_map] <;> rfl
  · unfold allT
    rw [List.map_map] <;> rfl
abbrev Klcross (P : Program) (w : World) (K : PySem.W.Frag) (mg : Str → Option Value) (base : Heap) (W : Wd) := Kn P w K mg base W 2 "_law_crossings" ["_law_kinds", "_law_types"] (fun i : TbX => [.d (eNames i.1.1), .d (eTys i.1.2)]) (fun i s => s = .own ((lawC i.1.1.length i.1.2).map eLC))
theorem sc_lcross : FnScope ["_law_kinds", "_law_types", "_law_lots", "_law_found", "_law_one", "_law_other", "_law_first", "_law_mine", "_law_at", "_law_yours"] ["_law_kinds", "_law_types"] (defScope (top 55)) := ⟨rfl, rfl, rfl, by decide +kernel, rfl, by decide +kernel, by decide +kernel⟩
abbrev crE (i : TbX) (found : List (List Int × List Int)) (a b c d : Option S) : Env := [some (.d (eNames i.1.1)), some (.d (eTys i.1.2)), some (.own ((allT i.1.1.length i.1.2).map tupI)), some (.own (found.map eLC)), a, b, c, d, none, none]
theorem ok_lcross (T : Tx mg) (d : Df K mg "_law_crossings" (top 55) ["_law_kinds", "_law_types"]) (g : Kltakers P w K mg base W) : Klcross P w K mg base W := by
  refine kn_ok d sc_lcross (fun _ => rfl) tbm fun f cdv A outer s H E o i => ?_
  have h8 := i.tb.k8
  have h12 := i.tb.t12
  have hl : (i.1.1.map D.str).length = i.1.1.length := List.length_map ..
  have hl2 : (i.1.2.map eTy).length = i.1.2.length := List.length_map ..
  have hgT : ∀ k : Nat, k < i.1.1.length → ((allT i.1.1.length i.1.2).map tupI)[k]? = some (tupI (takersM i.1.2 (nI k))) := fun k hk => by
    rw [get_map (f := tupI) (d := []) (by rw [allT_len]; exact hk), allT_getD hk]
  have hc1 : ∀ p, (crossAt i.1.2 p).length ≤ 1728 := crossAt_len i
  have hr1 : ∀ k, (lawR i.1.1.length i.1.2 k).length ≤ 8 * 1728 := fun k => Nat.le_trans (flat_len (c := 1728) fun l _ => hc1 _) (Nat.mul_le_mul (Nat.le_trans (restR_len _ _) h8) (Nat.le_refl _))
  refine wParC (i := 2) (j := 3) o (wCallE g o (aa2 (vv 0) (vv 1)) i) (ae_lst (ds := []) aa_nil (by decide)) ?_
  refine ass_cons (fun δ' => ∃ a b c d, δ' = crE i (lawC i.1.1.length i.1.2) a b c d)
    (as_for (I := fun k δ' => δ' = crE i (((List.range i.1.1.length).take k).flatMap (lawR i.1.1.length i.1.2)) none none none none) (ix := [4]) (fun k δ => δ.set 4 (some (.d (.int (k : Int))))) o (fun _ => rfl) (wR1 (n := i.1.1.length) T.range (wLen T.len (vv 0) .t) (by omega) (by rw [hl])).toS ⟨_, rfl, .refl _⟩ (fun k d hd => ?_) (fun k d δ' hd hI => ?_) (fun δ' h => ?_)) fun δ' z => ?_
  · have hk : k < i.1.1.length := by
      have := (List.getElem?_eq_some_iff.mp hd).1
      rwa [List.length_map, List.length_range] at this
    rw [List.getElem?_map, List.getElem?_range hk] at hd
    cases hd
    exact wName o
  · subst hI
    have hk : k < i.1.1.length := by
      have := (List.getElem?_eq_some_iff.mp hd).1
      rwa [List.length_map, List.length_range] at this
    have hb1 : (((List.range i.1.1.length).take k).flatMap (lawR i.1.1.length i.1.2)).length ≤ 8 * (8 * 1728) := Nat.le_trans (flat_len (c := 8 * 1728) fun l _ => hr1 l) (Nat.mul_le_mul (by rw [List.length_take, List.length_range]; omega) (Nat.le_refl _))
    rw [take_flat (List.getElem?_range hk)]
    generalize ((List.range i.1.1.length).take k).flatMap (lawR i.1.1.length i.1.2) = F1 at hb1
    have hrl : (restR i.1.1.length k).length ≤ 8 := Nat.le_trans (restR_len _ _) h8
    refine ass_cons (fun δ' => δ' = crE i (F1 ++ lawR i.1.1.length i.1.2 k) (some (.d (.int (k : Int)))) none none none) (as_for (ds := (restR i.1.1.length k).map fun l : Nat => D.int (l : Int)) (I := fun j δ' => δ' = crE i (F1 ++ ((restR i.1.1.length k).take j).flatMap fun l => crossAt i.1.2 (k, l)) (some (.d (.int (k : Int)))) none none none) (ix := [5]) (fun j δ => δ.set 5 (some (.d (.int (nI ((restR i.1.1.length k).getD j 0)))))) o (fun _ => rfl)
      ((wR2 T.range (ae_add (vv 4) ae_int) (wLen T.len (vv 0) .t) (by omega) (by omega)).eqS (by rw [hl]; exact rest_enc _ _ hk)) ⟨_, rfl, ?_⟩ (fun j d hd => ?_) (fun j d δ' hd hI => ?_) (fun δ' h => ?_)) fun δ' z => ?_
    · rw [List.take_zero, List.flatMap_nil, List.append_nil]
      exact .refl _
    · have hj : j < (restR i.1.1.length k).length := by
        have := (List.getElem?_eq_some_iff.mp hd).1
        rwa [List.length_map] at this
      rw [get_map (f := fun l : Nat => D.int (l : Int)) (d := 0) hj] at hd
      cases hd
      exact wName o
    · subst hI
      have hj : j < (restR i.1.1.length k).length := by
        have := (List.getElem?_eq_some_iff.mp hd).1
        rwa [List.length_map] at this
      have hb2 : (F1 ++ ((restR i.1.1.length k).take j).flatMap fun l => crossAt i.1.2 (k, l)).length ≤ 8 * (8 * 1728) + 8 * 1728 := by
        rw [List.length_append]
        exact Nat.add_le_add hb1 (Nat.le_trans (flat_len (c := 1728) fun l _ => hc1 _) (Nat.mul_le_mul (by rw [List.length_take]; omega) (Nat.le_refl _)))
      have hgj := List.getElem?_eq_getElem hj
      rw [take_flat hgj, ← List.append_assoc]
      have hl0 : (restR i.1.1.length k)[j] < i.1.1.length := (restR_mem.mp (List.getElem_mem hj)).2
      rw [← getD_get (d := 0) hj]
      generalize (F1 ++ ((restR i.1.1.length k).take j).flatMap fun l => crossAt i.1.2 (k, l)) = F2 at hb2
      generalize (restR i.1.1.length k)[j] = l at hl0
      have hT1 := takers12 i (nI k)
      have hT2 := takers12 i (nI l)
      refine ass_cons (fun δ' => δ' = crE i (F2 ++ crossAt i.1.2 (k, l)) (some (.d (.int (k : Int)))) (some (.d (.int (nI l)))) none none) (as_for (I := fun a δ' => δ' = crE i (F2 ++ ((List.range i.1.2.length).take a).flatMap (ifF i.1.2 (nI k) (nI l))) (some (.d (.int (k : Int)))) (some (.d (.int (nI l)))) none none) (ix := [6]) (fun a δ => δ.set 6 (some (.d (.int (a : Int))))) o (fun _ => rfl) (wR1 (n := i.1.2.length) T.range (wLen T.len (vv 1) .t) (by omega) (by rw [hl2])).toS ⟨_, rfl, ?_⟩ (fun a d hd => ?_) (fun a d δ' hd hI => ?_) (fun δ' h => ?_)) fun δ' z => ?_
      · rw [List.take_zero, List.flatMap_nil, List.append_nil]
        exact .refl _
      · have ha : a < i.1.2.length := by
          have := (List.getElem?_eq_some_iff.mp hd).1
          rwa [List.length_map, List.length_range] at this
        rw [List.getElem?_map, List.getElem?_range ha] at hd
        cases hd
        exact wName o
      · subst hI
        have ha : a < i.1.2.length := by
          have := (List.getElem?_eq_some_iff.mp hd).1
          rwa [List.length_map, List.length_range] at this
        have hif : ∀ a, (ifF i.1.2 (nI k) (nI l) a).length ≤ 144 := fun a => by
          unfold ifF
          split
          · unfold inF
            refine Nat.le_trans (flat_len (c := 12) fun m _ => ?_) (Nat.mul_le_mul (filt_len hT1) (Nat.le_refl _))
            rw [List.length_map]
            exact filt_len hT2
          · exact Nat.zero_le _
        have hb3 : (F2 ++ ((List.range i.1.2.length).take a).flatMap (ifF i.1.2 (nI k) (nI l))).length ≤ 8 * (8 * 1728) + 8 * 1728 + 1728 := by
          rw [List.length_append]
          exact Nat.add_le_add hb2 (Nat.le_trans (flat_len (c := 144) fun l _ => hif _) (Nat.le_trans (Nat.mul_le_mul (Nat.le_trans (by rw [List.length_take, List.length_range]; exact Nat.min_le_right _ _) h12) (Nat.le_refl _)) (by decide)))
        rw [take_flat (List.getElem?_range ha), ← List.append_assoc]
        generalize (F2 ++ ((List.range i.1.2.length).take a).flatMap (ifF i.1.2 (nI k) (nI l))) = F3 at hb3
        refine ass_one (as_ifG (B := fun b => b = (decide (nI a ∈ takersM i.1.2 (nI k)) && decide (nI a ∈ takersM i.1.2 (nI l)))) (aw_and (tInI (vv 6) (wIx k (vo 2) (vv 4) .l (hgT k hk)) .t) fun _ => aw_and1 (tInI (vv 6) (wIx l (vo 2) (vv 5) .l (hgT l hl0)) .t)).pt (fun hB => ?_) fun hB => ?_)
        · have hif2 : ifF i.1.2 (nI k) (nI l) a = inF i.1.2 (nI k) (nI l) (nI a) := by
            unfold ifF
            rw [if_pos hB.symm]
          rw [hif2]
          refine ass_cons (fun δ' => δ' = crE i (F3 ++ inF i.1.2 (nI k) (nI l) (nI a)) (some (.d (.int (k : Int)))) (some (.d (.int (nI l)))) (some (.d (.int (a : Int)))) none) (as_for (I := fun u δ' => δ' = crE i (F3 ++ ((mineM i.1.2 (nI k) (nI l)).take u).flatMap fun m => (mineM i.1.2 (nI l) (nI k)).map fun y => ([nI k, nI l], [nI a, m, y])) (some (.d (.int (k : Int)))) (some (.d (.int (nI l)))) (some (.d (.int (a : Int)))) none) (ix := [7]) (fun u δ => δ.set 7 (some (.d (.int ((mineM i.1.2 (nI k) (nI l)).getD u 0))))) o (fun _ => rfl)
            (wNew (ds := (mineM i.1.2 (nI k) (nI l)).map D.int) (LcJ.aq (wLc (xs := takersM i.1.2 (nI k)) (enc := D.int) [("_law_at", 8)] (ix := [8]) (fun r => !decide (r ∈ takersM i.1.2 (nI l))) (fun r => .int r) (fun r δ => δ.set 8 (some (.d (.int r)))) o (by omega) (ai_tup (wIx k (vo 2) (vv 4) .l (hgT k hk))).toI (fun s H C cl fp x => wName (o.blk ..)) (fun s H C cl fp r hr => ats_one (tNiI (vv 8) (wIx l (vo 2) (vv 5) .l (hgT l hl0)) .t)) (fun s H C cl fp r hr _ => vv 8)) o rfl)) ⟨_, rfl, ?_⟩ (fun u d hd => ?_) (fun u d δ' hd hI => ?_) (fun δ' h => ?_)) fun δ' z => ?_
          · rw [List.take_zero, List.flatMap_nil, List.append_nil]
            exact .refl _
          · have hu : u < (mineM i.1.2 (nI k) (nI l)).length := by
              have := (List.getElem?_eq_some_iff.mp hd).1
              rwa [List.length_map] at this
            rw [get_map (f := D.int) (d := 0) hu] at hd
            cases hd
            exact wName o
          · subst hI
            have hu : u < (mineM i.1.2 (nI k) (nI l)).length := by
              have := (List.getElem?_eq_some_iff.mp hd).1
              rwa [List.length_map] at this
            have hgu := List.getElem?_eq_getElem hu
            have hb4 : (F3 ++ ((mineM i.1.2 (nI k) (nI l)).take u).flatMap fun m => (mineM i.1.2 (nI l) (nI k)).map fun y => ([nI k, nI l], [nI a, m, y])).length ≤ 8 * (8 * 1728) + 8 * 1728 + 1728 + 144 := by
              rw [List.length_append]
              exact Nat.add_le_add hb3 (Nat.le_trans (flat_len (c := 12) fun m _ => by rw [List.length_map]; exact filt_len hT2) (Nat.le_trans (Nat.mul_le_mul (Nat.le_trans (List.length_take_le' _ _) (filt_len hT1)) (Nat.le_refl _)) (by decide)))
            rw [take_flat hgu, ← List.append_assoc, ← getD_get (d := 0) hu]
            generalize (F3 ++ ((mineM i.1.2 (nI k) (nI l)).take u).flatMap fun m => (mineM i.1.2 (nI l) (nI k)).map fun y => ([nI k, nI l], [nI a, m, y])) = F4 at hb4
            generalize (mineM i.1.2 (nI k) (nI l))[u] = mm
            have hml : (((mineM i.1.2 (nI l) (nI k)).map fun y => (([nI k, nI l], [nI a, mm, y]) : List Int × List Int)).map eLC).length ≤ 12 := by
              rw [List.length_map, List.length_map]
              exact filt_len hT2
            refine wSet (i := 3) (s := .own ((F4 ++ (mineM i.1.2 (nI l) (nI k)).map fun y => (([nI k, nI l], [nI a, mm, y]) : List Int × List Int)).map eLC)) o (AEq.to (ae_addL (ds := F4.map eLC) (es' := ((mineM i.1.2 (nI l) (nI k)).map fun y => (([nI k, nI l], [nI a, mm, y]) : List Int × List Int)).map eLC) (vo 3) (LcJ.aq (wLc (xs := takersM i.1.2 (nI l)) (enc := D.int) [("_law_yours", 9)] (ix := [9]) (fun r => !decide (r ∈ takersM i.1.2 (nI k))) (fun r => eLC ([nI k, nI l], [nI a, mm, r])) (fun r δ => δ.set 9 (some (.d (.int r)))) o (by omega) (ai_tup (wIx l (vo 2) (vv 5) .l (hgT l hl0))).toI (fun s H C cl fp x => wName (o.blk ..)) (fun s H C cl fp r hr => ats_one (tNiI (vv 9) (wIx k (vo 2) (vv 4) .l (hgT k hk)) .t))
              (fun s H C cl fp r hr _ => ae_tup (ds := [tupI [nI k, nI l], tupI [nI a, mm, r]]) (aa2 (ae_tup (ds := [.int (nI k), .int (nI l)]) (aa2 (vv 4) (vv 5)) (by show 2 ≤ 100; decide)) (ae_tup (ds := [.int (nI a), .int mm, .int r]) (aa3 (vv 6) (vv 7) (vv 9)) (by show 3 ≤ 100; decide))) (by show 2 ≤ 100; decide))) o (own_eq ?_)) (.inr rfl) (.inl rfl) ?_) ?_) (ass_nil ⟨_, rfl, ?_⟩)
            · unfold mineM
              rw [List.map_map] <;> rfl
            · rw [List.length_map (f := eLC) (as := F4)]
              omega
            · rw [List.map_append]
            · repeat' first | exact Fg.nil | apply Fg.same | apply Fg.drop
          · subst h
            rw [List.length_map, List.take_length]
            rfl
          · subst z
            exact ass_nil ⟨_, rfl, by repeat' first | exact Fg.nil | apply Fg.same | apply Fg.drop⟩
        · have hif2 : ifF i.1.2 (nI k) (nI l) a = [] := by
            unfold ifF
            rw [if_neg (by rw [← hB]; decide)]
          rw [hif2, List.append_nil]
          exact ass_nil ⟨_, rfl, by repeat' first | exact Fg.nil | apply Fg.same | apply Fg.drop⟩
      · subst h
        rw [List.length_map, List.length_range, List.take_of_length_le (by rw [List.length_range]; exact Nat.le_refl _), range_ifF]
      · subst z
        exact ass_nil ⟨_, rfl, by repeat' first | exact Fg.nil | apply Fg.same | apply Fg.drop⟩
    · subst h
      rw [List.length_map, List.take_length]
      rfl
    · subst z
      exact ass_nil ⟨_, rfl, by repeat' first | exact Fg.nil | apply Fg.same | apply Fg.drop⟩
  · subst h
    rw [List.length_map, List.length_range, List.take_of_length_le (by rw [List.length_range]; exact Nat.le_refl _)]
    exact ⟨_, _, _, _, rfl⟩
  · obtain ⟨a, b, c, d, rfl⟩ := z
    exact ass_one (wRetO 3 rfl)
end
end NR
namespace NR
/-! serving: how many requests of a row a stock can serve -/
def gtS (st : List Int) (k : Int) : Int := st.getD k.toNat 0
def dcS (st : List Int) (k : Int) : List Int := st.set k.toNat (gtS st k - 1)
/-- the fold of the tries -/
def bestS (st : List Int) (len : Nat) (f : List Int → Nat) : List Int → Nat → Nat
  | [], b => b
  | k :: ks, b => bestS st len f ks (if (decide (0 < gtS st k) && decide (b < len)) = true then max b (1 + f (dcS st k)) else b)
def mostM (acc : Int → List Int) : List Int → List Int → Nat
  | [], _ => 0
  | r :: row, st => bestS st (row.length + 1) (fun st' => mostM acc row st') (acc r) (mostM acc row st)

inductive Sv (acc : Int → List Int) : (Int → Int) → List Int → Nat → Prop
  | nil {s} : Sv acc s [] 0
  | skip {s r row n} : Sv acc s row n → Sv acc s (r :: row) n
  | put {s r row n k} : k ∈ acc r → 0 < s k → Sv acc (fun j => if j = k then s j - 1 else s j) row n → Sv acc s (r :: row) (n + 1)
abbrev dec1 (s : Int → Int) (k : Int) : Int → Int := fun j => if j = k then s j - 1 else s j
section
variable {acc : Int → List Int}
theorem Sv.le {s : Int → Int} {row : List Int} {n : Nat} (h : Sv acc s row n) : n ≤ row.length := by
  induction h with
  | nil => exact Nat.le_refl _
  | skip _ ih => rw [List.length_cons]; omega
  | put _ _ _ ih => rw [List.length_cons]; omega
/-- a unit less costs one request at most -/
theorem Sv.less {s : Int → Int} {row : List Int} {n : Nat} (h : Sv acc s row n) : ∀ {u : Int → Int} {k : Int}, u = dec1 s k → ∃ n', n ≤ n' + 1 ∧ Sv acc u row n' := by
  induction h with
  | nil => intro u k e; exact ⟨0, by omega, .nil⟩
  | skip _ ih =>
    intro u k e
    obtain ⟨n', h1, h2⟩ := ih e
    exact ⟨n', h1, .skip h2⟩
  | @put s r row n k' hk hs hrest ih =>
    intro u k e
    by_cases q : k' = k
    · subst q
      refine ⟨n, by omega, .skip ?_⟩
      rw [e]
      exact hrest
    · obtain ⟨n', h1, h2⟩ := ih (u := dec1 (dec1 s k') k) rfl
      refine ⟨n' + 1, by omega, .put (k := k') hk ?_ ?_⟩
      · rw [e]
        simp [dec1, q, hs]
      · rw [e]
        have : (dec1 (dec1 s k) k') = dec1 (dec1 s k') k := by
          funext j
          simp only [dec1]
          by_cases a : j = k <;> by_cases b : j = k' <;> simp [a, b] <;> omega
        show Sv acc (dec1 (dec1 s k) k') row n'
        rw [this]
        exact h2
/-- a unit of more use -/
theorem Sv.better {s : Int → Int} {row : List Int} {n : Nat} (h : Sv acc s row n) : ∀ {t : Int → Int} {k k' : Int}, k ≠ k' → (∀ r ∈ row, k ∈ acc r → k' ∈ acc r) → (∀ j, t j = s j + (if j = k' then 1 else 0) - (if j = k then 1 else 0)) → 0 ≤ t k → 0 < t k' → Sv acc t row n := by
  induction h with
  | nil => intros; exact .nil
  | skip _ ih =>
    intro t k k' ne sub ht h0 h1
    exact .skip (ih ne (fun r hr => sub r (List.mem_cons_of_mem _ hr)) ht h0 h1)
  | @put s r row n j hj hs hrest ih =>
    intro t k k' ne sub ht h0 h1
    have tk := ht k
    have tk' := ht k'
    have tj := ht j
    simp only [if_true, if_neg ne, if_neg (Ne.symm ne)] at tk tk'
    by_cases q : j = k
    · subst q
      refine .put (k := k') (sub r List.mem_cons_self hj) h1 ?_
      have e : (fun i => if i = k' then t i - 1 else t i) = fun i => if i = j then s i - 1 else s i := by
        funext i
        have := ht i
        by_cases a : i = j <;> by_cases b : i = k' <;> simp [a, b] at this ⊢ <;> (try subst a) <;> (try subst b) <;> (try omega)
      rw [e]
      exact hrest
    · by_cases q2 : j = k'
      · subst q2
        refine .put (k := j) hj h1 ?_
        by_cases h2 : 0 < s j
        · refine ih ne (fun r hr => sub r (List.mem_cons_of_mem _ hr)) (k := k) (k' := j) (fun i => ?_) ?_ ?_
          · have := ht i
            by_cases a : i = j <;> by_cases b : i = k <;> simp [a, b] at this ⊢ <;> omega
          · simp [ne, h0]
          · simp
            omega
        · omega
      · refine .put (k := j) hj ?_ (ih ne (fun r hr => sub r (List.mem_cons_of_mem _ hr)) (k := k) (k' := k') (fun i => ?_) ?_ ?_)
        · simp only [if_neg q, if_neg q2] at tj
          omega
        · have := ht i
          by_cases a : i = j
          · subst a
            simp [q, q2] at this ⊢
            omega
          · simp [a] at this ⊢
            exact this
        · simp [Ne.symm q, h0]
        · simp [Ne.symm q2, h1]
theorem Sv.perm {row row' : List Int} (p : row.Perm row') : ∀ {s : Int → Int} {n : Nat}, Sv acc s row n → Sv acc s row' n := by
  induction p with
  | nil => intro s n h; exact h
  | cons x _ ih =>
    intro s n h
    cases h with
    | skip h => exact .skip (ih h)
    | put a b c => exact .put a b (ih c)
  | swap x y l =>
    intro s n h
    cases h with
    | skip h =>
      cases h with
      | skip h => exact .skip (.skip h)
      | put a b c => exact .put a b (.skip c)
    | @put _ _ _ _ k a b c =>
      cases c with
      | skip h => exact .skip (.put a b h)
      | @put _ _ _ _ k2 a2 b2 c2 =>
        by_cases q : k2 = k
        · subst q
          simp at b2
          refine .put a2 (by omega) (.put a (by simp; omega) c2)
        · simp [q] at b2
          refine .put a2 b2 (.put a (by simp [Ne.symm q]; exact b) ?_)
          have : (fun j => if j = k2 then (if j = k then s j - 1 else s j) - 1 else if j = k then s j - 1 else s j) = (fun j => if j = k then (if j = k2 then s j - 1 else s j) - 1 else if j = k2 then s j - 1 else s j) := by
            funext j
            by_cases a : j = k <;> by_cases b : j = k2 <;> simp [a, b] <;> omega
          rw [← this]
          exact c2
  | trans _ _ ih1 ih2 => intro s n h; exact ih2 (ih1 h)
end

/-! the tries find the most -/
/-- a stock as a function -/
def fnS (st : List Int) : Int → Int := fun k => if 0 ≤ k then gtS st k else 0
theorem fn_dc {st : List Int} {k : Int} (h : 0 ≤ k) (hk : k < st.length) : fnS (dcS st k) = dec1 (fnS st) k := by
  funext j
  simp only [fnS, dec1, dcS, gtS]
  by_cases q : j = k
  · subst q
    have : j.toNat < st.length := by omega
    simp [h, List.getD_eq_getElem?_getD, List.getElem?_set_self this, List.getElem?_eq_getElem this]
  · by_cases hj : 0 ≤ j
    · have : k.toNat ≠ j.toNat := by omega
      simp [q, hj, List.getD_eq_getElem?_getD, List.getElem?_set_ne this]
    · simp [q, hj]
theorem dc_len (st : List Int) (k : Int) : (dcS st k).length = st.length := by
  unfold dcS
  exact List.length_set
theorem bestS_ge {st : List Int} {len : Nat} {f : List Int → Nat} : ∀ (ks : List Int) (b : Nat), b ≤ bestS st len f ks b
  | [], b => Nat.le_refl _
  | k :: ks, b => by
    unfold bestS
    split
    · exact Nat.le_trans (Nat.le_max_left _ _) (bestS_ge ks _)
    · exact bestS_ge ks _
theorem bestS_le {st : List Int} {len : Nat} {f : List Int → Nat} (hf : ∀ s, f s < len) : ∀ (ks : List Int) (b : Nat), b ≤ len → bestS st len f ks b ≤ len
  | [], b, h => h
  | k :: ks, b, h => by
    unfold bestS
    split
    · refine bestS_le hf ks _ ?_
      have := hf (dcS st k)
      omega
    · exact bestS_le hf ks _ h
theorem bestS_ub {st : List Int} {len : Nat} {f : List Int → Nat} (hf : ∀ s, f s < len) : ∀ (ks : List Int) (b : Nat) (k : Int), k ∈ ks → 0 < gtS st k → 1 + f (dcS st k) ≤ bestS st len f ks b
  | k' :: ks, b, k, hk, hs => by
    unfold bestS
    rcases List.mem_cons.mp hk with rfl | hk
    · by_cases q : b < len
      · rw [if_pos (by simp [hs, q])]
        exact Nat.le_trans (Nat.le_max_right _ _) (bestS_ge ks _)
      · rw [if_neg (by simp [q])]
        have := bestS_ge (st := st) (len := len) (f := f) ks b
        have := hf (dcS st k)
        omega
    · exact bestS_ub hf ks _ k hk hs
theorem bestS_is {st : List Int} {len : Nat} {f : List Int → Nat} : ∀ (ks : List Int) (b : Nat), bestS st len f ks b = b ∨ ∃ k ∈ ks, 0 < gtS st k ∧ bestS st len f ks b = 1 + f (dcS st k)
  | [], b => .inl rfl
  | k :: ks, b => by
    unfold bestS
    split
    · rename_i h
      simp only [Bool.and_eq_true, decide_eq_true_eq] at h
      rcases bestS_is (st := st) (len := len) (f := f) ks (max b (1 + f (dcS st k))) with e | ⟨k', h1, h2, e⟩
      · rw [e]
        rcases Nat.le_total b (1 + f (dcS st k)) with q | q
        · rw [Nat.max_eq_right q]
          exact .inr ⟨k, List.mem_cons_self, h.1, rfl⟩
        · rw [Nat.max_eq_left q]
          exact .inl rfl
      · exact .inr ⟨k', List.mem_cons_of_mem _ h1, h2, e⟩
    · rcases bestS_is (st := st) (len := len) (f := f) ks b with e | ⟨k', h1, h2, e⟩
      · exact .inl e
      · exact .inr ⟨k', List.mem_cons_of_mem _ h1, h2, e⟩
section
variable {acc : Int → List Int} {n : Nat}
theorem most_le : ∀ (row st : List Int), mostM acc row st ≤ row.length
  | [], _ => Nat.le_refl _
  | r :: row, st => bestS_le (fun s => by have := most_le row s; omega) _ _ (by have := most_le row st; omega)
theorem most_sv (ha : ∀ r, ∀ k ∈ acc r, 0 ≤ k ∧ k < n) : ∀ (row st : List Int), st.length = n → Sv acc (fnS st) row (mostM acc row st)
  | [], _, _ => .nil
  | r :: row, st, hl => by
    unfold mostM
    rcases bestS_is (st := st) (len := row.length + 1) (f := fun st' => mostM acc row st') (acc r) (mostM acc row st) with e | ⟨k, hk, hs, e⟩
    · rw [e]
      exact .skip (most_sv ha row st hl)
    · rw [e, Nat.add_comm]
      obtain ⟨h1, h2⟩ := ha r k hk
      refine .put hk (by unfold fnS; rw [if_pos h1]; exact hs) ?_
      have := most_sv ha row (dcS st k) (by rw [dc_len, hl])
      rwa [fn_dc h1 (by omega)] at this
theorem most_ub (ha : ∀ r, ∀ k ∈ acc r, 0 ≤ k ∧ k < n) : ∀ (row st : List Int) (m : Nat), st.length = n → Sv acc (fnS st) row m → m ≤ mostM acc row st
  | [], _, _, _, h => h.le
  | r :: row, st, m, hl, h => by
    unfold mostM
    cases h with
    | skip h => exact Nat.le_trans (most_ub ha row st m hl h) (bestS_ge _ _)
    | @put _ _ _ m' k hk hs h =>
      obtain ⟨h1, h2⟩ := ha r k hk
      have e : fnS (dcS st k) = dec1 (fnS st) k := fn_dc h1 (by omega)
      have h' : Sv acc (fnS (dcS st k)) row m' := by rw [e]; exact h
      have h3 := most_ub ha row (dcS st k) m' (by rw [dc_len, hl]) h'
      have hs' : 0 < gtS st k := by
        unfold fnS at hs
        rwa [if_pos h1] at hs
      have := bestS_ub (st := st) (len := row.length + 1) (f := fun st' => mostM acc row st') (fun s => by have := most_le (acc := acc) row s; omega) (acc r) (mostM acc row st) k hk hs'
      exact Nat.le_trans (by omega) this
theorem most_perm (ha : ∀ r, ∀ k ∈ acc r, 0 ≤ k ∧ k < n) {row row' st : List Int} (hl : st.length = n) (p : row.Perm row') : mostM acc row st = mostM acc row' st :=
  Nat.le_antisymm (most_ub ha _ _ _ hl ((most_sv ha row st hl).perm p)) (most_ub ha _ _ _ hl ((most_sv ha row' st hl).perm p.symm))
end

/-! serving upward -/
/-- the order in which kinds are handed out: all accepted ones, those with fewer takers first -/
structure OrdOk (acc ord : Int → List Int) (m : Nat) : Prop where
  mem : ∀ r : Nat, r < m → ∀ k, k ∈ ord r ↔ k ∈ acc r
  up : ∀ r : Nat, r < m → (ord r).Pairwise fun k k' => ∀ q : Nat, q < m → k ∈ acc q → k' ∈ acc q
def RowOk (m : Nat) (row : List Int) : Prop := ∀ r ∈ row, 0 ≤ r ∧ r < m
def pickG (ord : Int → List Int) (st : List Int) (r : Int) : Option Int := (ord r).find? fun k => decide (0 < gtS st k)
section
variable {acc ord : Int → List Int} {n m : Nat}
theorem pick_some {st : List Int} {r k : Int} (h : pickG ord st r = some k) : k ∈ ord r ∧ 0 < gtS st k := by
  unfold pickG at h
  exact ⟨List.mem_of_find?_eq_some h, by simpa using List.find?_some h⟩
theorem pick_none {st : List Int} {r : Int} (h : pickG ord st r = none) : ∀ k ∈ ord r, ¬ 0 < gtS st k := by
  unfold pickG at h
  intro k hk
  simpa using List.find?_eq_none.mp h k hk
theorem pick_first {R : Int → Int → Prop} {p : Int → Bool} : ∀ {xs : List Int} {k : Int}, xs.Pairwise R → xs.find? p = some k → ∀ k' ∈ xs, p k' = true → k' = k ∨ R k k'
  | x :: xs, k, h, e, k', hk', hp => by
    obtain ⟨h1, h2⟩ := List.pairwise_cons.mp h
    rw [List.find?_cons] at e
    cases q : p x with
    | true =>
      rw [q] at e
      cases e
      rcases List.mem_cons.mp hk' with rfl | hk'
      · exact .inl rfl
      · exact .inr (h1 k' hk')
    | false =>
      rw [q] at e
      rcases List.mem_cons.mp hk' with rfl | hk'
      · rw [q] at hp
        cases hp
      · exact pick_first h2 e k' hk' hp
theorem nat_of {r : Int} (h : 0 ≤ r ∧ r < m) : ∃ i : Nat, r = i ∧ i < m := ⟨r.toNat, by omega, by omega⟩
theorem most_cons (ha : ∀ r, ∀ k ∈ acc r, 0 ≤ k ∧ k < n) (O : OrdOk acc ord m) {r : Int} {row st : List Int} (hr : RowOk m (r :: row)) (hl : st.length = n) :
    mostM acc (r :: row) st = match pickG ord st r with
      | none => mostM acc row st
      | some k => 1 + mostM acc row (dcS st k) := by
  obtain ⟨i, rfl, hi⟩ := nat_of (hr r List.mem_cons_self)
  have hsv := most_sv ha (i :: row) st hl
  cases q : pickG ord st i with
  | none =>
    refine Nat.le_antisymm ?_ (bestS_ge _ _)
    generalize mostM acc (i :: row) st = x at hsv
    cases hsv with
    | skip h => exact most_ub ha _ _ _ hl h
    | put hk hs _ =>
      have := pick_none q _ ((O.mem i hi _).mpr hk)
      unfold fnS at hs
      rw [if_pos (ha _ _ hk).1] at hs
      exact absurd hs this
  | some k =>
    obtain ⟨hk, hs⟩ := pick_some q
    have hka := (O.mem i hi k).mp hk
    obtain ⟨h0, h1⟩ := ha _ _ hka
    have e : fnS (dcS st k) = dec1 (fnS st) k := fn_dc h0 (by omega)
    have hl' : (dcS st k).length = n := by rw [dc_len, hl]
    refine Nat.le_antisymm ?_ ?_
    · show mostM acc (i :: row) st ≤ 1 + mostM acc row (dcS st k)
      generalize mostM acc (i :: row) st = x at hsv
      cases hsv with
      | skip h =>
        obtain ⟨n', z1, z2⟩ := h.less (k := k) e
        have := most_ub ha _ _ _ hl' z2
        omega
      | @put _ _ _ y k' hk' hs' h =>
        have hs2 : 0 < gtS st k' := by
          unfold fnS at hs'
          rwa [if_pos (ha _ _ hk').1] at hs'
        have : y ≤ mostM acc row (dcS st k) := by
          refine most_ub ha _ _ _ hl' ?_
          rw [e]
          have hp := O.up i hi
          rcases pick_first hp q k' ((O.mem i hi k').mpr hk') (by simpa using hs2) with rfl | sub
          · exact h
          · by_cases z : k = k'
            · subst z
              exact h
            · refine h.better (k := k) (k' := k') z (fun r' hr' hkr => ?_) (fun j => ?_) ?_ ?_
              · obtain ⟨j, rfl, hj⟩ := nat_of (hr r' (List.mem_cons_of_mem _ hr'))
                exact sub j hj hkr
              · have z' : ¬ k' = k := fun w => z w.symm
                simp only [dec1]
                by_cases a : j = k
                · subst a
                  simp [z]
                · by_cases b : j = k'
                  · subst b
                    simp [a]
                  · simp [a, b]
              · show 0 ≤ (if k = k then fnS st k - 1 else fnS st k)
                rw [if_pos rfl]
                unfold fnS
                rw [if_pos h0]
                omega
              · show 0 < (if k' = k then fnS st k' - 1 else fnS st k')
                rw [if_neg (Ne.symm z)]
                exact hs'
        omega
    · show 1 + mostM acc row (dcS st k) ≤ mostM acc (i :: row) st
      exact bestS_ub (fun s => by have := most_le (acc := acc) row s; omega) (acc i) _ k hka hs
/-- one step of serving upward -/
def gStep (ord : Int → List Int) (s : List Int × List Int) (p : Int × Nat) : List Int × List Int :=
  match pickG ord s.1 p.1 with
  | none => s
  | some k => (dcS s.1 k, s.2 ++ [(p.2 : Int)])
def servS (ord : Int → List Int) (st row : List Int) : List Int × List Int := row.zipIdx.foldl (gStep ord) (st, [])
theorem serv_len (ha : ∀ r, ∀ k ∈ acc r, 0 ≤ k ∧ k < n) (O : OrdOk acc ord m) : ∀ (row st found : List Int) (at0 : Nat), RowOk m row → st.length = n → ((row.zipIdx at0).foldl (gStep ord) (st, found)).2.length = found.length + mostM acc row st
  | [], st, found, at0, _, _ => rfl
  | r :: row, st, found, at0, hr, hl => by
    rw [List.zipIdx_cons, List.foldl_cons, most_cons ha O hr hl]
    unfold gStep
    have hr' : RowOk m row := fun x hx => hr x (List.mem_cons_of_mem _ hx)
    cases q : pickG ord st r with
    | none =>
      simp only [q]
      exact serv_len ha O row st found (at0 + 1) hr' hl
    | some k =>
      simp only [q]
      have := serv_len ha O row (dcS st k) (found ++ [(at0 : Int)]) (at0 + 1) hr' (by rw [dc_len, hl])
      show ((row.zipIdx (at0 + 1)).foldl (gStep ord) (dcS st k, found ++ [(at0 : Int)])).2.length = _
      rw [this, List.length_append]
      show found.length + 1 + _ = found.length + (1 + _)
      omega
/-- all of a row is served, which leaves a stock -/
inductive Run (ord : Int → List Int) (st : List Int) : List Int → List Int → Prop
  | nil : Run ord st [] st
  | snoc {row left : List Int} {r k : Int} : Run ord st row left → pickG ord left r = some k → Run ord st (row ++ [r]) (dcS left k)
theorem Run.len {st row left : List Int} (h : Run ord st row left) : left.length = st.length := by
  induction h with
  | nil => rfl
  | snoc _ _ ih => rw [dc_len, ih]
theorem Run.most (ha : ∀ r, ∀ k ∈ acc r, 0 ≤ k ∧ k < n) (O : OrdOk acc ord m) {st row left : List Int} (hl : st.length = n) (h : Run ord st row left) : ∀ {rest : List Int}, RowOk m (row ++ rest) → mostM acc (row ++ rest) st = row.length + mostM acc rest left := by
  induction h with
  | nil => intro rest _; simp
  | @snoc row left r k h0 hp ih =>
    intro rest hr
    rw [List.append_assoc] at hr ⊢
    rw [ih hr]
    have hr2 : RowOk m (r :: rest) := fun x hx => hr x (List.mem_append_right _ hx)
    show row.length + mostM acc (r :: rest) left = _
    rw [most_cons ha O hr2 (by rw [h0.len, hl]), hp, List.length_append]
    show row.length + (1 + _) = row.length + 1 + _
    omega
theorem Run.one (ha : ∀ r, ∀ k ∈ acc r, 0 ≤ k ∧ k < n) (O : OrdOk acc ord m) {st row left : List Int} {r : Int} (hl : st.length = n) (h : Run ord st row left) (hr : RowOk m (row ++ [r])) : mostM acc (row ++ [r]) st = row.length + (match pickG ord left r with
    | none => 0
    | some _ => 1) := by
  rw [h.most ha O hl hr, most_cons ha O (fun x hx => hr x (List.mem_append_right _ hx)) (by rw [h.len, hl])]
  cases pickG ord left r <;> rfl
end
/-! whether regret can be avoided -/
def headsM (rows : List (List Int)) : List Int := (rows.filter fun r => !r.isEmpty).map fun r => r.headD 0
def behM (rows : List (List Int)) (q : Int) : List (List Int) := (rows.filter fun r => !r.isEmpty && decide (r.headD 0 = q)).map List.tail
def goodF (left : List Int) (f : List Int → Bool) : List Int → Bool → Bool
  | [], g => g
  | k :: ks, g => goodF left f ks (if (decide (0 < gtS left k) && !g) = true then f (dcS left k) else g)
theorem goodF_true {left : List Int} {f : List Int → Bool} : ∀ (ks : List Int), goodF left f ks true = true
  | [] => rfl
  | k :: ks => by
    unfold goodF
    simp [goodF_true ks]
theorem goodF_find {left : List Int} {f : List Int → Bool} : ∀ (ks : List Int) (g : Bool) (k : Int), k ∈ ks → 0 < gtS left k → f (dcS left k) = true → goodF left f ks g = true
  | k' :: ks, g, k, hk, hs, hf => by
    unfold goodF
    rcases List.mem_cons.mp hk with rfl | hk
    · cases g with
      | true => simp [goodF_true ks]
      | false => simp [hs, hf, goodF_true ks]
    · exact goodF_find ks _ k hk hs hf
theorem goodF_none {left : List Int} {f : List Int → Bool} : ∀ (ks : List Int), (∀ k ∈ ks, 0 < gtS left k → f (dcS left k) = false) → goodF left f ks false = false
  | [], _ => rfl
  | k :: ks, h => by
    unfold goodF
    have : (if (decide (0 < gtS left k) && !false) = true then f (dcS left k) else false) = false := by
      by_cases q : 0 < gtS left k
      · rw [if_pos (by simp [q])]
        exact h k List.mem_cons_self q
      · rw [if_neg (by simp [q])]
    rw [this]
    exact goodF_none ks fun k' hk' => h k' (List.mem_cons_of_mem _ hk')
/-- reqs: what tells the unlike first requests -/
def canM (reqs : List Int → List Int) (acc : Int → List Int) (stock : List Int) : Nat → List Int → List Int → List (List Int) → Bool
  | 0, _, _, _ => true
  | d + 1, left, served, rows => (reqs (headsM rows)).all fun q =>
    if mostM acc (served ++ [q]) stock < served.length + 1 then canM reqs acc stock d left served (behM rows q)
    else goodF left (fun less => canM reqs acc stock d less (served ++ [q]) (behM rows q)) (acc q) false
section
variable {acc ord : Int → List Int} {n m : Nat} {reqs : List Int → List Int}
theorem heads_mem {rows : List (List Int)} {q : Int} (h : q ∈ headsM rows) : ∃ r ∈ rows, q ∈ r := by
  unfold headsM at h
  obtain ⟨r, hr, rfl⟩ := List.mem_map.mp h
  obtain ⟨h1, h2⟩ := List.mem_filter.mp hr
  refine ⟨r, h1, ?_⟩
  cases r with
  | nil => simp at h2
  | cons x xs => simp
theorem beh_ok {rows : List (List Int)} {q : Int} (h : ∀ r ∈ rows, RowOk m r) : ∀ r ∈ behM rows q, RowOk m r := by
  intro r hr
  unfold behM at hr
  obtain ⟨r', hr', rfl⟩ := List.mem_map.mp hr
  have := h r' (List.mem_filter.mp hr').1
  exact fun x hx => this x (List.mem_of_mem_tail hx)
/-- a rule that serves upward never regrets -/
theorem can_up (hq : ∀ xs x, x ∈ reqs xs → x ∈ xs) (ha : ∀ r, ∀ k ∈ acc r, 0 ≤ k ∧ k < n) (O : OrdOk acc ord m) {stock : List Int} (hl : stock.length = n) :
    ∀ (d : Nat) (left served : List Int) (rows : List (List Int)), Run ord stock served left → RowOk m served → (∀ r ∈ rows, RowOk m r) → canM reqs acc stock d left served rows = true
  | 0, _, _, _, _, _, _ => rfl
  | d + 1, left, served, rows, hrun, hs, hrows => by
    unfold canM
    refine List.all_eq_true.mpr fun q hqm => ?_
    obtain ⟨r, hr, hqr⟩ := heads_mem (hq _ _ hqm)
    have hq0 := hrows r hr q hqr
    have hrow : RowOk m (served ++ [q]) := fun x hx => by
      rcases List.mem_append.mp hx with hx | hx
      · exact hs x hx
      · rw [List.mem_singleton.mp hx]
        exact hq0
    have h1 := hrun.one ha O hl hrow
    cases hp : pickG ord left q with
    | none =>
      rw [hp] at h1
      rw [if_pos (by rw [h1]; exact Nat.lt_succ_self _)]
      exact can_up hq ha O hl d left served _ hrun hs (beh_ok hrows)
    | some k =>
      rw [hp] at h1
      rw [if_neg (by rw [h1]; exact Nat.lt_irrefl _)]
      obtain ⟨hk, hk2⟩ := pick_some hp
      obtain ⟨i, rfl, hi⟩ := nat_of hq0
      exact goodF_find _ _ k ((O.mem i hi k).mp hk) hk2 (can_up hq ha O hl d (dcS left k) (served ++ [(i : Int)]) _ (.snoc hrun hp) hrow (beh_ok hrows))
end
end NR
namespace NR
open PySem PySem.Spec PyProof.Rows L2
def rowsM (m : Nat) : Nat → List (List Int)
  | 0 => [[]]
  | k + 1 => (rowsM m k).flatMap fun row => (List.range m).map fun r => row ++ [nI r]
theorem rows_len (m : Nat) : ∀ k, (rowsM m k).length ≤ m ^ k
  | 0 => Nat.le_refl _
  | k + 1 => by
    unfold rowsM
    refine Nat.le_trans (flat_len (c := m) fun r _ => ?_) ?_
    · rw [List.length_map, List.length_range]
      exact Nat.le_refl _
    · rw [Nat.pow_succ]
      exact Nat.mul_le_mul (rows_len m k) (Nat.le_refl _)
theorem rows_ok (m : Nat) : ∀ k, ∀ row ∈ rowsM m k, row.length = k ∧ RowOk m row
  | 0, row, h => by
    rw [List.mem_singleton.mp h]
    exact ⟨rfl, fun x hx => nomatch hx⟩
  | k + 1, row, h => by
    unfold rowsM at h
    obtain ⟨row', h1, h2⟩ := List.mem_flatMap.mp h
    obtain ⟨r, h3, rfl⟩ := List.mem_map.mp h2
    obtain ⟨h4, h5⟩ := rows_ok m k row' h1
    have := List.mem_range.mp h3
    refine ⟨by rw [List.length_append, h4] <;> rfl, fun x hx => ?_⟩
    rcases List.mem_append.mp hx with hx | hx
    · exact h5 x hx
    · rw [List.mem_singleton.mp hx]
      unfold nI
      omega
section
variable {P : Program} {w : World} {K : PySem.W.Frag} {mg : Str → Option Value} {base : Heap} {W : Wd}
abbrev RwX := {x : Nat × Nat // x.1 ≤ 4 ∧ x.2 ≤ 4}
abbrev Krows (P : Program) (w : World) (K : PySem.W.Frag) (mg : Str → Option Value) (base : Heap) (W : Wd) := Kn P w K mg base W 1 "_law_rows" ["_law_many", "_law_length"] (fun i : RwX => [.d (.int (i.1.1 : Int)), .d (.int (i.1.2 : Int))]) (fun i s => s = .own ((rowsM i.1.1 i.1.2).map tupI))
theorem sc_rows : FnScope ["_law_many", "_law_length", "_law_found", "_law_turn", "_law_longer", "_law_row", "_law_request"] ["_law_many", "_law_length"] (defScope (top 58)) := ⟨rfl, rfl, rfl, by decide +kernel, rfl, by decide +kernel, by decide +kernel⟩
theorem rows256 {m k : Nat} (hm : m ≤ 4) (hk : k ≤ 4) : (rowsM m k).length ≤ 256 := Nat.le_trans (rows_len m k) (Nat.le_trans (Nat.pow_le_pow_left hm k) (Nat.pow_le_pow_right (n := 4) (by decide) hk))
theorem ok_rows (T : Tx mg) (d : Df K mg "_law_rows" (top 58) ["_law_many", "_law_length"]) : Krows P w K mg base W := by
  refine kn_ok d sc_rows (fun _ => rfl) (fun i s h => by simp at h; rcases h with rfl | rfl <;> exact id) fun f cdv A outer s H E o i => ?_
  obtain ⟨⟨m, n⟩, hm, hn⟩ := i
  have hm : m ≤ 4 := hm
  have hn : n ≤ 4 := hn
  refine wSet (i := 2) (s := .own ((rowsM m 0).map tupI)) o (ae_lst (ds := [tupI []]) (aa_cons (ae_tup (ds := []) aa_nil (by decide)) aa_nil) (by show 1 ≤ 100; decide)) ?_
  refine ass_cons (fun δ' => ∃ a b, δ' = [some (.d (.int (m : Int))), some (.d (.int (n : Int))), some (.own ((rowsM m n).map tupI)), a, b, none, none])
    (as_for (I := fun k δ' => δ' = [some (.d (.int (m : Int))), some (.d (.int (n : Int))), some (.own ((rowsM m k).map tupI)), none, none, none, none]) (ix := [3]) (fun k δ => δ.set 3 (some (.d (.int (k : Int))))) o (fun _ => rfl) (wR1 (n := n) T.range (vv 1) (by omega) rfl).toS ⟨_, rfl, .refl _⟩ (fun k d hd => ?_) (fun k d δ' hd hI => ?_) (fun δ' h => ?_)) fun δ' z => ?_
  · have hk : k < n := by
      have := (List.getElem?_eq_some_iff.mp hd).1
      rwa [List.length_map, List.length_range] at this
    rw [List.getElem?_map, List.getElem?_range hk] at hd
    cases hd
    exact wName o
  · subst hI
    have hk : k < n := by
      have := (List.getElem?_eq_some_iff.mp hd).1
      rwa [List.length_map, List.length_range] at this
    have hrl := rows256 (m := m) (k := k) hm (by omega)
    refine wSet (i := 4) (s := .own []) o (ae_lst aa_nil (by decide)) ?_
    refine ASs.freeze 2 ?_ rfl
    refine ass_cons (fun δ' => δ' = [some (.d (.int (m : Int))), some (.d (.int (n : Int))), some (.l ((rowsM m k).map tupI)), some (.d (.int (k : Int))), some (.own ((rowsM m (k + 1)).map tupI)), none, none])
      (as_for (I := fun j δ' => δ' = [some (.d (.int (m : Int))), some (.d (.int (n : Int))), some (.l ((rowsM m k).map tupI)), some (.d (.int (k : Int))), some (.own ((((rowsM m k).take j).flatMap fun row => (List.range m).map fun r => row ++ [nI r]).map tupI)), none, none]) (ix := [5]) (fun j δ => δ.set 5 (some (.d (tupI ((rowsM m k).getD j []))))) o (fun _ => rfl) (ais_var (i := 2) rfl rfl (Or.inl rfl) (by decide) (by decide)) ⟨_, rfl, .refl _⟩ (fun j d hd => ?_) (fun j d δ' hd hI => ?_) (fun δ' h => ?_)) fun δ' z => ?_
    · have hj : j < (rowsM m k).length := by
        have := (List.getElem?_eq_some_iff.mp hd).1
        rwa [List.length_map] at this
      rw [get_map (f := tupI) (d := []) hj] at hd
      cases hd
      exact wName o
    · subst hI
      have hj : j < (rowsM m k).length := by
        have := (List.getElem?_eq_some_iff.mp hd).1
        rwa [List.length_map] at this
      have hrow := (rows_ok m k _ (List.getElem_mem hj)).1
      have hg := List.getElem?_eq_getElem hj
      have hpl : (((rowsM m k).take j).flatMap fun row => (List.range m).map fun r => row ++ [nI r]).length ≤ 256 * 4 := Nat.le_trans (flat_len (c := 4) fun r _ => by rw [List.length_map, List.length_range]; exact hm) (Nat.mul_le_mul (Nat.le_trans (List.length_take_le' _ _) hrl) (Nat.le_refl _))
      rw [← getD_get (d := []) hj]
      show ASs _ W _ _ ⟨fun δ' => δ' = [_, _, _, _, some (.own ((((rowsM m k).take (j + 1)).flatMap fun row => (List.range m).map fun r => row ++ [nI r]).map tupI)), none, none], _, _, _⟩
      rw [take_flat hg]
      generalize ((rowsM m k).take j).flatMap (fun row => (List.range m).map fun r => row ++ [nI r]) = F at hpl
      generalize (rowsM m k)[j] = row at hrow
      have h2 : (((List.range m).map fun r => row ++ [nI r]).map tupI).length ≤ 4 := by
        rw [List.length_map, List.length_map, List.length_range]
        exact hm
      refine wSet (i := 4) (s := .own ((F ++ (List.range m).map fun r => row ++ [nI r]).map tupI)) o (AEq.to (ae_addL (ds := F.map tupI) (es' := ((List.range m).map fun r => row ++ [nI r]).map tupI) (vo 4) (LcJ.aq (wLcA (xs := List.range m) (enc := fun r : Nat => .int (r : Int)) [("_law_request", 6)] (ix := [6]) (fun r => tupI (row ++ [nI r])) (fun r δ => δ.set 6 (some (.d (.int (r : Int))))) o (by rw [List.length_range]; omega) ((wR1 (n := m) T.range (vv 0) (by omega) rfl).toI) (fun s H C cl fp x => wName (o.blk ..))
        (fun s H C cl fp r hr => AEq.to (ae_addT (ds := row.map D.int) (es := [.int (nI r)]) (vv 5) (ae_tup (ds := [.int (nI r)]) (aa_cons (vv 6) aa_nil) (by show 1 ≤ 100; decide)) (by rw [List.length_map, hrow]; show k + 1 ≤ _; omega)) (by unfold tupI; rw [List.map_append] <;> rfl))) o (own_eq ?_)) (.inr rfl) (.inl rfl) ?_) ?_) (ass_nil ⟨_, rfl, ?_⟩)
      · rw [List.map_map] <;> rfl
      · rw [List.length_map (f := tupI) (as := F)]
        omega
      · rw [List.map_append]
      · repeat' first | exact Fg.nil | apply Fg.same | apply Fg.drop
    · subst h
      rw [List.length_map, List.take_length]
      rfl
    · subst z
      exact wMove (i := 4) (j := 2) o (by decide) (ass_nil ⟨_, rfl, by repeat' first | exact Fg.nil | apply Fg.same | apply Fg.drop⟩)
  · subst h
    rw [List.length_map, List.length_range]
    exact ⟨_, _, rfl⟩
  · obtain ⟨a, b, rfl⟩ := z
    exact ass_one (wRetO 2 rfl)
end
end NR
namespace NR
open PySem PySem.Spec PyProof.Rows L2
theorem bestS_snoc {st : List Int} {len : Nat} {f : List Int → Nat} (k : Int) : ∀ (ks : List Int) (b : Nat), bestS st len f (ks ++ [k]) b = if (decide (0 < gtS st k) && decide (bestS st len f ks b < len)) = true then max (bestS st len f ks b) (1 + f (dcS st k)) else bestS st len f ks b
  | [], b => rfl
  | k' :: ks, b => bestS_snoc k ks _
theorem goodF_snoc {left : List Int} {f : List Int → Bool} (k : Int) : ∀ (ks : List Int) (g : Bool), goodF left f (ks ++ [k]) g = if (decide (0 < gtS left k) && !goodF left f ks g) = true then f (dcS left k) else goodF left f ks g
  | [], g => rfl
  | k' :: ks, g => goodF_snoc k ks _
def accT (ts : List Ty) (r : Int) : List Int := (ts.getD r.toNat ("", [])).2
structure MsOk (ts : List Ty) (st : List Int) : Prop where
  t : ts.length ≤ 60
  s : st.length ≤ 100
  l : ∀ t ∈ ts, (∀ k ∈ t.2, 0 ≤ k ∧ k < (st.length : Int)) ∧ t.2.length ≤ 100
theorem MsOk.dc {ts : List Ty} {st : List Int} (h : MsOk ts st) (k : Int) : MsOk ts (dcS st k) := ⟨h.t, by rw [dc_len]; exact h.s, fun t ht => by rw [dc_len]; exact h.l t ht⟩
theorem dc_enc {st : List Int} {k : Int} (h0 : 0 ≤ k) (h1 : k < (st.length : Int)) : ((st.map D.int).take k.toNat ++ [.int (gtS st k - 1)]) ++ (st.map D.int).drop (k.toNat + 1) = (dcS st k).map D.int := by
  unfold dcS
  rw [List.set_eq_take_append_cons_drop, if_pos (by omega), List.map_append, List.map_cons, List.map_take, List.map_drop, List.append_assoc] <;> rfl
section
variable {P : Program} {w : World} {K : PySem.W.Frag} {mg : Str → Option Value} {base : Heap} {W : Wd}
abbrev MoX (d : Nat) := {x : List Ty × List Int × List Int // MsOk x.1 x.2.1 ∧ RowOk x.1.length x.2.2 ∧ x.2.2.length ≤ d}
abbrev Kmost (P : Program) (w : World) (K : PySem.W.Frag) (mg : Str → Option Value) (base : Heap) (W : Wd) (d : Nat) := KnD P w K mg base W (d + 1) "_law_most" ["_law_types", "_law_stock", "_law_row"] (fun i : MoX d => [eTys i.1.1, tupI i.1.2.1, tupI i.1.2.2]) (fun i => .int (mostM (accT i.1.1) i.1.2.2 i.1.2.1 : Nat))
theorem sc_most : FnScope ["_law_types", "_law_stock", "_law_row", "_law_best", "_law_kind", "_law_less"] ["_law_types", "_law_stock", "_law_row"] (defScope (top 56)) := ⟨rfl, rfl, rfl, by decide +kernel, rfl, by decide +kernel, by decide +kernel⟩
theorem ok_most1 (T : Tx mg) (d : Df K mg "_law_most" (top 56) ["_law_types", "_law_stock", "_law_row"]) (n : Nat) (ih : ∀ m, n = m + 1 → Kmost P w K mg base W m) : Kmost P w K mg base W n := by
  refine kn_ok d sc_most (fun _ => rfl) (fun _ => nomut) fun f cdv A outer s H E o i => ?_
  obtain ⟨⟨ts, st, row⟩, hok, hrow, hlen⟩ := i
  have hok : MsOk ts st := hok
  have hrow : RowOk ts.length row := hrow
  have hlen : row.length ≤ n := hlen
  refine ass_ifR (B := (· = (row.map D.int).isEmpty)) (at_eqET o (vv 2) (ae_tup (ds := []) aa_nil (by decide))) (fun h => ?_) fun h => ?_
  · have : row = [] := by
      cases row with
      | nil => rfl
      | cons => cases h
    subst this
    exact ass_one (wRet ae_int rfl)
  · cases row with
    | nil => cases h
    | cons r row =>
      cases n with
      | zero => simp at hlen
      | succ n =>
        have hlen : row.length ≤ n := by simpa using hlen
        have g := ih n rfl
        have hrow2 : RowOk ts.length row := fun x hx => hrow x (List.mem_cons_of_mem _ hx)
        obtain ⟨hr0, hr1⟩ := hrow r List.mem_cons_self
        have hrt : r.toNat < ts.length := by omega
        have hai : r = (r.toNat : Int) := (Int.toNat_of_nonneg hr0).symm
        have hget : (ts.map eTy)[r.toNat]? = some (eTy (ts.getD r.toNat ("", []))) := get_map hrt
        have hmem : ts.getD r.toNat ("", []) ∈ ts := by
          rw [← getD_get (xs := ts) (d := (("", []) : Ty)) hrt]
          exact List.getElem_mem hrt
        obtain ⟨hl1, hl2⟩ := hok.l _ hmem
        have hs : st.length ≤ 100 := hok.s
        refine wSet (i := 3) o (wCallE g o (aa3 (vv 0) (vv 1) (ae_slFrom (k := 1) (vv 2) ae_int rfl)) ⟨(ts, st, row), hok, hrow2, hlen⟩ (hk := Nat.le_refl _)) ?_
        show ASs _ W _ [some (.d (eTys ts)), some (.d (tupI st)), some (.d (tupI (r :: row))), some (.d (.int (mostM (accT ts) row st : Nat))), none, none] _
        refine ass_cons (fun δ' => ∃ a b, δ' = [some (.d (eTys ts)), some (.d (tupI st)), some (.d (tupI (r :: row))), some (.d (.int (mostM (accT ts) (r :: row) st : Nat))), a, b])
          (as_for (I := fun j δ' => δ' = [some (.d (eTys ts)), some (.d (tupI st)), some (.d (tupI (r :: row))), some (.d (.int (bestS st (row.length + 1) (fun st' => mostM (accT ts) row st') ((accT ts r).take j) (mostM (accT ts) row st) : Nat))), none, none]) (ix := [4]) (fun j δ => δ.set 4 (some (.d (.int ((accT ts r).getD j 0))))) o (fun _ => rfl)
            (ai_tup (ds := (accT ts r).map D.int) (wIx (ds := [.str (ts.getD r.toNat ("", [])).1, tupI (accT ts r)]) 1 (wIx (d := eTy (ts.getD r.toNat ("", []))) r.toNat (vv 0) (wIx (d := .int r) 0 (vv 2) ae_int .t rfl) .t hget hai) ae_int .t rfl)).toS ⟨_, rfl, .refl _⟩ (fun j d hd => ?_) (fun j d δ' hd hI => ?_) (fun δ' h => ?_)) fun δ' z => ?_
        · have hj : j < (accT ts r).length := by
            have := (List.getElem?_eq_some_iff.mp hd).1
            rwa [List.length_map] at this
          rw [get_map (f := D.int) (d := 0) hj] at hd
          cases hd
          exact wName o
        · subst hI
          have hj : j < (accT ts r).length := by
            have := (List.getElem?_eq_some_iff.mp hd).1
            rwa [List.length_map] at this
          have htk : (accT ts r).take (j + 1) = (accT ts r).take j ++ [(accT ts r)[j]] := by
            rw [List.take_add_one, List.getElem?_eq_getElem hj] <;> rfl
          obtain ⟨hk0, hk1⟩ := hl1 _ (List.getElem_mem hj)
          rw [htk, bestS_snoc, ← getD_get (d := 0) hj]
          generalize bestS st (row.length + 1) (fun st' => mostM (accT ts) row st') ((accT ts r).take j) (mostM (accT ts) row st) = b
          have hk0 : 0 ≤ (accT ts r)[j] := hk0
          have hk1 : (accT ts r)[j] < (st.length : Int) := hk1
          generalize (accT ts r)[j] = k at hk0 hk1
          have hki : k = (k.toNat : Int) := (Int.toNat_of_nonneg hk0).symm
          have hkg : (st.map D.int)[k.toNat]? = some (.int (gtS st k)) := get_map (by omega)
          refine ass_one (as_ifG (B := fun c => c = (decide (0 < gtS st k) && decide (b < row.length + 1))) (AT.weak (aw_and (at_gt (wIx k.toNat (vv 1) (vv 4) .t hkg hki) ae_int) fun _ => aw_and1 (at_lt (vv 3) (wLen T.len (vv 2) .t))).pt fun c e => ?_) (fun hB => ?_) fun hB => ?_)
          · rw [e]
            congr 1
            refine decide_eq_decide.mpr ?_
            rw [List.length_map]
            show ((b : Int) < ((row.length + 1 : Nat) : Int)) ↔ _
            omega
          · rw [if_pos hB.symm]
            refine wSet (i := 5) (s := .d (tupI (dcS st k))) o (AEq.to (ae_addT (ae_addT (ae_slTo (vv 1) (vv 4) hki) (ae_tup (ds := [.int (gtS st k - 1)]) (aa_cons (ae_sub (wIx k.toNat (vv 1) (vv 4) .t hkg hki) ae_int) aa_nil) (by show 1 ≤ 100; decide)) (by rw [List.length_take, List.length_map]; show _ + 1 ≤ _; omega)) (ae_slFrom (k := k.toNat + 1) (vv 1) (ae_add (vv 4) ae_int) (by omega)) (by rw [List.length_append, List.length_take, List.length_drop, List.length_map]; show _ + 1 + _ ≤ _; omega)) (congrArg (fun x => S.d (.tup x)) (dc_enc hk0 hk1))) ?_
            refine wSet (i := 3) (s := .d (.int ((max b (1 + mostM (accT ts) row (dcS st k)) : Nat) : Int))) o (AEq.to (wMax o T.max (vv 3) (ae_add ae_int (wCallE g o (aa3 (vv 0) (vv 5) (ae_slFrom (k := 1) (vv 2) ae_int rfl)) ⟨(ts, dcS st k, row), hok.dc k, hrow2, hlen⟩ (hk := Nat.le_refl _)))) ?_) (ass_nil ⟨_, rfl, by repeat' first | exact Fg.nil | apply Fg.same | apply Fg.drop⟩)
            show S.d (.int (if 1 + ((mostM (accT ts) row (dcS st k) : Nat) : Int) > (b : Int) then 1 + ((mostM (accT ts) row (dcS st k) : Nat) : Int) else (b : Int))) = _
            congr 2
            split <;> omega
          · rw [if_neg (by rw [← hB]; decide)]
            exact ass_nil ⟨_, rfl, by repeat' first | exact Fg.nil | apply Fg.same | apply Fg.drop⟩
        · subst h
          rw [List.length_map, List.take_length]
          exact ⟨_, _, rfl⟩
        · obtain ⟨a, b, rfl⟩ := z
          exact ass_one (wRet (vv 3) rfl)
theorem ok_most (T : Tx mg) (d : Df K mg "_law_most" (top 56) ["_law_types", "_law_stock", "_law_row"]) : ∀ n, Kmost P w K mg base W n
  | 0 => ok_most1 T d 0 fun m e => nomatch e
  | n + 1 => ok_most1 T d (n + 1) fun m e => by
    have := Nat.succ.inj e
    subst this
    exact ok_most T d n
end
end NR
namespace NR
open PySem PySem.Spec PyProof.Rows L2
def predQ (acc : Int → List Int) (stock : List Int) (d : Nat) (left served : List Int) (rows : List (List Int)) (q : Int) : Bool :=
  if mostM acc (served ++ [q]) stock < served.length + 1 then canM setS acc stock d left served (behM rows q)
  else goodF left (fun less => canM setS acc stock d less (served ++ [q]) (behM rows q)) (acc q) false
theorem canM_succ (acc : Int → List Int) (stock : List Int) (d : Nat) (left served : List Int) (rows : List (List Int)) : canM setS acc stock (d + 1) left served rows = (setS (headsM rows)).all (predQ acc stock d left served rows) := rfl
structure CaOk (d : Nat) (ts : List Ty) (st left served : List Int) (rows : List (List Int)) : Prop where
  ok : MsOk ts st
  ll : left.length = st.length
  sv : RowOk ts.length served
  sl : served.length + d ≤ 9
  rw_ : ∀ r ∈ rows, RowOk ts.length r ∧ r.length ≤ d
  rl : rows.length ≤ 1000
theorem heads_len (rows : List (List Int)) : (headsM rows).length ≤ rows.length := by
  unfold headsM
  rw [List.length_map]
  exact List.length_filter_le _ _
theorem heads_in {m : Nat} {rows : List (List Int)} (h : ∀ r ∈ rows, RowOk m r) : ∀ q ∈ headsM rows, 0 ≤ q ∧ q < m := fun q hq => by
  obtain ⟨r, hr, hqr⟩ := heads_mem hq
  exact h r hr q hqr
theorem setS_len {m : Nat} {xs : List Int} (h : ∀ q ∈ xs, 0 ≤ q ∧ q < (m : Int)) : (setS xs).length ≤ m := by
  have := asc_bound (m := m) (lo := 0) (fun x hx => (h x ((setS_mem x xs).mp hx)).2) (fun x hx => (h x ((setS_mem x xs).mp hx)).1) (setS_pw xs) (by omega)
  omega
theorem CaOk.beh {d : Nat} {ts : List Ty} {st left left' served served' : List Int} {rows : List (List Int)} {q : Int} (h : CaOk (d + 1) ts st left served rows) (h1 : left'.length = st.length) (h2 : RowOk ts.length served') (h3 : served'.length ≤ served.length + 1) : CaOk d ts st left' served' (behM rows q) := by
  refine ⟨h.ok, h1, h2, by have := h.sl; omega, fun r hr => ⟨beh_ok (fun r hr => (h.rw_ r hr).1) r hr, ?_⟩, ?_⟩
  · unfold behM at hr
    obtain ⟨r', hr', rfl⟩ := List.mem_map.mp hr
    have := (h.rw_ r' (List.mem_filter.mp hr').1).2
    rw [List.length_tail]
    omega
  · unfold behM
    rw [List.length_map]
    exact Nat.le_trans (List.length_filter_le _ _) h.rl
theorem snoc_ok {m : Nat} {served : List Int} {q : Int} (h : RowOk m served) (hq : 0 ≤ q ∧ q < (m : Int)) : RowOk m (served ++ [q]) := fun x hx => by
  rcases List.mem_append.mp hx with hx | hx
  · exact h x hx
  · rw [List.mem_singleton.mp hx]
    exact hq
theorem head_of {r : List Int} (h : (!r.isEmpty) = true) : (r.map D.int)[0]? = some (.int (r.headD 0)) := by
  cases r with
  | nil => cases h
  | cons x xs => rfl
theorem drop_tail (r : List Int) : (r.map D.int).drop 1 = r.tail.map D.int := by
  cases r <;> rfl
section
variable {P : Program} {w : World} {K : PySem.W.Frag} {mg : Str → Option Value} {base : Heap} {W : Wd}
structure CaX (d : Nat) where
  ts : List Ty
  st : List Int
  left : List Int
  served : List Int
  rows : List (List Int)
  ok : CaOk d ts st left served rows
abbrev caArgs (d : Nat) (i : CaX d) : List S := [.d (eTys i.ts), .d (tupI i.st), .d (tupI i.left), .l (i.served.map D.int), .l (i.rows.map tupI)]
abbrev Kcan (P : Program) (w : World) (K : PySem.W.Frag) (mg : Str → Option Value) (base : Heap) (W : Wd) (d : Nat) := Kn P w K mg base W (d + 12) "_law_can_avoid" ["_law_types", "_law_stock", "_law_left", "_law_served_here", "_law_rows_here"] (caArgs d) (fun i s => s = .d (.bl (canM setS (accT i.ts) i.st d i.left i.served i.rows)))
theorem sc_can : FnScope ["_law_types", "_law_stock", "_law_left", "_law_served_here", "_law_rows_here", "_law_request", "_law_behind", "_law_good", "_law_kind", "_law_less", "_law_row"] ["_law_types", "_law_stock", "_law_left", "_law_served_here", "_law_rows_here"] (defScope (top 57)) := ⟨rfl, rfl, rfl, by decide +kernel, rfl, by decide +kernel, by decide +kernel⟩
theorem ok_can1 (T : Tx mg) (d : Df K mg "_law_can_avoid" (top 57) ["_law_types", "_law_stock", "_law_left", "_law_served_here", "_law_rows_here"]) (gm : Kmost P w K mg base W 10) (n : Nat) (ih : ∀ m, n = m + 1 → Kcan P w K mg base W m) : Kcan P w K mg base W n := by
  refine kn_ok d sc_can (fun _ => rfl) (fun i s h => by simp at h; rcases h with rfl | rfl | rfl | rfl | rfl <;> exact id) fun f cdv A outer s H E o i => ?_
  obtain ⟨ts, st, left, served, rows, hok⟩ := i
  have hrl := hok.rl
  have hh := heads_in (fun r hr => (hok.rw_ r hr).1)
  have h60 := hok.ok.t
  have hsl := setS_len hh
  refine ass_cons (fun δ' => (∃ a b c d' e, δ' = [some (.d (eTys ts)), some (.d (tupI st)), some (.d (tupI left)), some (.l (served.map D.int)), some (.l (rows.map tupI)), a, b, c, d', e, none]) ∧ canM setS (accT ts) st n left served rows = true)
    (as_for (ds := (setS (headsM rows)).map D.int) (I := fun j δ' => δ' = [some (.d (eTys ts)), some (.d (tupI st)), some (.d (tupI left)), some (.l (served.map D.int)), some (.l (rows.map tupI)), none, none, none, none, none, none] ∧ ∀ m, n = m + 1 → ∀ q ∈ (setS (headsM rows)).take j, predQ (accT ts) st m left served rows q = true) (ix := [5]) (fun j δ => δ.set 5 (some (.d (.int ((setS (headsM rows)).getD j 0))))) o (fun _ => rfl)
      (wNew (wSortSet (ns := headsM rows) o T.sorted T.set (LcJ.aq (wLc (xs := rows) (enc := tupI) [("_law_row", 10)] (ix := [10]) (fun r => !r.isEmpty) (fun r => .int (r.headD 0)) (fun r δ => δ.set 10 (some (.d (tupI r)))) o (by omega) (ai_list (vv 4) (.inr rfl)) (fun s H C cl fp x => wName (o.blk ..)) (fun s H C cl fp r hr => ats_one (ATq.to (at_neET (o.blk ..) (vv 10) (ae_tup (ds := []) aa_nil (by decide))) (by rw [List.isEmpty_map]))) (fun s H C cl fp r hr ht => wIx 0 (vv 10) ae_int .t (head_of ht))) o (own_eq ?_)) (.inl rfl) (Nat.le_trans (heads_len rows) hrl) (by omega)))
      ⟨_, ⟨rfl, fun m _ q hq => by simp at hq⟩, .refl _⟩ (fun j d hd => ?_) (fun j d δ' hd hI => ?_) (fun δ' h => ?_)) fun δ' z => ?_
  · unfold headsM
    rw [List.map_map] <;> rfl
  · have hj : j < (setS (headsM rows)).length := by
      have := (List.getElem?_eq_some_iff.mp hd).1
      rwa [List.length_map] at this
    rw [get_map (f := D.int) (d := 0) hj] at hd
    cases hd
    exact wName o
  · obtain ⟨rfl, hall⟩ := hI
    have hj : j < (setS (headsM rows)).length := by
      have := (List.getElem?_eq_some_iff.mp hd).1
      rwa [List.length_map] at this
    have htk : (setS (headsM rows)).take (j + 1) = (setS (headsM rows)).take j ++ [(setS (headsM rows))[j]] := by
      rw [List.take_add_one, List.getElem?_eq_getElem hj] <;> rfl
    have hqm := List.getElem_mem hj
    have hqh := (setS_mem _ _).mp hqm
    obtain ⟨hq0, hq1⟩ := hh _ hqh
    rw [← getD_get (d := 0) hj]
    show ASs _ W _ _ ⟨fun δ' => _ ∧ ∀ m, n = m + 1 → ∀ q ∈ (setS (headsM rows)).take (j + 1), _, _, _, fun δ' => _ ∧ ∀ m, n = m + 1 → ∀ q ∈ (setS (headsM rows)).take (j + 1), _⟩
    rw [htk]
    generalize (setS (headsM rows))[j] = q at hqm hqh hq0 hq1
    cases n with
    | zero =>
      obtain ⟨r, hr, hqr⟩ := heads_mem hqh
      have := (hok.rw_ r hr).2
      have : r = [] := by
        cases r with
        | nil => rfl
        | cons => simp at this
      rw [this] at hqr
      cases hqr
    | succ n =>
      have g := ih n rfl
      have hs := hok.ok.s
      have hll := hok.ll
      have hrq : RowOk ts.length (served ++ [q]) := snoc_ok hok.sv ⟨hq0, hq1⟩
      have hsl9 := hok.sl
      have hsll : (served.map D.int).length = served.length := List.length_map ..
      have hqt : q.toNat < ts.length := by omega
      have hqi : q = (q.toNat : Int) := (Int.toNat_of_nonneg hq0).symm
      have hget : (ts.map eTy)[q.toNat]? = some (eTy (ts.getD q.toNat ("", []))) := get_map hqt
      have hmem : ts.getD q.toNat ("", []) ∈ ts := by
        rw [← getD_get (xs := ts) (d := (("", []) : Ty)) hqt]
        exact List.getElem_mem hqt
      obtain ⟨hl1, hl2⟩ := hok.ok.l _ hmem
      have hnext : predQ (accT ts) st n left served rows q = true → ∀ m, n + 1 = m + 1 → ∀ x ∈ (setS (headsM rows)).take j ++ [q], predQ (accT ts) st m left served rows x = true := fun hp m e x hx => by
        have e2 : n = m := Nat.succ.inj e
        subst e2
        rcases List.mem_append.mp hx with hx | hx
        · exact hall n rfl x hx
        · rw [List.mem_singleton.mp hx]
          exact hp
      have hfail : predQ (accT ts) st n left served rows q = false → canM setS (accT ts) st (n + 1) left served rows = false := fun hp => by
        rw [canM_succ]
        exact List.all_eq_false.mpr ⟨q, hqm, by rw [hp]; decide⟩
      refine wSetLc (i := 6) (s := .own ((behM rows q).map tupI)) o (LcJ.eqv (wLc (xs := rows) (enc := tupI) [("_law_row", 10)] (ix := [10]) (fun r => !r.isEmpty && decide (r.headD 0 = q)) (fun r => tupI r.tail) (fun r δ => δ.set 10 (some (.d (tupI r)))) o (by omega) (ai_list (vv 4) (.inr rfl)) (fun s H C cl fp x => wName (o.blk ..))
        (fun s H C cl fp r hr => ats_one (AT.weak (aw_and (at_neET (o.blk ..) (vv 10) (ae_tup (ds := []) aa_nil (by decide))) fun ht => aw_and1 (at_eqI (wIx 0 (vv 10) ae_int .t (head_of (by rw [List.isEmpty_map] at ht; exact ht))) (vv 5))).pt (fun b e => by rw [e, List.isEmpty_map]))) (fun s H C cl fp r hr _ => AEq.to (ae_slFrom (k := 1) (vv 10) ae_int rfl) (congrArg (fun x => S.d (.tup x)) (drop_tail r)))) (own_eq ?_)) ?_
      · unfold behM
        rw [List.map_map] <;> rfl
      refine ass_ifR (B := fun b => b = decide (mostM (accT ts) (served ++ [q]) st < served.length + 1)) (AT.weak (at_lt (wCallE gm o (aa3 (vv 0) (vv 1) (AEq.to (ae_addT (ds := served.map D.int) (es := [.int q]) (wTup T.tuple (vv 3) (.inr rfl)) (ae_tup (ds := [.int q]) (aa_cons (vv 5) aa_nil) (by show 1 ≤ 100; decide)) (by rw [hsll]; show _ + 1 ≤ _; omega)) (t := .d (tupI (served ++ [q]))) (by unfold tupI; rw [List.map_append] <;> rfl))) ⟨(ts, st, served ++ [q]), hok.ok, hrq, by rw [List.length_append]; show served.length + 1 ≤ 10; omega⟩ (hk := by omega)) (ae_add (wLen T.len (vv 3) .l) ae_int)) fun b e => ?_) (fun hB => ?_) fun hB => ?_
      · rw [e]
        refine decide_eq_decide.mpr ?_
        rw [hsll]
        show ((mostM (accT ts) (served ++ [q]) st : Nat) : Int) < (served.length : Int) + 1 ↔ _
        omega
      · have hlt : mostM (accT ts) (served ++ [q]) st < served.length + 1 := of_decide_eq_true hB.symm
        have hpq : predQ (accT ts) st n left served rows q = canM setS (accT ts) st n left served (behM rows q) := if_pos hlt
        refine ass_ifR (B := fun b => b = !canM setS (accT ts) st n left served (behM rows q)) (at_not (atv (wCallE g o (aa_cons (vv 0) (aa_cons (vv 1) (aa_cons (vv 2) (aa_cons (vv 3) (aa_cons (vo 6) aa_nil))))) ⟨ts, st, left, served, behM rows q, hok.beh hll hok.sv (by omega)⟩ (hk := Nat.le_refl _)))) (fun h2 => ?_) fun h2 => ?_
        · refine ass_one (wRet ae_bl ?_)
          show S.d (.bl false) = S.d (.bl (canM setS (accT ts) st (n + 1) left served rows))
          rw [hfail (by rw [hpq]; simpa using h2.symm)]
        · exact ass_one (as_cont ⟨_, ⟨rfl, hnext (by rw [hpq]; simpa using h2.symm)⟩, by repeat' first | exact Fg.nil | apply Fg.same | apply Fg.drop⟩)
      · have hlt : ¬ mostM (accT ts) (served ++ [q]) st < served.length + 1 := of_decide_eq_false hB.symm
        have hpq : predQ (accT ts) st n left served rows q = goodF left (fun less => canM setS (accT ts) st n less (served ++ [q]) (behM rows q)) (accT ts q) false := if_neg hlt
        refine wSet (i := 7) o ae_bl ?_
        refine ass_cons (fun δ' => ∃ a b, δ' = [some (.d (eTys ts)), some (.d (tupI st)), some (.d (tupI left)), some (.l (served.map D.int)), some (.l (rows.map tupI)), some (.d (.int q)), some (.own ((behM rows q).map tupI)), some (.d (.bl (predQ (accT ts) st n left served rows q))), a, b, none])
          (as_for (ds := (accT ts q).map D.int) (I := fun u δ' => δ' = [some (.d (eTys ts)), some (.d (tupI st)), some (.d (tupI left)), some (.l (served.map D.int)), some (.l (rows.map tupI)), some (.d (.int q)), some (.own ((behM rows q).map tupI)), some (.d (.bl (goodF left (fun less => canM setS (accT ts) st n less (served ++ [q]) (behM rows q)) ((accT ts q).take u) false))), none, none, none]) (ix := [8]) (fun u δ => δ.set 8 (some (.d (.int ((accT ts q).getD u 0))))) o (fun _ => rfl)
            (ai_tup (ds := (accT ts q).map D.int) (wIx (ds := [.str (ts.getD q.toNat ("", [])).1, tupI (accT ts q)]) 1 (wIx (d := eTy (ts.getD q.toNat ("", []))) q.toNat (vv 0) (vv 5) .t hget hqi) ae_int .t rfl)).toS ⟨_, rfl, .refl _⟩ (fun u d hd => ?_) (fun u d δ' hd hI => ?_) (fun δ' h => ?_)) fun δ' z => ?_
        · have hu : u < (accT ts q).length := by
            have := (List.getElem?_eq_some_iff.mp hd).1
            rwa [List.length_map] at this
          rw [get_map (f := D.int) (d := 0) hu] at hd
          cases hd
          exact wName o
        · subst hI
          have hu : u < (accT ts q).length := by
            have := (List.getElem?_eq_some_iff.mp hd).1
            rwa [List.length_map] at this
          have htu : (accT ts q).take (u + 1) = (accT ts q).take u ++ [(accT ts q)[u]] := by
            rw [List.take_add_one, List.getElem?_eq_getElem hu] <;> rfl
          obtain ⟨hk0, hk1⟩ := hl1 _ (List.getElem_mem hu)
          rw [htu, goodF_snoc, ← getD_get (d := 0) hu]
          generalize goodF left (fun less => canM setS (accT ts) st n less (served ++ [q]) (behM rows q)) ((accT ts q).take u) false = gg
          have hk0 : 0 ≤ (accT ts q)[u] := hk0
          have hk1 : (accT ts q)[u] < (st.length : Int) := hk1
          generalize (accT ts q)[u] = k at hk0 hk1
          have hki : k = (k.toNat : Int) := (Int.toNat_of_nonneg hk0).symm
          have hkl : k < (left.length : Int) := by rw [hll]; exact hk1
          have hkg : (left.map D.int)[k.toNat]? = some (.int (gtS left k)) := get_map (by omega)
          refine ass_one (as_ifG (B := fun c => c = (decide (0 < gtS left k) && !gg)) (aw_and (at_gt (wIx k.toNat (vv 2) (vv 8) .t hkg hki) ae_int) fun _ => aw_and1 (at_not (atv (vv 7)))).pt (fun hB => ?_) fun hB => ?_)
          · rw [if_pos hB.symm]
            refine wSet (i := 9) (s := .d (tupI (dcS left k))) o (AEq.to (ae_addT (ae_addT (ae_slTo (vv 2) (vv 8) hki) (ae_tup (ds := [.int (gtS left k - 1)]) (aa_cons (ae_sub (wIx k.toNat (vv 2) (vv 8) .t hkg hki) ae_int) aa_nil) (by show 1 ≤ 100; decide)) (by rw [List.length_take, List.length_map]; show _ + 1 ≤ _; omega)) (ae_slFrom (k := k.toNat + 1) (vv 2) (ae_add (vv 8) ae_int) (by omega)) (by rw [List.length_append, List.length_take, List.length_drop, List.length_map]; show _ + 1 + _ ≤ _; omega)) (congrArg (fun x => S.d (.tup x)) (dc_enc hk0 hkl))) ?_
            refine wSet (i := 7) o (wCallE g o (aa_cons (vv 0) (aa_cons (vv 1) (aa_cons (vv 9) (aa_cons (AEq.to (AEq.l (ae_addL (ds := served.map D.int) (es' := [.int q]) (vv 3) (ae_lst (ds := [.int q]) (aa_cons (vv 5) aa_nil) (by show 1 ≤ 100; decide)) (.inr rfl) (.inl rfl) (by rw [hsll]; show _ + 1 ≤ _; omega))) (t := .l ((served ++ [q]).map D.int)) (by rw [List.map_append] <;> rfl)) (aa_cons (vo 6) aa_nil))))) ⟨ts, st, dcS left k, served ++ [q], behM rows q, hok.beh (by rw [dc_len]; exact hll) hrq (by rw [List.length_append]; exact Nat.le_refl _)⟩ (hk := Nat.le_refl _)) (ass_nil ⟨_, rfl, by repeat' first | exact Fg.nil | apply Fg.same | apply Fg.drop⟩)
          · rw [if_neg (by rw [← hB]; decide)]
            exact ass_nil ⟨_, rfl, by repeat' first | exact Fg.nil | apply Fg.same | apply Fg.drop⟩
        · subst h
          rw [List.length_map, List.take_length, hpq]
          exact ⟨_, _, rfl⟩
        · obtain ⟨a, b, rfl⟩ := z
          refine ass_ifR (B := fun c => c = !predQ (accT ts) st n left served rows q) (at_not (atv (vv 7))) (fun h2 => ?_) fun h2 => ?_
          · refine ass_one (wRet ae_bl ?_)
            show S.d (.bl false) = S.d (.bl (canM setS (accT ts) st (n + 1) left served rows))
            rw [hfail (by simpa using h2.symm)]
          · exact ass_nil ⟨_, ⟨rfl, hnext (by simpa using h2.symm)⟩, by repeat' first | exact Fg.nil | apply Fg.same | apply Fg.drop⟩
  · obtain ⟨rfl, hall⟩ := h
    rw [List.length_map, List.take_length] at hall
    refine ⟨⟨_, _, _, _, _, rfl⟩, ?_⟩
    cases n with
    | zero => rfl
    | succ n =>
      rw [canM_succ]
      exact List.all_eq_true.mpr (hall n rfl)
  · obtain ⟨⟨a, b, c, d', e, rfl⟩, hc⟩ := z
    refine ass_one (wRet ae_bl ?_)
    show S.d (.bl true) = S.d (.bl (canM setS (accT ts) st n left served rows))
    rw [hc]
theorem ok_can (T : Tx mg) (d : Df K mg "_law_can_avoid" (top 57) ["_law_types", "_law_stock", "_law_left", "_law_served_here", "_law_rows_here"]) (gm : Kmost P w K mg base W 10) : ∀ n, Kcan P w K mg base W n
  | 0 => ok_can1 T d gm 0 fun m e => nomatch e
  | n + 1 => ok_can1 T d gm (n + 1) fun m e => by
    have := Nat.succ.inj e
    subst this
    exact ok_can T d gm n
end
end NR
namespace NR
section
variable {acc ord : Int → List Int} {n m : Nat}
theorem fold_found : ∀ (row st f : List Int) (at0 : Nat), ∃ g, ((row.zipIdx at0).foldl (gStep ord) (st, f)).2 = f ++ g ∧ ∀ x ∈ g, (at0 : Int) ≤ x ∧ x < (at0 : Int) + row.length
  | [], st, f, at0 => ⟨[], by simp, fun x hx => nomatch hx⟩
  | r :: row, st, f, at0 => by
    rw [List.zipIdx_cons, List.foldl_cons]
    unfold gStep
    cases q : pickG ord st r with
    | none =>
      simp only [q]
      obtain ⟨g, h1, h2⟩ := fold_found row st f (at0 + 1)
      exact ⟨g, h1, fun x hx => by have := h2 x hx; rw [List.length_cons]; omega⟩
    | some k =>
      simp only [q]
      obtain ⟨g, h1, h2⟩ := fold_found row (dcS st k) (f ++ [(at0 : Int)]) (at0 + 1)
      refine ⟨(at0 : Int) :: g, ?_, fun x hx => ?_⟩
      · show ((row.zipIdx (at0 + 1)).foldl (gStep ord) (dcS st k, f ++ [(at0 : Int)])).2 = _
        rw [h1, List.append_assoc] <;> rfl
      · rw [List.length_cons]
        rcases List.mem_cons.mp hx with rfl | hx
        · omega
        · have := h2 x hx
          omega
/-- the state behind so many requests -/
def servAt (ord : Int → List Int) (st row : List Int) (j : Nat) : List Int × List Int := (row.zipIdx.take j).foldl (gStep ord) (st, [])
theorem servAt_all (st row : List Int) : servAt ord st row row.length = servS ord st row := by
  unfold servAt servS
  rw [List.take_of_length_le (by rw [List.length_zipIdx]; exact Nat.le_refl _)]
theorem servAt_succ {st row : List Int} {j : Nat} {r : Int} (h : row[j]? = some r) : servAt ord st row (j + 1) = gStep ord (servAt ord st row j) (r, j) := by
  unfold servAt
  rw [List.take_add_one, List.getElem?_zipIdx, h]
  simp
theorem gStep_len (s : List Int × List Int) (p : Int × Nat) : (gStep ord s p).1.length = s.1.length := by
  unfold gStep
  cases pickG ord s.1 p.1 with
  | none => rfl
  | some k => exact dc_len _ _
theorem servAt_len (st row : List Int) : ∀ j, j ≤ row.length → (servAt ord st row j).1.length = st.length
  | 0, _ => rfl
  | j + 1, h => by
    rw [servAt_succ (List.getElem?_eq_getElem (by omega : j < row.length)), gStep_len, servAt_len st row j (by omega)]
theorem serv_mem {st row : List Int} {j : Nat} {r : Int} (h : row[j]? = some r) : (j : Int) ∈ (servS ord st row).2 ↔ pickG ord (servAt ord st row j).1 r ≠ none := by
  have hj : j < row.length := (List.getElem?_eq_some_iff.mp h).1
  have hr : r = row[j] := by
    rw [List.getElem?_eq_getElem hj] at h
    exact (Option.some.inj h).symm
  have e1 : row = row.take j ++ r :: row.drop (j + 1) := by
    rw [hr, ← List.drop_eq_getElem_cons hj, List.take_append_drop]
  have hl : (row.take j).length = j := by rw [List.length_take]; omega
  have e2 : row.zipIdx = (row.take j).zipIdx ++ (r, j) :: (row.drop (j + 1)).zipIdx (j + 1) := by
    conv => lhs; rw [e1]
    rw [List.zipIdx_append, List.zipIdx_cons, hl]
    simp
  have e3 : servAt ord st row j = ((row.take j).zipIdx).foldl (gStep ord) (st, []) := by
    unfold servAt
    rw [e2, List.take_left' (by rw [List.length_zipIdx, hl])]
  obtain ⟨g1, h1, h2⟩ := fold_found (ord := ord) (row.take j) st [] 0
  have e4 : (servS ord st row) = ((row.drop (j + 1)).zipIdx (j + 1)).foldl (gStep ord) (gStep ord (servAt ord st row j) (r, j)) := by
    unfold servS
    rw [e2, List.foldl_append, List.foldl_cons, ← e3]
  have hf : (j : Int) ∉ (servAt ord st row j).2 := fun hm => by
    rw [e3, h1, List.nil_append] at hm
    have := h2 _ hm
    rw [hl] at this
    omega
  rw [e4]
  cases q : pickG ord (servAt ord st row j).1 r with
  | none =>
    have e5 : gStep ord (servAt ord st row j) (r, j) = servAt ord st row j := by
      unfold gStep
      simp only [q]
    rw [e5]
    obtain ⟨g, h3, h4⟩ := fold_found (ord := ord) (row.drop (j + 1)) (servAt ord st row j).1 (servAt ord st row j).2 (j + 1)
    have h3' : (((row.drop (j + 1)).zipIdx (j + 1)).foldl (gStep ord) (servAt ord st row j)).2 = _ := h3
    rw [h3']
    constructor
    · intro hm
      rcases List.mem_append.mp hm with hm | hm
      · exact absurd hm hf
      · have := (h4 _ hm).1
        omega
    · intro hm
      exact absurd rfl hm
  | some k =>
    have e5 : gStep ord (servAt ord st row j) (r, j) = (dcS (servAt ord st row j).1 k, (servAt ord st row j).2 ++ [(j : Int)]) := by
      unfold gStep
      simp only [q]
    rw [e5]
    obtain ⟨g, h3, _⟩ := fold_found (ord := ord) (row.drop (j + 1)) (dcS (servAt ord st row j).1 k) ((servAt ord st row j).2 ++ [(j : Int)]) (j + 1)
    rw [h3]
    simp
theorem serv_count (ha : ∀ r, ∀ k ∈ acc r, 0 ≤ k ∧ k < n) (O : OrdOk acc ord m) {row st : List Int} (hr : RowOk m row) (hl : st.length = n) : (servS ord st row).2.length = mostM acc row st := by
  have := serv_len ha O row st [] 0 hr hl
  unfold servS
  simpa using this
/-! crossing kinds -/
theorem can_cross {reqs : List Int → List Int} (hq : ∀ xs x, x ∈ xs → x ∈ reqs xs) (ha : ∀ r, ∀ k ∈ acc r, 0 ≤ k ∧ k < n) {stock : List Int} (hl : stock.length = n) {k l f a b : Int} (hkl : k ≠ l) (hk : gtS stock k = 1) (hll : gtS stock l = 1) (ho : ∀ j : Int, 0 ≤ j → j < (n : Int) → j ≠ k → j ≠ l → gtS stock j = 0)
    (kf : k ∈ acc f) (lf : l ∈ acc f) (ka : k ∈ acc a) (la : l ∉ acc a) (kb : k ∉ acc b) (lb : l ∈ acc b) (d : Nat) : canM reqs acc stock (d + 2) stock [] [[f, a], [f, b]] = false := by
  have hg : ∀ {s : List Int} {i j : Int}, 0 ≤ i → i < s.length → 0 ≤ j → gtS (dcS s i) j = if j = i then gtS s i - 1 else gtS s j := fun {s i j} h1 h2 h3 => by
    have := congrFun (fn_dc (st := s) h1 h2) j
    simp only [fnS, dec1, if_pos h3] at this
    rw [this]
    split
    · rename_i e; rw [e]
    · rfl
  unfold canM
  refine List.all_eq_false.mpr ⟨f, hq _ _ (by simp [headsM]), ?_⟩
  have h1 : ¬ mostM acc ([] ++ [f]) stock < ([] : List Int).length + 1 := by
    have s1 : Sv acc (fnS stock) [f] 1 := .put kf (by unfold fnS; rw [if_pos (ha _ _ kf).1, hk]; decide) .nil
    have := most_ub ha [f] stock 1 hl s1
    simp only [List.nil_append, List.length_nil]
    omega
  rw [if_neg h1]
  have hb : behM [[f, a], [f, b]] f = [[a], [b]] := by simp [behM]
  rw [hb]
  have key : ∀ {k l a : Int}, k ≠ l → gtS stock k = 1 → gtS stock l = 1 → (∀ j : Int, 0 ≤ j → j < (n : Int) → j ≠ k → j ≠ l → gtS stock j = 0) → k ∈ acc f → l ∈ acc f → k ∈ acc a → l ∉ acc a → a ∈ reqs (headsM [[a], [b]]) ∨ True → ∀ rows, a ∈ headsM rows → canM reqs acc stock (d + 1) (dcS stock k) [f] rows = false := by
    intro k l a hkl hk hl2 ho kf lf ka la _ rows hin
    unfold canM
    refine List.all_eq_false.mpr ⟨a, hq _ _ hin, ?_⟩
    obtain ⟨hk0, hk1⟩ := ha _ _ kf
    obtain ⟨hl0, hl1⟩ := ha _ _ lf
    have h2 : ¬ mostM acc ([f] ++ [a]) stock < [f].length + 1 := by
      have s1 : Sv acc (fnS stock) [f, a] 2 := by
        refine .put lf (by unfold fnS; rw [if_pos hl0, hl2]; decide) (.put ka ?_ .nil)
        show 0 < (if k = l then _ else _)
        rw [if_neg hkl]
        unfold fnS
        rw [if_pos hk0, hk]
        decide
      have := most_ub ha [f, a] stock 2 hl s1
      show ¬ mostM acc [f, a] stock < 1 + 1
      omega
    rw [if_neg h2, goodF_none]
    · decide
    · intro j hj hpos
      obtain ⟨hj0, hj1⟩ := ha _ _ hj
      rw [hg hk0 (by omega) hj0] at hpos
      by_cases e : j = k
      · rw [if_pos e, hk] at hpos
        omega
      · rw [if_neg e] at hpos
        by_cases e2 : j = l
        · rw [e2] at hj
          exact absurd hj la
        · rw [ho j hj0 hj1 e e2] at hpos
          omega
  rw [goodF_none]
  · decide
  · intro j hj hpos
    obtain ⟨hj0, hj1⟩ := ha _ _ hj
    by_cases e : j = k
    · subst e
      exact key hkl hk hll ho kf lf ka la (.inr trivial) _ (by simp [headsM])
    · by_cases e2 : j = l
      · subst e2
        exact key (Ne.symm hkl) hll hk (fun i h1 h2 h3 h4 => ho i h1 h2 h4 h3) lf kf lb kb (.inr trivial) _ (by simp [headsM])
      · rw [ho j hj0 hj1 e e2] at hpos
        omega
end
end NR
namespace NR
open PySem PySem.Spec PyProof.Rows L2
section
variable {X : Cx} {W : Wd} {e a b c elt tg iter : Expr} {es ifs : List Expr} {δ : Env} {pos : Pos} {st : Stmt} {rest body : List Stmt} {p q : Post} {P : S → Prop}
theorem wDget {k : Nat} (i : Nat) {x : Str} {kvs : List (List Int × Int)} {ks : List Int} {v : Int} {pn apos cpos : Pos} (o : Cok k X) (ha : AEq X W a δ (.d (tupI ks))) (hb : AEq X W b δ (.d (.int v))) (m : M2 X (.Name x pn) "get" apos a b cpos := by exact ⟨rfl, rfl, rfl, rfl⟩) (hs : δ[i]? = some (some (.dic kvs)) := by rfl) (hN : X.N[i]? = some x := by rfl) (hv : Vis X.env.scope x := by first | exact Or.inl rfl | exact Or.inr (Or.inl rfl) | exact Or.inr (Or.inr rfl)) (hd : (x == ("__debug__" : Str)) = false := by decide) (hc : (x == ("__classdict__" : Str)) = false := by decide) :
    AEq X W (.Call (.Attribute (.Name x pn) "get" apos) [a, b] [] cpos) δ (.d (.int ((lookD kvs ks).getD v))) := ae_dget o hs hN hv hd hc ha hb m
theorem wDput {k : Nat} (i : Nat) {x : Str} {kvs : List (List Int × Int)} {ks : List Int} {v : Int} {pn spos : Pos} (o : Cok k X) (hlen : kvs.length < 100000) (h : AEq X W e δ (.d (.int v))) (hi : AEq X W a δ (.d (tupI ks))) (t : ASs X W rest (δ.set i (some (.dic (putD kvs ks v)))) p) (he : δ[i]? = some (some (.dic kvs)) := by rfl) (hN : X.N[i]? = some x := by rfl) (hv : Vis X.env.scope x := by first | exact Or.inl rfl | exact Or.inr (Or.inl rfl) | exact Or.inr (Or.inr rfl)) (hd : (x == ("__debug__" : Str)) = false := by decide) (hc : (x == ("__classdict__" : Str)) = false := by decide)
    (hs : swapsWith e (some (.Subscript (.Name x pn) a spos)) pos.line X.env = pure false := by rfl) : ASs X W (.Assign [.Subscript (.Name x pn) a spos] e pos :: rest) δ p := ass_dput o he hN hv hd hc hlen h hi hs t
end
def ordP (fo : Fo) (path : Nat → List Int) (r : Int) : List Int := upM fo.places (path r.toNat)
structure FoOk (fo : Fo) (n m : Nat) (path : Nat → List Int) : Prop where
  h : ∀ r, r < m → r < fo.homes.length ∧ isPath fo.above (fo.homes.getD r 0) (path r) ∧ (∀ q ∈ path r, 0 ≤ q ∧ q.toNat < fo.places.length) ∧ (path r).length ≤ 1000 ∧ (upM fo.places (path r)).length ≤ 1000
  k : ∀ r, r < m → ∀ k ∈ upM fo.places (path r), 0 ≤ k ∧ k < (n : Int)
structure SvX where
  fo : Fo
  ts : List Ty
  st : List Int
  row : List Int
  n : Nat
  m : Nat
  path : Nat → List Int
  ok : FoOk fo n m path
  sl : st.length = n
  n1 : n ≤ 100
  ro : RowOk m row
  rl : row.length ≤ 10
section
variable {P : Program} {w : World} {K : PySem.W.Frag} {mg : Str → Option Value} {base : Heap} {W : Wd} {CT CF CC : Addr}
abbrev svArgs (CF : Addr) (i : SvX) : List S := [.d (eFo CF i.fo), .d (eTys i.ts), .d (tupI i.st), .d (tupI i.row)]
abbrev Kserved (P : Program) (w : World) (K : PySem.W.Frag) (mg : Str → Option Value) (base : Heap) (W : Wd) (CF : Addr) := Kn P w K mg base W 3 "_law_served" ["_law_forest", "_law_types", "_law_stock", "_law_row"] (svArgs CF) (fun i s => s = .own ((servS (ordP i.fo i.path) i.st i.row).2.map D.int))
theorem sc_served : FnScope ["_law_forest", "_law_types", "_law_stock", "_law_row", "_law_left", "_law_found", "_law_at", "_law_some", "_law_kind"] ["_law_forest", "_law_types", "_law_stock", "_law_row"] (defScope (top 59)) := ⟨rfl, rfl, rfl, by decide +kernel, rfl, by decide +kernel, by decide +kernel⟩
theorem ok_served (T : Tx mg) (d : Df K mg "_law_served" (top 59) ["_law_forest", "_law_types", "_law_stock", "_law_row"]) (g : KupwardKinds P w K mg base W CF) : Kserved P w K mg base W CF := by
  refine kn_ok d sc_served (fun _ => rfl) (fun i s h => by simp at h; rcases h with rfl | rfl | rfl | rfl <;> exact id) fun f cdv A outer s H E o i => ?_
  obtain ⟨fo, ts, st, row, n, m, path, hok, hsl, hn, hro, hrl⟩ := i
  have hll : (row.map D.int).length = row.length := List.length_map ..
  refine wParC (i := 4) (j := 5) (s := .own (st.map D.int)) (u := .own []) o (wList T.list (vv 2) .t) (ae_lst aa_nil (by decide)) ?_
  refine ass_cons (fun δ' => ∃ a b c, δ' = [some (.d (eFo CF fo)), some (.d (eTys ts)), some (.d (tupI st)), some (.d (tupI row)), c, some (.own ((servS (ordP fo path) st row).2.map D.int)), a, b, none])
    (as_for (I := fun j δ' => j ≤ row.length ∧ δ' = [some (.d (eFo CF fo)), some (.d (eTys ts)), some (.d (tupI st)), some (.d (tupI row)), some (.own ((servAt (ordP fo path) st row j).1.map D.int)), some (.own ((servAt (ordP fo path) st row j).2.map D.int)), none, none, none]) (ix := [6]) (fun j δ => δ.set 6 (some (.d (.int (j : Int))))) o (fun _ => rfl) (wR1 (n := row.length) T.range (wLen T.len (vv 3) .t) (by omega) (by rw [hll])).toS ⟨_, ⟨Nat.zero_le _, rfl⟩, .refl _⟩ (fun j d hd => ?_) (fun j d δ' hd hI => ?_) (fun δ' h => ?_)) fun δ' z => ?_
  · have hj : j < row.length := by
      have := (List.getElem?_eq_some_iff.mp hd).1
      rwa [List.length_map, List.length_range] at this
    rw [List.getElem?_map, List.getElem?_range hj] at hd
    cases hd
    exact wName o
  · obtain ⟨_, rfl⟩ := hI
    have hj : j < row.length := by
      have := (List.getElem?_eq_some_iff.mp hd).1
      rwa [List.length_map, List.length_range] at this
    have hgr := List.getElem?_eq_getElem hj
    have hsucc := servAt_succ (ord := ordP fo path) (st := st) hgr
    have hsl2 := servAt_len (ord := ordP fo path) st row j (by omega)
    obtain ⟨g0, hg1, hg2⟩ := fold_found (ord := ordP fo path) (row.take j) st [] 0
    have hfl : (servAt (ordP fo path) st row j).2.length ≤ 10 := by
      have h1 : (servAt (ordP fo path) st row j).2.length ≤ j := by
        have : ∀ j, j ≤ row.length → (servAt (ordP fo path) st row j).2.length ≤ j := fun j => by
          induction j with
          | zero => intro _; exact Nat.le_refl _
          | succ j ih =>
            intro hj
            rw [servAt_succ (List.getElem?_eq_getElem (by omega : j < row.length))]
            have := ih (by omega)
            unfold gStep
            split
            · omega
            · rw [List.length_append]
              show _ + 1 ≤ _
              omega
        exact this j (by omega)
      omega
    have hrow := hro _ (List.getElem_mem hj)
    have hgetr : (row.map D.int)[j]? = some (.int row[j]) := by rw [List.getElem?_map, hgr] <;> rfl
    rw [hsucc]
    generalize servAt (ordP fo path) st row j = sa at hsl2 hfl
    obtain ⟨left, found⟩ := sa
    have hsl2 : left.length = st.length := hsl2
    have hfl : found.length ≤ 10 := hfl
    generalize row[j] = r at hrow hgetr
    have hri : r = ((r.toNat : Nat) : Int) := (Int.toNat_of_nonneg hrow.1).symm
    obtain ⟨f1, f2, f3, f4, f5⟩ := hok.h r.toNat (by omega)
    have fk := hok.k r.toNat (by omega)
    have hkg : ∀ k ∈ ordP fo path r, (left.map D.int)[k.toNat]? = some (.int (gtS left k)) := fun k hk => by
      have := fk k hk
      exact get_map (by omega)
    refine wSetLc (i := 7) (s := .own (((ordP fo path r).filter fun k => decide (0 < gtS left k)).map D.int)) o (LcJ.eqv (wLc (xs := ordP fo path r) (enc := D.int) [("_law_kind", 8)] (ix := [8]) (fun k => decide (0 < gtS left k)) (fun k => .int k) (fun k δ => δ.set 8 (some (.d (.int k)))) o (Nat.le_trans f5 (by decide)) (ai_tup (ds := (ordP fo path r).map D.int) (wCallE g o (aa2 (vv 0) (AEq.to (wIx j (vv 3) (vv 6) .t hgetr) (congrArg (fun x => S.d (.int x)) hri))) ⟨(fo, r.toNat, path r.toNat), f1, f2, f3, f4, f5⟩)).toI (fun s H C cl fp x => wName (o.blk ..))
      (fun s H C cl fp k hk => ats_one (at_gt (wIx k.toNat (vo 4) (vv 8) .l (hkg k hk) (Int.toNat_of_nonneg (fk k hk).1).symm) ae_int)) (fun s H C cl fp k hk _ => vv 8)) rfl) ?_
    have hpick : pickG (ordP fo path) left r = ((ordP fo path r).filter fun k => decide (0 < gtS left k)).head? := by
      unfold pickG
      rw [List.head?_filter]
    have hin : ∀ k ∈ (ordP fo path r).filter fun k => decide (0 < gtS left k), k ∈ ordP fo path r := fun k hk => (List.mem_filter.mp hk).1
    generalize (ordP fo path r).filter (fun k => decide (0 < gtS left k)) = some_ at hpick hin
    refine ass_one (as_ifG (B := fun b => b = !(some_.map D.int).isEmpty) (at_neEL o (vo 7) (ae_lst aa_nil (by decide)) (.inr rfl)) (fun hB => ?_) fun hB => ?_)
    · cases some_ with
      | nil => cases hB
      | cons k ks =>
        have hst : gStep (ordP fo path) (left, found) (r, j) = (dcS left k, found ++ [(j : Int)]) := by
          unfold gStep
          rw [hpick] <;> rfl
        rw [hst]
        have hk := fk k (hin k List.mem_cons_self)
        have hki : k = (k.toNat : Int) := (Int.toNat_of_nonneg hk.1).symm
        have hkl : k.toNat < left.length := by omega
        refine wSetAt (i := 4) (j := k.toNat) (ds := left.map D.int) (d := .int (gtS left k - 1)) (ae_sub (wIx k.toNat (vo 4) (wIx (d := .int k) 0 (vo 7) ae_int .l rfl) .l (hkg k (hin k List.mem_cons_self)) hki) ae_int) (wIx (d := .int k) 0 (vo 7) ae_int .l rfl) hki (by rw [List.length_map]; exact hkl) (fun h1 h2 => pg_sub h1 h2 set_list) ?_
        refine wApp (i := 5) (ds := found.map D.int) (vv 6) (by rw [List.length_map]; omega) (ass_nil ⟨_, ⟨hj, rfl⟩, ?_⟩)
        have e1 : (left.map D.int).set k.toNat (.int (gtS left k - 1)) = (dcS left k).map D.int := by
          unfold dcS
          rw [List.map_set]
        have e2 : found.map D.int ++ [.int (j : Int)] = (found ++ [(j : Int)]).map D.int := by rw [List.map_append] <;> rfl
        rw [e1, e2]
        repeat' first | exact Fg.nil | apply Fg.same | apply Fg.drop
    · cases some_ with
      | nil =>
        have hst : gStep (ordP fo path) (left, found) (r, j) = (left, found) := by
          unfold gStep
          rw [hpick] <;> rfl
        rw [hst]
        exact ass_nil ⟨_, ⟨hj, rfl⟩, by repeat' first | exact Fg.nil | apply Fg.same | apply Fg.drop⟩
      | cons k ks => cases hB
  · obtain ⟨_, rfl⟩ := h
    rw [List.length_map, List.length_range, servAt_all]
    exact ⟨_, _, _, rfl⟩
  · obtain ⟨a, b, c, rfl⟩ := z
    exact ass_one (wRetO 5 rfl)
end
end NR
namespace NR
open PySem PySem.Spec PyProof.Rows L2
theorem MsOk.ha {ts : List Ty} {st : List Int} {n : Nat} (h : MsOk ts st) (hn : st.length = n) : ∀ r, ∀ k ∈ accT ts r, 0 ≤ k ∧ k < (n : Int) := fun r k hk => by
  unfold accT at hk
  by_cases q : r.toNat < ts.length
  · rw [← getD_get (xs := ts) (d := (("", []) : Ty)) q] at hk
    rw [← hn]
    exact (h.l _ (List.getElem_mem q)).1 k hk
  · rw [List.getD_eq_getElem?_getD, List.getElem?_eq_none (by omega)] at hk
    cases hk
theorem lookD_mem {kvs : List (List Int × Int)} {k : List Int} {v : Int} (h : lookD kvs k = some v) : ∃ p ∈ kvs, p.1 = k ∧ p.2 = v := by
  unfold lookD at h
  cases q : kvs.find? (fun p => decide (p.1 = k)) with
  | none =>
    rw [q] at h
    cases h
  | some p =>
    rw [q] at h
    cases h
    exact ⟨p, List.mem_of_find?_eq_some q, by simpa using List.find?_some q, rfl⟩
theorem putD_mem {kvs : List (List Int × Int)} {k : List Int} {v : Int} {p : List Int × Int} (h : p ∈ putD kvs k v) : p ∈ kvs ∨ (p.1 = k ∧ p.2 = v) := by
  unfold putD at h
  split at h
  · obtain ⟨q, hq, rfl⟩ := List.mem_map.mp h
    by_cases e : q.1 = k
    · rw [if_pos e]
      exact .inr ⟨e, rfl⟩
    · rw [if_neg e]
      exact .inl hq
  · rcases List.mem_append.mp h with h | h
    · exact .inl h
    · rw [List.mem_singleton.mp h]
      exact .inr ⟨rfl, rfl⟩
theorem putD_len (kvs : List (List Int × Int)) (k : List Int) (v : Int) : (putD kvs k v).length ≤ kvs.length + 1 := by
  unfold putD
  split
  · rw [List.length_map]
    omega
  · rw [List.length_append]
    exact Nat.le_refl _
structure RrX where
  fo : Fo
  ts : List Ty
  st : List Int
  len : Nat
  n : Nat
  m : Nat
  path : Nat → List Int
  ok : FoOk fo n m path
  sl : st.length = n
  n1 : n ≤ 100
  ms : MsOk ts st
  mt : ts.length = m
  m4 : m ≤ 4
  l4 : len ≤ 4
  O : OrdOk (accT ts) (ordP fo path) m
section
variable {P : Program} {w : World} {K : PySem.W.Frag} {mg : Str → Option Value} {base : Heap} {W : Wd} {CT CF CC : Addr}
abbrev rrArgs (CF : Addr) (i : RrX) : List S := [.hp, .d (eFo CF i.fo), .d (eTys i.ts), .d (tupI i.st), .d (.int (i.len : Int))]
abbrev Krule (P : Program) (w : World) (K : PySem.W.Frag) (mg : Str → Option Value) (base : Heap) (W : Wd) (CF : Addr) := Kn P w K mg base W 12 "_law_rule_right" ["_law_heap_here", "_law_forest", "_law_types", "_law_stock", "_law_length"] (rrArgs CF) (fun i s => s = .d (.bl true))
theorem sc_rule : FnScope ["_law_heap_here", "_law_forest", "_law_types", "_law_stock", "_law_length", "_law_counts", "_law_row", "_law_served_here", "_law_key", "_law_here", "_law_at"] ["_law_heap_here", "_law_forest", "_law_types", "_law_stock", "_law_length"] (defScope (top 60)) := ⟨rfl, rfl, rfl, by decide +kernel, rfl, by decide +kernel, by decide +kernel⟩
theorem ok_rule (T : Tx mg) (d : Df K mg "_law_rule_right" (top 60) ["_law_heap_here", "_law_forest", "_law_types", "_law_stock", "_law_length"]) (g1 : Krows P w K mg base W) (g2 : Kserved P w K mg base W CF) (gm : Kmost P w K mg base W 10) : Krule P w K mg base W CF := by
  refine kn_ok d sc_rule (fun _ => rfl) (fun i s h => by simp at h; rcases h with rfl | rfl | rfl | rfl | rfl <;> exact id) fun f cdv A outer s H E o i => ?_
  obtain ⟨fo, ts, st, len, n, m, path, hok, hsl, hn, hms, hmt, hm4, hl4, hO⟩ := i
  have ha := hms.ha hsl
  have htl : (ts.map eTy).length = m := by rw [List.length_map, hmt]
  refine wSet (i := 5) (s := .dic []) o ae_dnew ?_
  refine ass_cons (fun δ' => ∃ a b c d, δ' = [some .hp, some (.d (eFo CF fo)), some (.d (eTys ts)), some (.d (tupI st)), some (.d (.int (len : Int))), d, a, b, c, none, none])
    (as_for (ds := (rowsM m len).map tupI) (I := fun j δ' => ∃ kvs : List (List Int × Int), kvs.length ≤ j ∧ (∀ p ∈ kvs, p.2 = ((mostM (accT ts) p.1 st : Nat) : Int)) ∧ δ' = [some .hp, some (.d (eFo CF fo)), some (.d (eTys ts)), some (.d (tupI st)), some (.d (.int (len : Int))), some (.dic kvs), none, none, none, none, none]) (ix := [6]) (fun j δ => δ.set 6 (some (.d (tupI ((rowsM m len).getD j []))))) o (fun _ => rfl)
      (wNew (wCallE g1 o (aa2 (AEq.to (wLen T.len (vv 2) .t) (t := .d (.int (m : Int))) (by rw [htl])) (vv 4)) ⟨(m, len), hm4, hl4⟩)) ⟨_, ⟨[], Nat.le_refl _, (fun p h => nomatch h), rfl⟩, .refl _⟩ (fun j d hd => ?_) (fun j d δ' hd hI => ?_) (fun δ' h => ?_)) fun δ' z => ?_
  · have hj : j < (rowsM m len).length := by
      have := (List.getElem?_eq_some_iff.mp hd).1
      rwa [List.length_map] at this
    rw [get_map (f := tupI) (d := []) hj] at hd
    cases hd
    exact wName o
  · obtain ⟨kvs, hkl, hkv, rfl⟩ := hI
    have hj : j < (rowsM m len).length := by
      have := (List.getElem?_eq_some_iff.mp hd).1
      rwa [List.length_map] at this
    have hr256 := rows256 hm4 hl4
    obtain ⟨hrl, hro⟩ := rows_ok m len _ (List.getElem_mem hj)
    rw [← getD_get (d := []) hj]
    generalize (rowsM m len)[j] = row at hrl hro
    have hcnt := serv_count ha hO hro hsl
    have hperm : mostM (accT ts) (sortI row) st = mostM (accT ts) row st := most_perm ha hsl (sortI_perm row)
    refine wSet (i := 7) o (wCallE g2 o (aa_cons (vv 1) (aa_cons (vv 2) (aa_cons (vv 3) (aa_cons (vv 6) aa_nil)))) ⟨fo, ts, st, row, n, m, path, hok, hsl, hn, hro, by omega⟩) ?_
    refine wSet (i := 8) (s := .d (tupI (sortI row))) o (wTup T.tuple (wSortTI T.sorted (vv 6)) (.inl rfl)) ?_
    have hv : ((((servS (ordP fo path) st row).2.map D.int).length : Nat) : Int) = ((mostM (accT ts) row st : Nat) : Int) := by rw [List.length_map, hcnt]
    refine ass_skip (ATq.to (at_neI (wDget 5 o (vv 8) (wLen T.len (vo 7) .l)) (wLen T.len (vo 7) .l)) ?_) ?_
    · show (!decide ((lookD kvs (sortI row)).getD ((((servS (ordP fo path) st row).2.map D.int).length : Nat) : Int) = ((((servS (ordP fo path) st row).2.map D.int).length : Nat) : Int))) = false
      rw [hv]
      cases q : lookD kvs (sortI row) with
      | none => simp
      | some v =>
        obtain ⟨p, hp, e1, e2⟩ := lookD_mem q
        have := hkv p hp
        rw [e1, e2, hperm] at this
        simp [this]
    · refine wDput (kvs := kvs) (ks := sortI row) (v := ((((servS (ordP fo path) st row).2.map D.int).length : Nat) : Int)) 5 o (by omega) (wLen T.len (vo 7) .l) (vv 8) (ass_nil ⟨_, ⟨_, Nat.le_trans (putD_len kvs _ _) (by omega), fun p hp => ?_, rfl⟩, by repeat' first | exact Fg.nil | apply Fg.same | apply Fg.drop⟩)
      rcases putD_mem hp with hp | ⟨e1, e2⟩
      · exact hkv p hp
      · rw [e1, e2, hperm]
        exact hv
  · obtain ⟨kvs, _, _, rfl⟩ := h
    exact ⟨_, _, _, _, rfl⟩
  obtain ⟨a0, b0, c0, d0, rfl⟩ := z
  have hmin : S.d (.int (if (3 : Int) < (len : Int) then 3 else (len : Int))) = S.d (.int ((min len 3 : Nat) : Int)) := by
    congr 2
    split <;> omega
  refine ass_cons (fun δ' => ∃ a b c d e f, δ' = [some .hp, some (.d (eFo CF fo)), some (.d (eTys ts)), some (.d (tupI st)), some (.d (.int (len : Int))), f, a, b, c, d, e])
    (as_for (ds := (rowsM m (min len 3)).map tupI) (I := fun j δ' => δ' = [some .hp, some (.d (eFo CF fo)), some (.d (eTys ts)), some (.d (tupI st)), some (.d (.int (len : Int))), none, none, none, none, none, none]) (ix := [6]) (fun j δ => δ.set 6 (some (.d (tupI ((rowsM m (min len 3)).getD j []))))) o (fun _ => rfl)
      (wNew (wCallE g1 o (aa2 (AEq.to (wLen T.len (vv 2) .t) (t := .d (.int (m : Int))) (by rw [htl])) (AEq.to (wMin o T.min (vv 4) ae_int) hmin)) ⟨(m, min len 3), hm4, by show min len 3 ≤ 4; omega⟩)) ⟨_, rfl, by repeat' first | exact Fg.nil | apply Fg.same | apply Fg.drop⟩ (fun j d hd => ?_) (fun j d δ' hd hI => ?_) (fun δ' h => ?_)) fun δ' z => ?_
  · have hj : j < (rowsM m (min len 3)).length := by
      have := (List.getElem?_eq_some_iff.mp hd).1
      rwa [List.length_map] at this
    rw [get_map (f := tupI) (d := []) hj] at hd
    cases hd
    exact wName o
  · subst hI
    have hj : j < (rowsM m (min len 3)).length := by
      have := (List.getElem?_eq_some_iff.mp hd).1
      rwa [List.length_map] at this
    obtain ⟨hrl, hro⟩ := rows_ok m (min len 3) _ (List.getElem_mem hj)
    rw [← getD_get (d := []) hj]
    generalize (rowsM m (min len 3))[j] = row at hrl hro
    have hll : (row.map D.int).length = row.length := List.length_map ..
    refine wPar (i := 7) (j := 9) (u := .own []) o (wCallE g2 o (aa_cons (vv 1) (aa_cons (vv 2) (aa_cons (vv 3) (aa_cons (vv 6) aa_nil)))) ⟨fo, ts, st, row, n, m, path, hok, hsl, hn, hro, by omega⟩) (ae_lst aa_nil (by decide)) ?_
    show ASs _ W _ [some .hp, some (.d (eFo CF fo)), some (.d (eTys ts)), some (.d (tupI st)), some (.d (.int (len : Int))), none, some (.d (tupI row)), some (.own ((servS (ordP fo path) st row).2.map D.int)), none, some (.own []), none] _
    refine ass_cons (fun δ' => ∃ a b c, δ' = [some .hp, some (.d (eFo CF fo)), some (.d (eTys ts)), some (.d (tupI st)), some (.d (.int (len : Int))), none, some (.d (tupI row)), a, none, b, c])
      (as_for (I := fun a δ' => ∃ here : List Int, Run (ordP fo path) st here (servAt (ordP fo path) st row a).1 ∧ RowOk m here ∧ here.length ≤ a ∧ δ' = [some .hp, some (.d (eFo CF fo)), some (.d (eTys ts)), some (.d (tupI st)), some (.d (.int (len : Int))), none, some (.d (tupI row)), some (.own ((servS (ordP fo path) st row).2.map D.int)), none, some (.own (here.map D.int)), none]) (ix := [10]) (fun a δ => δ.set 10 (some (.d (.int (a : Int))))) o (fun _ => rfl) (wR1 (n := row.length) T.range (wLen T.len (vv 6) .t) (by omega) (by rw [hll])).toS ⟨_, ⟨[], .nil, (fun x h => nomatch h), Nat.le_refl _, rfl⟩, .refl _⟩ (fun a d hd => ?_) (fun a d δ' hd hI => ?_) (fun δ' h => ?_)) fun δ' z => ?_
    · have hk : a < row.length := by
        have := (List.getElem?_eq_some_iff.mp hd).1
        rwa [List.length_map, List.length_range] at this
      rw [List.getElem?_map, List.getElem?_range hk] at hd
      cases hd
      exact wName o
    · have hk : a < row.length := by
        have := (List.getElem?_eq_some_iff.mp hd).1
        rwa [List.length_map, List.length_range] at this
      obtain ⟨here, hrun, hho, hhl, rfl⟩ := hI
      have hgr := List.getElem?_eq_getElem hk
      have hmem := serv_mem (ord := ordP fo path) (st := st) hgr
      have hsucc := servAt_succ (ord := ordP fo path) (st := st) hgr
      have hr0 := hro _ (List.getElem_mem hk)
      have hgetr : (row.map D.int)[a]? = some (.int row[a]) := by rw [List.getElem?_map, hgr] <;> rfl
      generalize row[a] = r at hgetr hmem hsucc hr0
      have hho2 : RowOk m (here ++ [r]) := snoc_ok hho hr0
      refine ass_one (as_ifG (B := fun b => b = decide ((a : Int) ∈ (servS (ordP fo path) st row).2)) (tInI (vv 10) (vo 7) .l) (fun hB => ?_) fun hB => ?_)
      · have hp := hmem.mp (of_decide_eq_true hB.symm)
        cases q : pickG (ordP fo path) (servAt (ordP fo path) st row a).1 r with
        | none => exact absurd q hp
        | some k =>
          have e1 : (servAt (ordP fo path) st row (a + 1)).1 = dcS (servAt (ordP fo path) st row a).1 k := by
            rw [hsucc]
            unfold gStep
            simp only [q]
          refine wApp (i := 9) (ds := here.map D.int) (d := .int r) (wIx a (vv 6) (vv 10) .t hgetr) (by rw [List.length_map]; omega) (ass_nil ⟨_, ⟨here ++ [r], by rw [e1]; exact .snoc hrun q, hho2, by rw [List.length_append]; show here.length + 1 ≤ _; omega, rfl⟩, ?_⟩)
          have e2 : here.map D.int ++ [.int r] = (here ++ [r]).map D.int := by rw [List.map_append] <;> rfl
          show Fg [_, _, _, _, _, _, _, _, _, some (.own (here.map D.int ++ [.int r])), _] _
          rw [e2]
          repeat' first | exact Fg.nil | apply Fg.same | apply Fg.drop
      · have hp : pickG (ordP fo path) (servAt (ordP fo path) st row a).1 r = none := by
          cases q : pickG (ordP fo path) (servAt (ordP fo path) st row a).1 r with
          | none => rfl
          | some k => exact absurd (hmem.mpr (by rw [q]; simp)) (of_decide_eq_false hB.symm)
        have e1 : (servAt (ordP fo path) st row (a + 1)).1 = (servAt (ordP fo path) st row a).1 := by
          rw [hsucc]
          unfold gStep
          simp only [hp]
        have h1 := hrun.one ha hO hsl hho2
        rw [hp] at h1
        have h1 : mostM (accT ts) (here ++ [r]) st = here.length := h1
        have hhl2 : (here.map D.int).length = here.length := List.length_map ..
        refine ass_skip (ATq.to (at_gt (wCallE gm o (aa3 (vv 2) (vv 3) (AEq.to (ae_addT (ds := here.map D.int) (es := [.int r]) (wTup T.tuple (vo 9) (.inr rfl)) (ae_tup (ds := [.int r]) (aa_cons (wIx a (vv 6) (vv 10) .t hgetr) aa_nil) (by show 1 ≤ 100; decide)) (by rw [hhl2]; show _ + 1 ≤ _; omega)) (t := .d (tupI (here ++ [r]))) (by unfold tupI; rw [List.map_append] <;> rfl))) ⟨(ts, st, here ++ [r]), hms, by rw [hmt]; exact hho2, by rw [List.length_append]; show here.length + 1 ≤ 10; omega⟩) (wLen T.len (vo 9) .l)) ?_) (ass_nil ⟨_, ⟨here, by rw [e1]; exact hrun, hho, by omega, rfl⟩, by repeat' first | exact Fg.nil | apply Fg.same | apply Fg.drop⟩)
        refine decide_eq_false ?_
        rw [hhl2]
        show ¬ (here.length : Int) < ((mostM (accT ts) (here ++ [r]) st : Nat) : Int)
        rw [h1]
        omega
    · obtain ⟨here, _, _, _, rfl⟩ := h
      exact ⟨_, _, _, rfl⟩
    · obtain ⟨a, b, c, rfl⟩ := z
      exact ass_nil ⟨_, rfl, by repeat' first | exact Fg.nil | apply Fg.same | apply Fg.drop⟩
  · subst h
    exact ⟨_, _, _, _, _, _, rfl⟩
  · obtain ⟨a, b, c, d, e, f, rfl⟩ := z
    exact ass_one (wRet ae_bl rfl)
end
end NR
namespace NR
open PySem PySem.Spec PyProof.Rows L2
theorem part_iff {A B : List Int} : partM A B = true ↔ ∀ x ∈ A, x ∈ B := by
  unfold partM
  simp [List.all_eq_true]
theorem nest_iff {A B : List Int} : nestM A B = true ↔ (∀ x ∈ A, x ∈ B) ∨ (∀ x ∈ B, x ∈ A) ∨ ∀ x ∈ A, x ∉ B := by
  unfold nestM
  simp only [Bool.or_eq_true, part_iff, Bool.not_eq_true', List.any_eq_false, decide_eq_true_eq]
theorem nest_false {A B : List Int} : nestM A B = false ↔ (∃ x ∈ A, x ∈ B) ∧ (∃ x ∈ A, x ∉ B) ∧ ∃ x ∈ B, x ∉ A := by
  have h := nest_iff (A := A) (B := B)
  constructor
  · intro z
    have h' : ¬ ((∀ x ∈ A, x ∈ B) ∨ (∀ x ∈ B, x ∈ A) ∨ ∀ x ∈ A, x ∉ B) := fun w => by
      rw [h.mpr w] at z
      cases z
    refine ⟨Classical.byContradiction fun w => h' (.inr (.inr fun x hx hy => w ⟨x, hx, hy⟩)), Classical.byContradiction fun w => h' (.inl fun x hx => Classical.byContradiction fun hy => w ⟨x, hx, hy⟩), Classical.byContradiction fun w => h' (.inr (.inl fun x hx => Classical.byContradiction fun hy => w ⟨x, hx, hy⟩))⟩
  · rintro ⟨⟨a, a1, a2⟩, ⟨b, b1, b2⟩, c, c1, c2⟩
    cases q : nestM A B with
    | false => rfl
    | true =>
      rcases h.mp q with w | w | w
      · exact absurd (w b b1) b2
      · exact absurd (w c c1) c2
      · exact absurd a2 (w a a1)
theorem nest_symm {A B : List Int} (h : nestM A B = true) : nestM B A = true := by
  rcases nest_iff.mp h with w | w | w
  · exact nest_iff.mpr (.inr (.inl w))
  · exact nest_iff.mpr (.inl w)
  · exact nest_iff.mpr (.inr (.inr fun x hx hy => w x hy hx))
theorem nest_refl (A : List Int) : nestM A A = true := nest_iff.mpr (.inl fun _ h => h)
theorem takers_acc {ts : List Ty} {a : Nat} {k : Int} (ha : a < ts.length) : nI a ∈ takersM ts k ↔ k ∈ (ts.getD a ("", [])).2 := by
  rw [takers_mem]
  constructor
  · rintro ⟨b, e, _, h⟩
    have : a = b := by unfold nI at e; omega
    subst this
    exact h
  · intro h
    exact ⟨a, rfl, ha, h⟩
/-- kinds cross, told by the types' lots -/
def El (ts : List Ty) (k l : Int) : Prop := (∃ t ∈ ts, k ∈ t.2 ∧ l ∈ t.2) ∧ (∃ t ∈ ts, k ∈ t.2 ∧ l ∉ t.2) ∧ ∃ t ∈ ts, l ∈ t.2 ∧ k ∉ t.2
theorem ex_at {ts : List Ty} {p : List Int → Prop} : (∃ t ∈ ts, p t.2) ↔ ∃ a, a < ts.length ∧ p (ts.getD a ("", [])).2 := by
  constructor
  · rintro ⟨t, ht, hp⟩
    obtain ⟨a, ha, rfl⟩ := List.mem_iff_getElem.mp ht
    refine ⟨a, ha, ?_⟩
    rw [← getD_get (xs := ts) (d := (("", []) : Ty)) ha]
    exact hp
  · rintro ⟨a, ha, hp⟩
    rw [← getD_get (xs := ts) (d := (("", []) : Ty)) ha] at hp
    exact ⟨_, List.getElem_mem ha, hp⟩
theorem nest_el {ts : List Ty} {k l : Int} : nestM (takersM ts k) (takersM ts l) = false ↔ El ts k l := by
  rw [nest_false]
  unfold El
  rw [ex_at (p := fun x => k ∈ x ∧ l ∈ x), ex_at (p := fun x => k ∈ x ∧ l ∉ x), ex_at (p := fun x => l ∈ x ∧ k ∉ x)]
  have conv : ∀ {k l : Int}, (∃ x ∈ takersM ts k, x ∉ takersM ts l) ↔ ∃ a, a < ts.length ∧ k ∈ (ts.getD a ("", [])).2 ∧ l ∉ (ts.getD a ("", [])).2 := fun {k l} => by
    constructor
    · rintro ⟨x, h1, h2⟩
      obtain ⟨a, rfl, ha, h3⟩ := takers_mem.mp h1
      exact ⟨a, ha, h3, fun z => h2 ((takers_acc ha).mpr z)⟩
    · rintro ⟨a, ha, h1, h2⟩
      exact ⟨nI a, (takers_acc ha).mpr h1, fun z => h2 ((takers_acc ha).mp z)⟩
  have conv2 : (∃ x ∈ takersM ts k, x ∈ takersM ts l) ↔ ∃ a, a < ts.length ∧ k ∈ (ts.getD a ("", [])).2 ∧ l ∈ (ts.getD a ("", [])).2 := by
    constructor
    · rintro ⟨x, h1, h2⟩
      obtain ⟨a, rfl, ha, h3⟩ := takers_mem.mp h1
      exact ⟨a, ha, h3, (takers_acc ha).mp h2⟩
    · rintro ⟨a, ha, h1, h2⟩
      exact ⟨nI a, (takers_acc ha).mpr h1, (takers_acc ha).mpr h2⟩
  rw [conv2, conv, conv]
def Lam (n : Nat) (ts : List Ty) : Prop := ∀ k l, k < n → l < n → nestM (takersM ts (nI k)) (takersM ts (nI l)) = true
theorem both_mem {ts : List Ty} {k l x : Int} : x ∈ bothM ts k l ↔ x ∈ takersM ts k ∧ x ∈ takersM ts l := by
  unfold bothM
  simp [List.mem_filter]
theorem mine_mem {ts : List Ty} {k l x : Int} : x ∈ mineM ts k l ↔ x ∈ takersM ts k ∧ x ∉ takersM ts l := by
  unfold mineM
  simp [List.mem_filter]
theorem crossAt_mem {ts : List Ty} {k l : Nat} {c : List Int × List Int} : c ∈ crossAt ts (k, l) ↔ ∃ f m y, f ∈ bothM ts (nI k) (nI l) ∧ m ∈ mineM ts (nI k) (nI l) ∧ y ∈ mineM ts (nI l) (nI k) ∧ c = ([nI k, nI l], [f, m, y]) := by
  unfold crossAt
  simp only [List.mem_flatMap, List.mem_map]
  constructor
  · rintro ⟨f, h1, m, h2, y, h3, rfl⟩
    exact ⟨f, m, y, h1, h2, h3, rfl⟩
  · rintro ⟨f, m, y, h1, h2, h3, rfl⟩
    exact ⟨f, h1, m, h2, y, h3, rfl⟩
theorem crossAt_ne {ts : List Ty} {k l : Nat} : (∃ c, c ∈ crossAt ts (k, l)) ↔ nestM (takersM ts (nI k)) (takersM ts (nI l)) = false := by
  rw [nest_false]
  constructor
  · rintro ⟨c, hc⟩
    obtain ⟨f, m, y, h1, h2, h3, _⟩ := crossAt_mem.mp hc
    exact ⟨⟨f, both_mem.mp h1⟩, ⟨m, mine_mem.mp h2⟩, y, mine_mem.mp h3⟩
  · rintro ⟨⟨f, h1⟩, ⟨m, h2⟩, y, h3⟩
    exact ⟨_, crossAt_mem.mpr ⟨f, m, y, both_mem.mpr h1, mine_mem.mpr h2, mine_mem.mpr h3, rfl⟩⟩
theorem lawC_mem {n : Nat} {ts : List Ty} {c : List Int × List Int} : c ∈ lawC n ts ↔ ∃ k l, k < l ∧ l < n ∧ c ∈ crossAt ts (k, l) := by
  unfold lawC lawR
  simp only [List.mem_flatMap, List.mem_range]
  constructor
  · rintro ⟨k, hk, l, hl, h⟩
    obtain ⟨h1, h2⟩ := restR_mem.mp hl
    exact ⟨k, l, h1, h2, h⟩
  · rintro ⟨k, l, h1, h2, h⟩
    exact ⟨k, by omega, l, restR_mem.mpr ⟨h1, h2⟩, h⟩
theorem crossM_nest {ts : List Ty} {k l : Int} : crossM ts k l = !nestM (takersM ts k) (takersM ts l) := by
  have h : crossM ts k l = true ↔ nestM (takersM ts k) (takersM ts l) = false := by
    rw [nest_false]
    unfold crossM
    simp only [List.all_cons, List.all_nil, Bool.and_true, Bool.and_eq_true, Bool.not_eq_true', List.isEmpty_eq_false_iff]
    have e : ∀ {α : Type} (xs : List α), xs ≠ [] ↔ ∃ x, x ∈ xs := fun xs => by
      constructor
      · intro h
        exact ⟨xs.head h, List.head_mem h⟩
      · rintro ⟨x, hx⟩ z
        rw [z] at hx
        cases hx
    rw [e, e, e]
    simp only [both_mem, mine_mem]
  cases q : nestM (takersM ts k) (takersM ts l) with
  | true =>
    cases w : crossM ts k l with
    | true =>
      rw [h.mp w] at q
      cases q
    | false => rfl
  | false => exact h.mpr q
theorem crossingsM_mem {n : Nat} {ts : List Ty} {c : List Int × List Int} : c ∈ crossingsM n ts ↔ ∃ k l, k < l ∧ l < n ∧ c ∈ crossAt ts (k, l) := by
  unfold crossingsM pairsM
  simp only [List.mem_flatMap, List.mem_map, List.mem_filter, List.mem_range]
  constructor
  · rintro ⟨p, ⟨k, hk, l, ⟨hl, _⟩, rfl⟩, h⟩
    obtain ⟨h1, h2⟩ := restR_mem.mp hl
    exact ⟨k, l, h1, h2, h⟩
  · rintro ⟨k, l, h1, h2, h⟩
    refine ⟨(k, l), ⟨k, by omega, l, ⟨restR_mem.mpr ⟨h1, h2⟩, ?_⟩, rfl⟩, h⟩
    rw [crossM_nest, crossAt_ne.mp ⟨c, h⟩] <;> rfl
theorem nil_iff {α : Type} {xs : List α} : xs = [] ↔ ∀ x, x ∉ xs := by
  constructor
  · rintro rfl x h
    cases h
  · intro h
    cases xs with
    | nil => rfl
    | cons x xs => exact absurd List.mem_cons_self (h x)
theorem lam_pairs {n : Nat} {ts : List Ty} : (∀ c, ¬ ∃ k l, k < l ∧ l < n ∧ c ∈ crossAt ts (k, l)) ↔ Lam n ts := by
  constructor
  · intro h
    have key : ∀ k l, k < l → l < n → nestM (takersM ts (nI k)) (takersM ts (nI l)) = true := fun k l h1 h2 => by
      cases q : nestM (takersM ts (nI k)) (takersM ts (nI l)) with
      | true => rfl
      | false =>
        obtain ⟨c, hc⟩ := crossAt_ne.mpr q
        exact absurd ⟨k, l, h1, h2, hc⟩ (h c)
    intro k l hk hl
    rcases Nat.lt_trichotomy k l with q | q | q
    · exact key k l q hl
    · rw [q]
      exact nest_refl _
    · exact nest_symm (key l k q hk)
  · rintro h c ⟨k, l, h1, h2, h3⟩
    have := crossAt_ne.mp ⟨c, h3⟩
    rw [h k l (by omega) h2] at this
    cases this
theorem lawC_nil {n : Nat} {ts : List Ty} : lawC n ts = [] ↔ Lam n ts := by
  rw [nil_iff, ← lam_pairs]
  exact ⟨fun h c z => h c (lawC_mem.mpr z), fun h c z => h c (lawC_mem.mp z)⟩
theorem crossingsM_nil {n : Nat} {ts : List Ty} : crossingsM n ts = [] ↔ Lam n ts := by
  rw [nil_iff, ← lam_pairs]
  exact ⟨fun h c z => h c (crossingsM_mem.mpr z), fun h c z => h c (crossingsM_mem.mp z)⟩
theorem isForest_iff {n : Nat} {ts : List Ty} : isForestM n ts = true ↔ Lam n ts := by
  unfold isForestM allT Lam
  simp only [List.all_eq_true, List.mem_map, List.mem_range]
  constructor
  · intro h k l hk hl
    exact h _ ⟨k, hk, rfl⟩ _ ⟨l, hl, rfl⟩
  · rintro h _ ⟨k, hk, rfl⟩ _ ⟨l, hl, rfl⟩
    exact h k l hk hl
end NR
namespace NR
open PySem PySem.Spec PyProof.Rows L2
theorem minP_spec : ∀ {ps : List (Int × Int)}, ps ≠ [] → minP ps ∈ ps ∧ ∀ q ∈ ps, (minP ps).1 ≤ q.1 := by
  have key : ∀ (xs : List (Int × Int)) (x : Int × Int), ((xs.foldl (fun a y => if ltP y a then y else a) x) ∈ x :: xs) ∧ (xs.foldl (fun a y => if ltP y a then y else a) x).1 ≤ x.1 ∧ ∀ q ∈ xs, (xs.foldl (fun a y => if ltP y a then y else a) x).1 ≤ q.1 := by
    intro xs
    induction xs with
    | nil => intro x; exact ⟨List.mem_cons_self, Int.le_refl _, fun q h => nomatch h⟩
    | cons y ys ih =>
      intro x
      rw [List.foldl_cons]
      obtain ⟨h1, h2, h3⟩ := ih (if ltP y x then y else x)
      have hl : (if ltP y x then y else x).1 ≤ x.1 ∧ (if ltP y x then y else x).1 ≤ y.1 := by
        cases q : ltP y x with
        | true =>
          unfold ltP at q
          have := of_decide_eq_true q
          simp only [if_true]
          omega
        | false =>
          unfold ltP at q
          have := of_decide_eq_false q
          simp only [Bool.false_eq_true, if_false]
          omega
      refine ⟨?_, by omega, fun q hq => ?_⟩
      · rcases List.mem_cons.mp h1 with h | h
        · rw [h]
          cases ltP y x <;> simp
        · exact List.mem_cons_of_mem _ (List.mem_cons_of_mem _ h)
      · rcases List.mem_cons.mp hq with rfl | hq
        · omega
        · exact h3 q hq
  intro ps h
  cases ps with
  | nil => exact absurd rfl h
  | cons x xs =>
    obtain ⟨h1, h2, h3⟩ := key xs x
    refine ⟨h1, fun q hq => ?_⟩
    rcases List.mem_cons.mp hq with rfl | hq
    · exact h2
    · exact h3 q hq
theorem minOr_spec {ps : List (Int × Int)} (h : ps ≠ []) : ∃ p ∈ ps, minOr ps = p.2 ∧ ∀ q ∈ ps, p.1 ≤ q.1 := by
  obtain ⟨h1, h2⟩ := minP_spec h
  exact ⟨_, h1, by unfold minOr; rw [if_neg h], h2⟩
theorem sub_of_len {A B : List Int} (hA : A.Pairwise (· < ·)) (hB : B.Pairwise (· < ·)) (h : ∀ x ∈ B, x ∈ A) (hl : A.length ≤ B.length) : ∀ x ∈ A, x ∈ B := by
  intro x hx
  refine Classical.byContradiction fun hn => ?_
  have h1 : ∀ y ∈ B, y ∈ A.erase x := fun y hy => (List.mem_erase_of_ne (fun e : y = x => hn (e ▸ hy))).mpr (h y hy)
  have h2 := nodup_sub_le (pw_nodup hB) h1
  rw [List.length_erase_of_mem hx] at h2
  have := List.length_pos_of_mem hx
  omega
theorem zip_at {α : Type} {xs : List α} {x : α} {i : Nat} (h : xs[i]? = some x) : (x, i) ∈ xs.zipIdx := List.mk_mem_zipIdx_iff_getElem?.mpr h
/-! places, with all their takers, no two alike, nested or apart -/
structure PlOk (TL : List (List Int)) (M : Nat) : Prop where
  pw : ∀ (p : Nat) (A : List Int), TL[p]? = some A → A.Pairwise (· < ·)
  ne : ∀ (p : Nat) (A : List Int), TL[p]? = some A → A ≠ []
  le : ∀ (p : Nat) (A : List Int), TL[p]? = some A → A.length ≤ M
  inj : ∀ (p q : Nat) (A : List Int), TL[p]? = some A → TL[q]? = some A → p = q
  nest : ∀ (p q : Nat) (A B : List Int), TL[p]? = some A → TL[q]? = some B → nestM A B = true
theorem nest_sub {A B : List Int} (hA : A.Pairwise (· < ·)) (hB : B.Pairwise (· < ·)) (hn : nestM A B = true) {x : Int} (h1 : x ∈ A) (h2 : x ∈ B) (hl : A.length ≤ B.length) : ∀ y ∈ A, y ∈ B := by
  rcases nest_iff.mp hn with w | w | w
  · exact w
  · exact sub_of_len hA hB w hl
  · exact absurd h2 (w x h1)
theorem above_at {TL : List (List Int)} {p : Nat} {A : List Int} (h : TL[p]? = some A) : (aboveL TL).getD p 0 = minOr ((TL.zipIdx.filter fun q => !decide (nI q.2 = nI p) && partM A q.1).map fun q => (nI q.1.length, nI q.2)) := by
  unfold aboveL
  rw [List.getD_eq_getElem?_getD, List.getElem?_map, List.getElem?_zipIdx, h]
  simp
theorem aboveL_len (TL : List (List Int)) : (aboveL TL).length = TL.length := by
  unfold aboveL
  rw [List.length_map, List.length_zipIdx]
theorem path_ex {TL : List (List Int)} {M : Nat} (H : PlOk TL M) : ∀ (N p : Nat) (A : List Int), TL[p]? = some A → M - A.length ≤ N → ∃ path : List Int, isPath (aboveL TL) (nI p) path ∧ (∀ q ∈ path, 0 ≤ q ∧ ∃ B, TL[q.toNat]? = some B ∧ ∀ x ∈ A, x ∈ B) ∧
    (path.Pairwise fun a b => ∀ B C : List Int, TL[a.toNat]? = some B → TL[b.toNat]? = some C → ∀ x ∈ B, x ∈ C) ∧ (∀ (q : Nat) (B : List Int), TL[q]? = some B → (∀ x ∈ A, x ∈ B) → nI q ∈ path) ∧ path.length ≤ N + 1 := by
  intro N
  induction N with
  | zero =>
    intro p A hp hN
    have hA := H.le p A hp
    have hpl : p < TL.length := (List.getElem?_eq_some_iff.mp hp).1
    have hnone : (TL.zipIdx.filter fun q => !decide (nI q.2 = nI p) && partM A q.1) = [] := by
      rw [List.filter_eq_nil_iff]
      rintro ⟨B, q⟩ hq hb
      have hq2 := (zip_mem hq).2
      simp only [Bool.and_eq_true, Bool.not_eq_true', decide_eq_false_iff_not, part_iff] at hb
      have hB := H.le q B hq2
      have h1 : nestM B A = true := H.nest q p B A hq2 hp
      have hs := sub_of_len (H.pw q B hq2) (H.pw p A hp) hb.2 (by omega)
      have e : A = B := pw_ext (H.pw p A hp) (H.pw q B hq2) fun k => ⟨hb.2 k, hs k⟩
      subst e
      exact hb.1 (by rw [H.inj p q A hp hq2])
    refine ⟨[nI p], ⟨rfl, by unfold nI; omega, ?_, ?_⟩, fun q hq => ?_, List.pairwise_singleton _ _, fun q B hq hs => ?_, Nat.le_refl _⟩
    · rw [aboveL_len]
      exact hpl
    · show (aboveL TL).getD p 0 = -1
      rw [above_at hp, hnone] <;> rfl
    · rw [List.mem_singleton.mp hq]
      exact ⟨by unfold nI; omega, A, hp, fun x h => h⟩
    · by_cases e : q = p
      · subst e
        exact List.mem_singleton.mpr rfl
      · have : (B, q) ∈ (TL.zipIdx.filter fun q => !decide (nI q.2 = nI p) && partM A q.1) := List.mem_filter.mpr ⟨zip_at hq, by
          simp only [Bool.and_eq_true, Bool.not_eq_true', decide_eq_false_iff_not, part_iff]
          exact ⟨by unfold nI; omega, hs⟩⟩
        rw [hnone] at this
        cases this
  | succ N ih =>
    intro p A hp hN
    have hA := H.le p A hp
    have hpl : p < TL.length := (List.getElem?_eq_some_iff.mp hp).1
    by_cases hnone : (TL.zipIdx.filter fun q => !decide (nI q.2 = nI p) && partM A q.1) = []
    · refine ⟨[nI p], ⟨rfl, by unfold nI; omega, ?_, ?_⟩, fun q hq => ?_, List.pairwise_singleton _ _, fun q B hq hs => ?_, by show 1 ≤ _; omega⟩
      · rw [aboveL_len]
        exact hpl
      · show (aboveL TL).getD p 0 = -1
        rw [above_at hp, hnone] <;> rfl
      · rw [List.mem_singleton.mp hq]
        exact ⟨by unfold nI; omega, A, hp, fun x h => h⟩
      · by_cases e : q = p
        · subst e
          exact List.mem_singleton.mpr rfl
        · have : (B, q) ∈ (TL.zipIdx.filter fun q => !decide (nI q.2 = nI p) && partM A q.1) := List.mem_filter.mpr ⟨zip_at hq, by
            simp only [Bool.and_eq_true, Bool.not_eq_true', decide_eq_false_iff_not, part_iff]
            exact ⟨by unfold nI; omega, hs⟩⟩
          rw [hnone] at this
          cases this
    · have hne : ((TL.zipIdx.filter fun q => !decide (nI q.2 = nI p) && partM A q.1).map fun q => (nI q.1.length, nI q.2)) ≠ [] := fun z => hnone (List.map_eq_nil_iff.mp z)
      obtain ⟨pr, hpr, hmin, hle⟩ := minOr_spec hne
      obtain ⟨⟨C, a⟩, ha, rfl⟩ := List.mem_map.mp hpr
      obtain ⟨ha1, ha2⟩ := List.mem_filter.mp ha
      have haC := (zip_mem ha1).2
      simp only [Bool.and_eq_true, Bool.not_eq_true', decide_eq_false_iff_not, part_iff] at ha2
      obtain ⟨hap, hAC⟩ := ha2
      have hCM := H.le a C haC
      have hlt : A.length < C.length := by
        refine Classical.byContradiction fun hn => ?_
        have hs := sub_of_len (H.pw a C haC) (H.pw p A hp) hAC (by omega)
        have e : A = C := pw_ext (H.pw p A hp) (H.pw a C haC) fun k => ⟨hAC k, hs k⟩
        subst e
        exact hap (by rw [H.inj p a A hp haC])
      obtain ⟨path, h1, h2, h3, h4, h5⟩ := ih a C haC (by omega)
      refine ⟨nI p :: path, ⟨rfl, by unfold nI; omega, ?_, ?_⟩, fun q hq => ?_, ?_, fun q B hq hs => ?_, by rw [List.length_cons]; omega⟩
      · rw [aboveL_len]
        exact hpl
      · show isPath (aboveL TL) ((aboveL TL).getD p 0) path
        rw [above_at hp, hmin]
        exact h1
      · rcases List.mem_cons.mp hq with rfl | hq
        · exact ⟨by unfold nI; omega, A, hp, fun x h => h⟩
        · obtain ⟨h6, B, h7, h8⟩ := h2 q hq
          exact ⟨h6, B, h7, fun x hx => h8 x (hAC x hx)⟩
      · refine List.pairwise_cons.mpr ⟨fun b hb B D hB hD x hx => ?_, h3⟩
        have hB' : TL[p]? = some B := hB
        rw [hp] at hB'
        cases hB'
        obtain ⟨_, E, h7, h8⟩ := h2 b hb
        rw [h7] at hD
        cases hD
        exact h8 x (hAC x hx)
      · by_cases e : q = p
        · subst e
          exact List.mem_cons_self
        · refine List.mem_cons_of_mem _ (h4 q B hq ?_)
          have hm : (B, q) ∈ (TL.zipIdx.filter fun q => !decide (nI q.2 = nI p) && partM A q.1) := List.mem_filter.mpr ⟨zip_at hq, by
            simp only [Bool.and_eq_true, Bool.not_eq_true', decide_eq_false_iff_not, part_iff]
            exact ⟨by unfold nI; omega, hs⟩⟩
          have hlen := hle _ (List.mem_map.mpr ⟨_, hm, rfl⟩)
          have hlen : nI C.length ≤ nI B.length := hlen
          obtain ⟨x0, hx0⟩ : ∃ x, x ∈ A := by
            have := H.ne p A hp
            exact ⟨A.head this, List.head_mem this⟩
          exact nest_sub (H.pw a C haC) (H.pw q B hq) (H.nest a q C B haC hq) (hAC x0 hx0) (hs x0 hx0) (by unfold nI at hlen; omega)
/-! the places of a table -/
theorem sameKs_mem {lots : List (List Int)} {k x : Int} : x ∈ sameKs lots k ↔ ∃ q : Nat, x = nI q ∧ lots[q]? = some (lots.getD k.toNat []) := by
  unfold sameKs
  simp only [List.mem_map, List.mem_filter, decide_eq_true_eq]
  constructor
  · rintro ⟨⟨A, q⟩, ⟨h1, h2⟩, rfl⟩
    have h2 : A = _ := h2
    rw [← h2]
    exact ⟨q, rfl, (zip_mem h1).2⟩
  · rintro ⟨q, rfl, h⟩
    exact ⟨(_, q), ⟨zip_at h, rfl⟩, rfl⟩
theorem allT_get {n : Nat} {ts : List Ty} {k : Nat} {A : List Int} (h : (allT n ts)[k]? = some A) : k < n ∧ A = takersM ts (nI k) := by
  have hk : k < n := by
    have := (List.getElem?_eq_some_iff.mp h).1
    rwa [allT_len] at this
  refine ⟨hk, ?_⟩
  unfold allT at h
  rw [List.getElem?_map, List.getElem?_range hk] at h
  exact (Option.some.inj h).symm
theorem allT_at {n : Nat} {ts : List Ty} {k : Nat} (h : k < n) : (allT n ts)[k]? = some (takersM ts (nI k)) := by
  unfold allT
  rw [List.getElem?_map, List.getElem?_range h] <;> rfl
/-- a place: its first kind, its kinds -/
theorem place_at {n : Nat} {ts : List Ty} {p : Nat} {lot : List Int} (h : (placesM (allT n ts))[p]? = some lot) : ∃ k : Nat, (firstKs (allT n ts))[p]? = some (nI k) ∧ k < n ∧ takersM ts (nI k) ≠ [] ∧ takersM ts (nI k) ∉ (allT n ts).take k ∧ (∀ x, x ∈ lot ↔ ∃ q, q < n ∧ x = nI q ∧ takersM ts (nI q) = takersM ts (nI k)) ∧ takersM ts (lot.headD 0) = takersM ts (nI k) := by
  unfold placesM at h
  rw [List.getElem?_map] at h
  cases hf : (firstKs (allT n ts))[p]? with
  | none =>
    rw [hf] at h
    cases h
  | some kk =>
    rw [hf] at h
    have hl : sameKs (allT n ts) kk = lot := Option.some.inj h
    have hkm := List.mem_of_getElem? hf
    obtain ⟨k, rfl, A, h1, h2, h3⟩ := firstKs_mem.mp hkm
    obtain ⟨hk, rfl⟩ := allT_get h1
    have hg : (allT n ts).getD (nI k).toNat [] = takersM ts (nI k) := allT_getD hk
    have hm : ∀ x, x ∈ lot ↔ ∃ q, q < n ∧ x = nI q ∧ takersM ts (nI q) = takersM ts (nI k) := fun x => by
      rw [← hl, sameKs_mem, hg]
      constructor
      · rintro ⟨q, rfl, hq⟩
        obtain ⟨h4, h5⟩ := allT_get hq
        exact ⟨q, h4, rfl, h5.symm⟩
      · rintro ⟨q, h4, rfl, h5⟩
        exact ⟨q, rfl, by rw [allT_at h4, h5]⟩
    refine ⟨k, rfl, hk, h2, h3, hm, ?_⟩
    have hne : lot ≠ [] := by
      intro z
      have := (hm (nI k)).mpr ⟨k, hk, rfl, rfl⟩
      rw [z] at this
      cases this
    cases lot with
    | nil => exact absurd rfl hne
    | cons x xs =>
      obtain ⟨q, _, e, h6⟩ := (hm x).mp List.mem_cons_self
      show takersM ts x = _
      rw [e, h6]
theorem firstKs_pw (lots : List (List Int)) : (firstKs lots).Pairwise (· < ·) := by
  unfold firstKs
  rw [List.pairwise_map]
  refine List.Pairwise.sublist List.filter_sublist ?_
  rw [zip_range ([] : List Int) lots, List.pairwise_map]
  exact List.pairwise_lt_range.imp fun {a b} h => by unfold nI; show ((a : Nat) : Int) < b; omega
theorem plLots_at {n : Nat} {ts : List Ty} {p : Nat} {A : List Int} (h : (plLots ts (placesM (allT n ts)))[p]? = some A) : ∃ lot, (placesM (allT n ts))[p]? = some lot ∧ A = takersM ts (lot.headD 0) := by
  unfold plLots at h
  rw [List.getElem?_map] at h
  cases q : (placesM (allT n ts))[p]? with
  | none =>
    rw [q] at h
    cases h
  | some lot =>
    rw [q] at h
    exact ⟨lot, rfl, (Option.some.inj h).symm⟩
theorem plOk {n : Nat} {ts : List Ty} (L : Lam n ts) (h12 : ts.length ≤ 12) : PlOk (plLots ts (placesM (allT n ts))) 12 := by
  refine ⟨fun p A h => ?_, fun p A h => ?_, fun p A h => ?_, fun p q A h1 h2 => ?_, fun p q A B h1 h2 => ?_⟩
  · obtain ⟨lot, _, rfl⟩ := plLots_at h
    exact takers_pw _ _
  · obtain ⟨lot, h2, rfl⟩ := plLots_at h
    obtain ⟨k, _, _, h3, _, _, h4⟩ := place_at h2
    rw [h4]
    exact h3
  · obtain ⟨lot, h2, rfl⟩ := plLots_at h
    exact Nat.le_trans (takersM_len _ _) h12
  · obtain ⟨lot, h3, rfl⟩ := plLots_at h1
    obtain ⟨lot2, h4, e⟩ := plLots_at h2
    obtain ⟨k, f1, k1, _, k3, _, k5⟩ := place_at h3
    obtain ⟨l, f2, l1, _, l3, _, l5⟩ := place_at h4
    rw [k5, l5] at e
    have hkl : k = l := by
      rcases Nat.lt_trichotomy k l with q | q | q
      · exact absurd (List.mem_take_iff_getElem.mpr ⟨k, by rw [allT_len]; omega, by
          have := (List.getElem?_eq_some_iff.mp (allT_at (ts := ts) k1)).2
          rw [this, e]⟩) l3
      · exact q
      · exact absurd (List.mem_take_iff_getElem.mpr ⟨l, by rw [allT_len]; omega, by
          have := (List.getElem?_eq_some_iff.mp (allT_at (ts := ts) l1)).2
          rw [this, ← e]⟩) k3
    subst hkl
    have hpw := firstKs_pw (allT n ts)
    rw [List.pairwise_iff_getElem] at hpw
    obtain ⟨p1, p2⟩ := List.getElem?_eq_some_iff.mp f1
    obtain ⟨q1, q2⟩ := List.getElem?_eq_some_iff.mp f2
    rcases Nat.lt_trichotomy p q with z | z | z
    · have := hpw p q p1 q1 z
      omega
    · exact z
    · have := hpw q p q1 p1 z
      omega
  · obtain ⟨lot, h3, rfl⟩ := plLots_at h1
    obtain ⟨lot2, h4, rfl⟩ := plLots_at h2
    obtain ⟨k, _, k1, _, _, _, k5⟩ := place_at h3
    obtain ⟨l, _, l1, _, _, _, l5⟩ := place_at h4
    rw [k5, l5]
    exact L k l k1 l1
/-- each kind with takers has its place -/
theorem has_place {n : Nat} {ts : List Ty} {k : Nat} (hk : k < n) (hne : takersM ts (nI k) ≠ []) : ∃ (p : Nat) (lot : List Int), (placesM (allT n ts))[p]? = some lot ∧ takersM ts (lot.headD 0) = takersM ts (nI k) := by
  have hmem : takersM ts (nI k) ∈ allT n ts := List.mem_of_getElem? (allT_at hk)
  have h1 : nI (idxT (takersM ts (nI k)) (allT n ts)) ∈ firstKs (allT n ts) := firstKs_mem.mpr ⟨_, rfl, _, idxT_get hmem, hne, idxT_first⟩
  obtain ⟨p, hp⟩ := List.mem_iff_getElem?.mp h1
  have h2 : (placesM (allT n ts))[p]? = some (sameKs (allT n ts) (nI (idxT (takersM ts (nI k)) (allT n ts)))) := by
    unfold placesM
    rw [List.getElem?_map, hp] <;> rfl
  refine ⟨p, _, h2, ?_⟩
  obtain ⟨k2, f1, k1, _, _, _, k5⟩ := place_at h2
  rw [k5]
  rw [hp] at f1
  have e := Option.some.inj f1
  have := (allT_get (idxT_get hmem)).2
  rw [← e, ← this]
end NR
namespace NR
open PySem PySem.Spec PyProof.Rows L2
theorem nat_nI (k : Nat) : (nI k).toNat = k := rfl
theorem acc_takers {ts : List Ty} {r : Nat} {k : Int} (hr : r < ts.length) : k ∈ accT ts (r : Int) ↔ nI r ∈ takersM ts k := (takers_acc hr).symm
/-- the way up for one type -/
structure WayOk (n : Nat) (ts : List Ty) (r : Nat) (path : List Int) : Prop where
  h : isPath (forestM n ts).above ((forestM n ts).homes.getD r 0) path
  v : ∀ q ∈ path, 0 ≤ q ∧ q.toNat < (forestM n ts).places.length
  l : path.length ≤ 13
  m : ∀ k, k ∈ upM (forestM n ts).places path ↔ k ∈ accT ts (r : Int)
  u : (upM (forestM n ts).places path).Pairwise fun k k' => ∀ x ∈ takersM ts k, x ∈ takersM ts k'
theorem pl_get {n : Nat} {ts : List Ty} {p : Nat} {lot : List Int} (h : (placesM (allT n ts))[p]? = some lot) : (plLots ts (placesM (allT n ts)))[p]? = some (takersM ts (lot.headD 0)) := by
  unfold plLots
  rw [List.getElem?_map, h] <;> rfl
theorem pl_getD {n : Nat} {ts : List Ty} {p : Nat} {lot : List Int} (h : (placesM (allT n ts))[p]? = some lot) : (placesM (allT n ts)).getD p [] = lot := by
  rw [List.getD_eq_getElem?_getD, h] <;> rfl
theorem way_ex {ks : List Str} {ts : List Ty} (tb : Tb ks ts) (L : Lam ks.length ts) {r : Nat} (hr : r < ts.length) : ∃ path, WayOk ks.length ts r path := by
  have H := plOk L tb.t12
  have hmem := List.getElem_mem hr
  have hgr := getD_get (xs := ts) (d := (("", []) : Ty)) hr
  have hin := (tb.tl _ hmem).1
  rw [hgr] at hin
  have hhome : (forestM ks.length ts).homes.getD r 0 = homeAt (placesM (allT ks.length ts)) (plSizes ts (placesM (allT ks.length ts))) (accT ts (r : Int)) := by
    show (homesM ts (placesM (allT ks.length ts))).getD r 0 = _
    unfold homesM
    rw [List.getD_eq_getElem?_getD, List.getElem?_map, List.getElem?_eq_getElem hr, hgr] <;> rfl
  have hsz : ∀ (p : Nat) (lot : List Int), (placesM (allT ks.length ts))[p]? = some lot → (plSizes ts (placesM (allT ks.length ts))).getD p 0 = nI (takersM ts (lot.headD 0)).length := fun p lot h => by
    unfold plSizes
    rw [List.getD_eq_getElem?_getD, List.getElem?_map, h] <;> rfl
  -- each accepted kind has a place whose takers hold r
  have hkp : ∀ k, k ∈ accT ts (r : Int) → ∃ (p : Nat) (lot : List Int), (placesM (allT ks.length ts))[p]? = some lot ∧ takersM ts (lot.headD 0) = takersM ts k ∧ ∃ q : Nat, q < ks.length ∧ k = nI q := fun k hk => by
    obtain ⟨h0, h1⟩ := hin k hk
    have e : k = nI k.toNat := (Int.toNat_of_nonneg h0).symm
    have hne : takersM ts (nI k.toNat) ≠ [] := fun z => by
      have := (acc_takers hr).mp hk
      rw [e, z] at this
      cases this
    obtain ⟨p, lot, h2, h3⟩ := has_place (n := ks.length) (by omega : k.toNat < ks.length) hne
    exact ⟨p, lot, h2, by rw [h3, ← e], k.toNat, by omega, e⟩
  unfold homeAt at hhome
  by_cases hnone : ((placesM (allT ks.length ts)).zipIdx.filter fun q => decide (q.1.headD 0 ∈ accT ts (r : Int))) = []
  · rw [hnone] at hhome
    have hno : ∀ k, k ∉ accT ts (r : Int) := fun k hk => by
      obtain ⟨p, lot, h1, h2, _⟩ := hkp k hk
      have : (lot, p) ∈ (placesM (allT ks.length ts)).zipIdx.filter fun q => decide (q.1.headD 0 ∈ accT ts (r : Int)) := List.mem_filter.mpr ⟨zip_at h1, decide_eq_true ((acc_takers hr).mpr (by rw [h2]; exact (acc_takers hr).mp hk))⟩
      rw [hnone] at this
      cases this
    refine ⟨[], hhome, (fun q hq => nomatch hq), Nat.zero_le _, fun k => ⟨fun h => ?_, fun h => absurd h (hno k)⟩, .nil⟩
    cases h
  · have hne : (((placesM (allT ks.length ts)).zipIdx.filter fun q => decide (q.1.headD 0 ∈ accT ts (r : Int))).map fun q => ((plSizes ts (placesM (allT ks.length ts))).getD q.2 0, nI q.2)) ≠ [] := fun z => hnone (List.map_eq_nil_iff.mp z)
    obtain ⟨pr, hpr, hmin, hle⟩ := minOr_spec hne
    obtain ⟨⟨lot, p⟩, h1, rfl⟩ := List.mem_map.mp hpr
    obtain ⟨h2, h3⟩ := List.mem_filter.mp h1
    have hp := (zip_mem h2).2
    have h3 : lot.headD 0 ∈ accT ts (r : Int) := of_decide_eq_true h3
    have hrp := (acc_takers hr).mp h3
    have hTp := pl_get hp
    obtain ⟨path, p1, p2, p3, p4, p5⟩ := path_ex H 12 p _ hTp (by omega)
    have hval : ∀ q ∈ path, 0 ≤ q ∧ ∃ lot' : List Int, (placesM (allT ks.length ts))[q.toNat]? = some lot' ∧ ∀ x ∈ takersM ts (lot.headD 0), x ∈ takersM ts (lot'.headD 0) := fun q hq => by
      obtain ⟨h0, B, hB, hs⟩ := p2 q hq
      obtain ⟨lot', h4, rfl⟩ := plLots_at hB
      exact ⟨h0, lot', h4, hs⟩
    have hkin : ∀ (q : Nat) (lot' : List Int), (placesM (allT ks.length ts))[q]? = some lot' → ∀ k ∈ lot', takersM ts k = takersM ts (lot'.headD 0) := fun q lot' h k hk => by
      obtain ⟨k2, _, _, _, _, hm, e⟩ := place_at h
      obtain ⟨q2, _, rfl, e2⟩ := (hm k).mp hk
      rw [e2, e]
    refine ⟨path, ?_, fun q hq => ?_, by omega, fun k => ⟨fun hk => ?_, fun hk => ?_⟩, ?_⟩
    · rw [hhome, hmin]
      exact p1
    · obtain ⟨h0, lot', h4, _⟩ := hval q hq
      exact ⟨h0, (List.getElem?_eq_some_iff.mp h4).1⟩
    · unfold upM at hk
      obtain ⟨q, hq, hkq⟩ := List.mem_flatMap.mp hk
      obtain ⟨_, lot', h4, h5⟩ := hval q hq
      have h6 : (forestM ks.length ts).places.getD q.toNat [] = lot' := pl_getD h4
      rw [h6] at hkq
      refine (acc_takers hr).mpr ?_
      rw [hkin _ _ h4 k hkq]
      exact h5 _ hrp
    · obtain ⟨q, lot', h4, h5, q0, hq0, rfl⟩ := hkp k hk
      have hrq := (acc_takers hr).mp hk
      have hm : (lot', q) ∈ (placesM (allT ks.length ts)).zipIdx.filter fun q => decide (q.1.headD 0 ∈ accT ts (r : Int)) := List.mem_filter.mpr ⟨zip_at h4, decide_eq_true ((acc_takers hr).mpr (by rw [h5]; exact hrq))⟩
      have hlen := hle _ (List.mem_map.mpr ⟨_, hm, rfl⟩)
      have hlen : (plSizes ts (placesM (allT ks.length ts))).getD p 0 ≤ (plSizes ts (placesM (allT ks.length ts))).getD q 0 := hlen
      rw [hsz p lot hp, hsz q lot' h4] at hlen
      have hlen2 : (takersM ts (lot.headD 0)).length ≤ (takersM ts (lot'.headD 0)).length := by unfold nI at hlen; omega
      have hTq := pl_get h4
      have hsub := nest_sub (H.pw p _ hTp) (H.pw q _ hTq) (H.nest p q _ _ hTp hTq) hrp (by rw [h5]; exact hrq) hlen2
      have hqp := p4 q _ hTq hsub
      unfold upM
      refine List.mem_flatMap.mpr ⟨nI q, hqp, ?_⟩
      have h6 : (forestM ks.length ts).places.getD (nI q).toNat [] = lot' := pl_getD h4
      rw [h6]
      obtain ⟨k2, _, _, _, _, hm2, e⟩ := place_at h4
      exact (hm2 _).mpr ⟨q0, hq0, rfl, by rw [← h5, e]⟩
    · unfold upM
      rw [List.pairwise_flatMap]
      refine ⟨fun q hq => ?_, p3.imp_of_mem fun {a b} ha hb hab => ?_⟩
      · obtain ⟨_, lot', h4, _⟩ := hval q hq
        have h6 : (forestM ks.length ts).places.getD q.toNat [] = lot' := pl_getD h4
        rw [h6]
        refine List.Pairwise.imp_of_mem (R := fun _ _ => True) (fun {x y} hx hy _ => ?_) (List.pairwise_of_forall fun _ _ => trivial)
        rw [hkin _ _ h4 x hx, hkin _ _ h4 y hy]
        exact fun z hz => hz
      · obtain ⟨_, la, h4, _⟩ := hval a ha
        obtain ⟨_, lb, h5, _⟩ := hval b hb
        have h6 : (forestM ks.length ts).places.getD a.toNat [] = la := pl_getD h4
        have h7 : (forestM ks.length ts).places.getD b.toNat [] = lb := pl_getD h5
        rw [h6, h7]
        intro x hx y hy
        rw [hkin _ _ h4 x hx, hkin _ _ h5 y hy]
        exact hab _ _ (pl_get h4) (pl_get h5)
theorem forest_ok {ks : List Str} {ts : List Ty} (tb : Tb ks ts) (L : Lam ks.length ts) : ∃ path : Nat → List Int, FoOk (forestM ks.length ts) ks.length ts.length path ∧ OrdOk (accT ts) (ordP (forestM ks.length ts) path) ts.length := by
  have h : ∀ r : Nat, ∃ path : List Int, r < ts.length → WayOk ks.length ts r path := fun r => by
    by_cases hr : r < ts.length
    · obtain ⟨path, hp⟩ := way_ex tb L hr
      exact ⟨path, fun _ => hp⟩
    · exact ⟨[], fun z => absurd z hr⟩
  obtain ⟨path, hp⟩ := Classical.axiomOfChoice h
  have hpl8 : ∀ (q : Nat), ((forestM ks.length ts).places.getD q []).length ≤ 8 := fun q => by
    cases h : (placesM (allT ks.length ts))[q]? with
    | none =>
      have : (forestM ks.length ts).places.getD q [] = [] := by
        show (placesM (allT ks.length ts)).getD q [] = []
        rw [List.getD_eq_getElem?_getD, h] <;> rfl
      rw [this]
      exact Nat.zero_le _
    | some lot =>
      have : (forestM ks.length ts).places.getD q [] = lot := pl_getD h
      rw [this]
      have h2 := List.mem_of_getElem? h
      unfold placesM at h2
      obtain ⟨k, _, rfl⟩ := List.mem_map.mp h2
      unfold sameKs
      rw [List.length_map]
      exact Nat.le_trans (List.length_filter_le _ _) (by rw [List.length_zipIdx, allT_len]; exact tb.k8)
  refine ⟨path, ⟨fun r hr => ?_, fun r hr k hk => ?_⟩, fun r hr k => ?_, fun r hr => ?_⟩
  · have w := hp r hr
    have hl := w.l
    refine ⟨?_, w.h, w.v, by omega, ?_⟩
    · show r < (homesM ts _).length
      unfold homesM
      rw [List.length_map]
      exact hr
    · unfold upM
      exact Nat.le_trans (flat_len (c := 8) fun q _ => hpl8 _) (Nat.le_trans (Nat.mul_le_mul hl (Nat.le_refl _)) (by decide))
  · have := (hp r hr).m k |>.mp hk
    have hgr := getD_get (xs := ts) (d := (("", []) : Ty)) hr
    have hin := (tb.tl _ (List.getElem_mem hr)).1
    rw [hgr] at hin
    exact hin k this
  · exact (hp r hr).m k
  · refine (hp r hr).u.imp fun {k k'} h q hq hk => ?_
    exact (acc_takers hq).mpr (h _ ((acc_takers hq).mp hk))
end NR
namespace NR
open PySem PySem.Spec PyProof.Rows L2
theorem nI_inj {a b : Nat} (h : nI a = nI b) : a = b := by
  unfold nI at h
  omega
theorem takers_wk {ks : List Str} {ts : List Ty} (tb : Tb ks ts) {K : List Int} {i : Nat} (hi : i < (leftM ks.length K).length) : takersM (wkTys (leftM ks.length K) K ts) (nI i) = takersM ts ((leftM ks.length K).getD i 0) := by
  have hpw := leftM_pw ks.length K
  have hnd := pw_nodup hpw
  have hgi := getD_get (xs := leftM ks.length K) (d := (0 : Int)) hi
  have hlen : (wkTys (leftM ks.length K) K ts).length = ts.length := by
    unfold wkTys
    rw [List.length_map]
  refine pw_ext (takers_pw _ _) (takers_pw _ _) fun x => ?_
  rw [takers_mem, takers_mem]
  have key : ∀ a, a < ts.length → (nI i ∈ ((wkTys (leftM ks.length K) K ts).getD a ("", [])).2 ↔ (leftM ks.length K).getD i 0 ∈ (ts.getD a ("", [])).2) := fun a ha => by
    have e : ((wkTys (leftM ks.length K) K ts).getD a ("", [])).2 = ((ts.getD a ("", [])).2.filter fun k => !decide (k ∈ K)).map fun k => nI ((leftM ks.length K).idxOf k) := by
      unfold wkTys
      rw [List.getD_eq_getElem?_getD, List.getElem?_map, List.getElem?_eq_getElem ha, getD_get (xs := ts) (d := (("", []) : Ty)) ha] <;> rfl
    have hin := (tb.tl _ (List.getElem_mem ha)).1
    rw [getD_get (xs := ts) (d := (("", []) : Ty)) ha] at hin
    rw [e, ← hgi]
    simp only [List.mem_map, List.mem_filter, Bool.not_eq_true', decide_eq_false_iff_not]
    constructor
    · rintro ⟨k, ⟨h1, h2⟩, h3⟩
      have hk : k ∈ leftM ks.length K := leftM_mem.mpr ⟨hin k h1, h2⟩
      have hx : (leftM ks.length K).idxOf k = i := by unfold nI at h3; omega
      have hl := List.idxOf_lt_length_iff.mpr hk
      have := List.getElem_idxOf hl
      simp only [hx] at this
      rw [this]
      exact h1
    · intro h1
      have hk := leftM_mem.mp (List.getElem_mem hi)
      refine ⟨_, ⟨h1, hk.2⟩, ?_⟩
      rw [hnd.idxOf_getElem]
  constructor
  · rintro ⟨a, rfl, ha, h⟩
    rw [hlen] at ha
    exact ⟨a, rfl, ha, (key a ha).mp h⟩
  · rintro ⟨a, rfl, ha, h⟩
    exact ⟨a, rfl, by rw [hlen]; exact ha, (key a ha).mpr h⟩
theorem lam_wk {ks : List Str} {ts : List Ty} (tb : Tb ks ts) (K : List Int) : Lam (leftM ks.length K).length (wkTys (leftM ks.length K) K ts) ↔ ∀ a b : Nat, a < ks.length → b < ks.length → nI a ∉ K → nI b ∉ K → nestM (takersM ts (nI a)) (takersM ts (nI b)) = true := by
  constructor
  · intro h a b ha hb h1 h2
    have ma : nI a ∈ leftM ks.length K := leftM_mem.mpr ⟨⟨by unfold nI; omega, by unfold nI; omega⟩, h1⟩
    have mb : nI b ∈ leftM ks.length K := leftM_mem.mpr ⟨⟨by unfold nI; omega, by unfold nI; omega⟩, h2⟩
    obtain ⟨i, hi, ei⟩ := List.mem_iff_getElem.mp ma
    obtain ⟨j, hj, ej⟩ := List.mem_iff_getElem.mp mb
    have := h i j hi hj
    rw [takers_wk tb hi, takers_wk tb hj, ← getD_get (d := (0 : Int)) hi, ← getD_get (d := (0 : Int)) hj, ei, ej] at this
    exact this
  · intro h i j hi hj
    rw [takers_wk tb hi, takers_wk tb hj, ← getD_get (d := (0 : Int)) hi, ← getD_get (d := (0 : Int)) hj]
    obtain ⟨⟨a0, a1⟩, a2⟩ := leftM_mem.mp (List.getElem_mem hi)
    obtain ⟨⟨b0, b1⟩, b2⟩ := leftM_mem.mp (List.getElem_mem hj)
    generalize (leftM ks.length K)[i] = a at a0 a1 a2
    generalize (leftM ks.length K)[j] = b at b0 b1 b2
    have ea : a = nI a.toNat := (Int.toNat_of_nonneg a0).symm
    have eb : b = nI b.toNat := (Int.toNat_of_nonneg b0).symm
    rw [ea] at a2 ⊢
    rw [eb] at b2 ⊢
    exact h _ _ (by omega) (by omega) a2 b2
/-! twins -/
theorem twin_eq {lots : List (List Int)} {x y : List Int} (hx : x ∈ lots) (hy : y ∈ lots) (h : nI ((firstsM lots).idxOf (nI (idxT x lots))) = nI ((firstsM lots).idxOf (nI (idxT y lots)))) : x = y := by
  have h1 : (firstsM lots).idxOf (nI (idxT x lots)) = (firstsM lots).idxOf (nI (idxT y lots)) := nI_inj h
  have g1 := ix_get (idx_in_firsts hx)
  have g2 := ix_get (idx_in_firsts hy)
  have ne1 : nI (idxT x lots) = nI (idxT y lots) := by
    have e1 : (firstsM lots)[(firstsM lots).idxOf (nI (idxT x lots))]? = some (nI (idxT x lots)) := g1
    have e2 : (firstsM lots)[(firstsM lots).idxOf (nI (idxT y lots))]? = some (nI (idxT y lots)) := g2
    rw [h1, e2] at e1
    exact (Option.some.inj e1).symm
  have h2 : idxT x lots = idxT y lots := nI_inj ne1
  have f1 := idxT_get hx
  have f2 := idxT_get hy
  rw [h2, f2] at f1
  exact (Option.some.inj f1).symm
theorem others_mem {pl : List Int} {k : Nat} : nI k ∈ othersM pl ↔ k < pl.length ∧ ∃ j, j < k ∧ pl.getD j 0 = pl.getD k 0 := by
  unfold othersM
  simp only [List.mem_map, List.mem_filter, List.mem_range, decide_eq_true_eq]
  constructor
  · rintro ⟨a, ⟨h1, h2⟩, h3⟩
    have : a = k := by unfold nI at h3; omega
    subst this
    refine ⟨h1, ?_⟩
    obtain ⟨j, hj, e⟩ := List.mem_take_iff_getElem.mp h2
    refine ⟨j, by omega, ?_⟩
    rw [← e, getD_get (d := (0 : Int))]
  · rintro ⟨h1, j, h2, h3⟩
    refine ⟨k, ⟨h1, ?_⟩, rfl⟩
    rw [← h3]
    exact List.mem_take_iff_getElem.mpr ⟨j, by omega, getD_get (d := (0 : Int)) (by omega)⟩
theorem twin_getD {lots : List (List Int)} {k : Nat} (hk : k < lots.length) : (twinM lots).getD k 0 = nI ((firstsM lots).idxOf (nI (idxT (lots.getD k []) lots))) := by
  unfold twinM
  rw [List.getD_eq_getElem?_getD, List.getElem?_map, List.getElem?_eq_getElem hk, getD_get (d := ([] : List Int)) hk] <;> rfl
/-- for each there is a first one that is kept -/
theorem twin_first {lots : List (List Int)} {k : Nat} (hk : k < lots.length) : ∃ j, j < lots.length ∧ nI j ∉ othersM (twinM lots) ∧ lots.getD j [] = lots.getD k [] := by
  have hm : lots.getD k [] ∈ lots := by
    rw [← getD_get (d := ([] : List Int)) hk]
    exact List.getElem_mem hk
  have hj := idxT_lt hm
  have hg : lots.getD (idxT (lots.getD k []) lots) [] = lots.getD k [] := by
    have := idxT_get hm
    rw [List.getD_eq_getElem?_getD, this] <;> rfl
  refine ⟨_, hj, fun h => ?_, hg⟩
  obtain ⟨_, i, hi, e⟩ := others_mem.mp h
  have hil : i < lots.length := by omega
  rw [twin_getD hil, twin_getD hj, hg] at e
  have hmi : lots.getD i [] ∈ lots := by
    rw [← getD_get (d := ([] : List Int)) hil]
    exact List.getElem_mem hil
  have := twin_eq hmi hm e
  refine idxT_first (n := lots.getD k []) (xs := lots) ?_
  rw [← this]
  exact List.mem_take_iff_getElem.mpr ⟨i, by rw [this]; omega, getD_get (d := ([] : List Int)) hil⟩
theorem lam_jk {ks : List Str} {ts : List Ty} (tb : Tb ks ts) : Lam (leftM ks.length (othersM (jkM ks.length ts))).length (wkTys (leftM ks.length (othersM (jkM ks.length ts))) (othersM (jkM ks.length ts)) ts) ↔ Lam ks.length ts := by
  rw [lam_wk tb]
  constructor
  · intro h k l hk hl
    obtain ⟨a, a1, a2, a3⟩ := twin_first (lots := allT ks.length ts) (k := k) (by rw [allT_len]; exact hk)
    obtain ⟨b, b1, b2, b3⟩ := twin_first (lots := allT ks.length ts) (k := l) (by rw [allT_len]; exact hl)
    rw [allT_len] at a1 b1
    rw [allT_getD a1, allT_getD hk] at a3
    rw [allT_getD b1, allT_getD hl] at b3
    have := h a b a1 b1 a2 b2
    rw [a3, b3] at this
    exact this
  · intro h a b ha hb _ _
    exact h a b ha hb
theorem wt_mem {ts : List Ty} {lot : List Int} {t : Ty} : t ∈ wtM ts lot ↔ ∃ a : Nat, ts[a]? = some t ∧ nI a ∉ lot := by
  unfold wtM
  simp only [List.mem_map, List.mem_filter, Bool.not_eq_true', decide_eq_false_iff_not]
  constructor
  · rintro ⟨⟨u, a⟩, ⟨h1, h2⟩, rfl⟩
    exact ⟨a, (zip_mem h1).2, h2⟩
  · rintro ⟨a, h1, h2⟩
    exact ⟨(t, a), ⟨zip_at h1, h2⟩, rfl⟩
theorem lam_el {n : Nat} {ts : List Ty} : Lam n ts ↔ ∀ k l : Nat, k < n → l < n → ¬ El ts (nI k) (nI l) := by
  constructor
  · intro h k l hk hl he
    have := nest_el.mpr he
    rw [h k l hk hl] at this
    cases this
  · intro h k l hk hl
    cases q : nestM (takersM ts (nI k)) (takersM ts (nI l)) with
    | true => rfl
    | false => exact absurd (nest_el.mp q) (h k l hk hl)
theorem lam_jt {n : Nat} {ts : List Ty} : Lam n (wtM ts (othersM (jtM ts))) ↔ Lam n ts := by
  rw [lam_el, lam_el]
  have hsub : ∀ t ∈ wtM ts (othersM (jtM ts)), t ∈ ts := fun t ht => (wt_sub ts _).subset ht
  have hall : ∀ t ∈ ts, ∃ u ∈ wtM ts (othersM (jtM ts)), u.2 = t.2 := fun t ht => by
    obtain ⟨k, hk, rfl⟩ := List.mem_iff_getElem.mp ht
    have hl : (ts.map (·.2)).length = ts.length := List.length_map ..
    obtain ⟨j, h1, h2, h3⟩ := twin_first (lots := ts.map (·.2)) (k := k) (by rw [hl]; exact hk)
    rw [hl] at h1
    refine ⟨ts[j], wt_mem.mpr ⟨j, List.getElem?_eq_getElem h1, h2⟩, ?_⟩
    have e : ∀ i, (hi : i < ts.length) → (ts.map (·.2)).getD i [] = ts[i].2 := fun i hi => by
      rw [List.getD_eq_getElem?_getD, List.getElem?_map, List.getElem?_eq_getElem hi] <;> rfl
    rw [e j h1, e k hk] at h3
    exact h3
  have el : ∀ k l, El (wtM ts (othersM (jtM ts))) k l ↔ El ts k l := fun k l => by
    unfold El
    have conv : ∀ p : List Int → Prop, (∃ t ∈ wtM ts (othersM (jtM ts)), p t.2) ↔ ∃ t ∈ ts, p t.2 := fun p => by
      constructor
      · rintro ⟨t, h1, h2⟩
        exact ⟨t, hsub t h1, h2⟩
      · rintro ⟨t, h1, h2⟩
        obtain ⟨u, h3, h4⟩ := hall t h1
        exact ⟨u, h3, by rw [h4]; exact h2⟩
    rw [conv fun x => k ∈ x ∧ l ∈ x, conv fun x => k ∈ x ∧ l ∉ x, conv fun x => l ∈ x ∧ k ∉ x]
  simp only [el]
theorem filt_nil {α : Type} {xs : List α} {p : α → Bool} : (xs.filter p).isEmpty = true ↔ ∀ x ∈ xs, p x = false := by
  rw [List.isEmpty_iff, List.filter_eq_nil_iff]
  simp
theorem lam_wt {n : Nat} {ts : List Ty} {lot : List Int} : Lam n (wtM ts lot) ↔ ((lawC n ts).filter fun c => c.2.all fun a => !decide (a ∈ lot)).isEmpty = true := by
  rw [filt_nil, lam_el]
  have conv : ∀ p : List Int → Prop, (∃ t ∈ wtM ts lot, p t.2) ↔ ∃ a : Nat, a < ts.length ∧ nI a ∉ lot ∧ p (ts.getD a ("", [])).2 := fun p => by
    constructor
    · rintro ⟨t, h1, h2⟩
      obtain ⟨a, h3, h4⟩ := wt_mem.mp h1
      have ha := (List.getElem?_eq_some_iff.mp h3).1
      refine ⟨a, ha, h4, ?_⟩
      rw [List.getD_eq_getElem?_getD, h3]
      exact h2
    · rintro ⟨a, ha, h1, h2⟩
      refine ⟨ts[a], wt_mem.mpr ⟨a, List.getElem?_eq_getElem ha, h1⟩, ?_⟩
      rw [getD_get (xs := ts) (d := (("", []) : Ty)) ha]
      exact h2
  have elc : ∀ k l : Nat, El (wtM ts lot) (nI k) (nI l) ↔ ∃ c ∈ crossAt ts (k, l), (c.2.all fun a => !decide (a ∈ lot)) = true := fun k l => by
    unfold El
    rw [conv fun x => nI k ∈ x ∧ nI l ∈ x, conv fun x => nI k ∈ x ∧ nI l ∉ x, conv fun x => nI l ∈ x ∧ nI k ∉ x]
    constructor
    · rintro ⟨⟨a, ha, a1, a2, a3⟩, ⟨b, hb, b1, b2, b3⟩, c, hc, c1, c2, c3⟩
      refine ⟨_, crossAt_mem.mpr ⟨nI a, nI b, nI c, both_mem.mpr ⟨(takers_acc ha).mpr a2, (takers_acc ha).mpr a3⟩, mine_mem.mpr ⟨(takers_acc hb).mpr b2, fun z => b3 ((takers_acc hb).mp z)⟩, mine_mem.mpr ⟨(takers_acc hc).mpr c2, fun z => c3 ((takers_acc hc).mp z)⟩, rfl⟩, ?_⟩
      simp [a1, b1, c1]
    · rintro ⟨cc, h1, h2⟩
      obtain ⟨f, m, y, h3, h4, h5, rfl⟩ := crossAt_mem.mp h1
      simp only [List.all_cons, List.all_nil, Bool.and_true, Bool.and_eq_true, Bool.not_eq_true', decide_eq_false_iff_not] at h2
      obtain ⟨f1, f2⟩ := both_mem.mp h3
      obtain ⟨m1, m2⟩ := mine_mem.mp h4
      obtain ⟨y1, y2⟩ := mine_mem.mp h5
      obtain ⟨a, rfl, ha, a2⟩ := takers_mem.mp f1
      obtain ⟨b, rfl, hb, b2⟩ := takers_mem.mp m1
      obtain ⟨c, rfl, hc, c2⟩ := takers_mem.mp y1
      exact ⟨⟨a, ha, h2.1, a2, (takers_acc ha).mp f2⟩, ⟨b, hb, h2.2.1, b2, fun z => m2 ((takers_acc hb).mpr z)⟩, c, hc, h2.2.2, c2, fun z => y2 ((takers_acc hc).mpr z)⟩
  have sym : ∀ k l, El (wtM ts lot) k l → El (wtM ts lot) l k := fun k l ⟨⟨t, t1, t2, t3⟩, h2, h3⟩ => ⟨⟨t, t1, t3, t2⟩, h3, h2⟩
  constructor
  · intro h c hc
    obtain ⟨k, l, h1, h2, h3⟩ := lawC_mem.mp hc
    cases q : c.2.all fun a => !decide (a ∈ lot) with
    | false => rfl
    | true => exact absurd ((elc k l).mpr ⟨c, h3, q⟩) (h k l (by omega) h2)
  · intro h k l hk hl he
    rcases Nat.lt_trichotomy k l with q | q | q
    · obtain ⟨c, h1, h2⟩ := (elc k l).mp he
      rw [h c (lawC_mem.mpr ⟨k, l, q, hl, h1⟩)] at h2
      cases h2
    · subst q
      obtain ⟨_, ⟨t, _, h1, h2⟩, _⟩ := he
      exact h2 h1
    · obtain ⟨c, h1, h2⟩ := (elc l k).mp (sym _ _ he)
      rw [h c (lawC_mem.mpr ⟨l, k, q, hk, h1⟩)] at h2
      cases h2
theorem lam_kinds {n : Nat} {ts : List Ty} {K : List Int} : (∀ a b : Nat, a < n → b < n → nI a ∉ K → nI b ∉ K → nestM (takersM ts (nI a)) (takersM ts (nI b)) = true) ↔ ((lawC n ts).filter fun c => c.1.all fun a => !decide (a ∈ K)).isEmpty = true := by
  rw [filt_nil]
  constructor
  · intro h c hc
    obtain ⟨k, l, h1, h2, h3⟩ := lawC_mem.mp hc
    obtain ⟨f, m, y, _, _, _, rfl⟩ := crossAt_mem.mp h3
    have hf := crossAt_ne.mp ⟨_, h3⟩
    cases q : [nI k, nI l].all fun a => !decide (a ∈ K) with
    | false => rfl
    | true =>
      simp only [List.all_cons, List.all_nil, Bool.and_true, Bool.and_eq_true, Bool.not_eq_true', decide_eq_false_iff_not] at q
      rw [h k l (by omega) h2 q.1 q.2] at hf
      cases hf
  · intro h
    have key : ∀ a b : Nat, a < b → b < n → nI a ∉ K → nI b ∉ K → nestM (takersM ts (nI a)) (takersM ts (nI b)) = true := fun a b hab hb h1 h2 => by
      cases q : nestM (takersM ts (nI a)) (takersM ts (nI b)) with
      | true => rfl
      | false =>
        obtain ⟨c, hc⟩ := crossAt_ne.mpr q
        have := h c (lawC_mem.mpr ⟨a, b, hab, hb, hc⟩)
        obtain ⟨f, m, y, _, _, _, rfl⟩ := crossAt_mem.mp hc
        simp [h1, h2] at this
    intro a b ha hb h1 h2
    rcases Nat.lt_trichotomy a b with q | q | q
    · exact key a b q hb h1 h2
    · rw [q]
      exact nest_refl _
    · exact nest_symm (key b a q ha h2 h1)
/-! the day of a crossing -/
theorem stock_len (n : Nat) (kinds : List Int) : (stockM n kinds).length = n := by
  unfold stockM
  rw [List.length_map, List.length_range]
theorem stock_get {n : Nat} {kinds : List Int} {k : Int} (h0 : 0 ≤ k) (h1 : k < (n : Int)) : gtS (stockM n kinds) k = if k ∈ kinds then 1 else 0 := by
  unfold gtS stockM
  rw [List.getD_eq_getElem?_getD, List.getElem?_map, List.getElem?_range (by omega)]
  show (if nI k.toNat ∈ kinds then (1 : Int) else 0) = _
  rw [show nI k.toNat = k from Int.toNat_of_nonneg h0]
theorem stock_sum {n k l : Nat} (hkl : k < l) (hl : l < n) : (stockM n [nI k, nI l]).sum = 2 := by
  have e : stockM n [nI k, nI l] = (List.range n).map fun i => (if i = k then 1 else 0) + (if i = l then (1 : Int) else 0) := by
    unfold stockM
    refine List.map_congr_left fun i _ => ?_
    simp only [List.mem_cons, List.not_mem_nil, or_false]
    by_cases h1 : i = k
    · have : i ≠ l := by omega
      simp [h1, show ¬ k = l by omega]
    · by_cases h2 : i = l
      · simp [h2, show ¬ l = k by omega]
      · have h3 : ¬ (nI i = nI k ∨ nI i = nI l) := by unfold nI; omega
        rw [if_neg h3]
        simp [h1, h2]
  have one : ∀ (n k : Nat), ((List.range n).map fun i => if i = k then (1 : Int) else 0).sum = if k < n then 1 else 0 := by
    intro n k
    induction n with
    | zero => simp
    | succ n ih =>
      rw [List.range_succ, List.map_append, List.sum_append, ih]
      simp only [List.map_cons, List.map_nil, List.sum_cons, List.sum_nil]
      by_cases h1 : n = k
      · simp [h1]
      · by_cases h2 : k < n
        · simp [h1, h2, show k < n + 1 by omega]
        · simp [h1, h2, show ¬ k < n + 1 by omega]
  have two : ∀ (xs : List Nat) (f g : Nat → Int), (xs.map fun i => f i + g i).sum = (xs.map f).sum + (xs.map g).sum := by
    intro xs f g
    induction xs with
    | nil => rfl
    | cons x xs ih =>
      simp only [List.map_cons, List.sum_cons, ih]
      omega
  rw [e, two, one, one, if_pos (by omega), if_pos hl] <;> rfl
theorem cross_day {ks : List Str} {ts : List Ty} (tb : Tb ks ts) {c : List Int × List Int} {k l : Nat} (hkl : k < l) (hl : l < ks.length) (hc : c ∈ crossAt ts (k, l)) : ∃ f m y, c = ([nI k, nI l], [f, m, y]) ∧ (0 ≤ f ∧ f < ts.length) ∧ (0 ≤ m ∧ m < ts.length) ∧ (0 ≤ y ∧ y < ts.length) ∧ ∀ d, (∀ r, ∀ k ∈ accT ts r, 0 ≤ k ∧ k < (ks.length : Int)) → canM setS (accT ts) (stockM ks.length [nI k, nI l]) (d + 2) (stockM ks.length [nI k, nI l]) [] [[f, m], [f, y]] = false := by
  obtain ⟨f, m, y, h1, h2, h3, rfl⟩ := crossAt_mem.mp hc
  obtain ⟨f1, f2⟩ := both_mem.mp h1
  obtain ⟨m1, m2⟩ := mine_mem.mp h2
  obtain ⟨y1, y2⟩ := mine_mem.mp h3
  obtain ⟨a, rfl, ha, a2⟩ := takers_mem.mp f1
  obtain ⟨b, rfl, hb, b2⟩ := takers_mem.mp m1
  obtain ⟨e, rfl, he, e2⟩ := takers_mem.mp y1
  have hk0 : (0 : Int) ≤ nI k ∧ nI k < (ks.length : Int) := by unfold nI; omega
  have hl0 : (0 : Int) ≤ nI l ∧ nI l < (ks.length : Int) := by unfold nI; omega
  refine ⟨nI a, nI b, nI e, rfl, by unfold nI; omega, by unfold nI; omega, by unfold nI; omega, fun d hacc => ?_⟩
  refine can_cross (n := ks.length) (fun xs x h => (setS_mem x xs).mpr h) hacc (stock_len _ _) (k := nI k) (l := nI l) (f := nI a) (a := nI b) (b := nI e) (by unfold nI; omega) ?_ ?_ (fun j h0 h1 n1 n2 => ?_) a2 ((takers_acc ha).mp f2) b2 (fun z => m2 ((takers_acc hb).mpr z)) (fun z => y2 ((takers_acc he).mpr z)) e2 d
  · rw [stock_get hk0.1 hk0.2, if_pos (by simp)]
  · rw [stock_get hl0.1 hl0.2, if_pos (by simp)]
  · rw [stock_get h0 h1, if_neg (by simp [n1, n2])]
end NR
namespace NR
open PySem PySem.Spec PyProof.Rows L2
section
variable {X : Cx} {W : Wd} {a b : Expr} {δ : Env} {pos : Pos}
theorem wIsiC {C C' : Addr} {ns : List Str} {ds : List D} (k : Bool) {pn : Pos} (hm : X.mg "isinstance" = none) (ha : AEq X W a δ (.d (.ins C ns ds))) (hb : AEq X W b δ (.d (.cls C'))) (h : InsT X.K C) (hk : PySem.W.kitOne X.K (.ref C) (.ref C') = some k) (hg : Gl X "isinstance" := by rfl)
    (he : starEach [a, b] X.env = (false, eval a X.env) :: starEach [b] X.env := by rfl) (hs2 : starEach [b] X.env = (false, eval b X.env) :: starEach [] X.env := by rfl) (hp : (backTo pos (starEach [b] X.env)).any (·.1) = false := by rfl) :
    AEq X W (.Call (.Name "isinstance" pn) [a, b] [] pos) δ (.d (.bl k)) := ae_cb call_isi hg hm PyProof.Rows.boot_isinstance (aa2 ha hb he hs2) (cd_isiC h hk) (by decide) (by decide) he hp
end
theorem Tb.ms {ks : List Str} {ts : List Ty} (tb : Tb ks ts) {st : List Int} (h : st.length = ks.length) : MsOk ts st := ⟨by have := tb.t12; omega, by have := tb.k8; omega, fun t ht => by
  have h1 := tb.tl t ht
  have h2 := lot_len (n := ks.length) h1
  have h8 := tb.k8
  rw [h]
  exact ⟨h1.1, by omega⟩⟩
section
variable {P : Program} {w : World} {K : PySem.W.Frag} {mg : Str → Option Value} {base : Heap} {oa ia : Addr} {CT CF CC : Addr}
structure RtX where
  ks : List Str
  ts : List Ty
  tb : Tb ks ts
  m4 : ts.length ≤ 4
abbrev Kright (P : Program) (w : World) (K : PySem.W.Frag) (mg : Str → Option Value) (base : Heap) (oa ia : Addr) := Kn P w K mg base (WH oa ia) 16 "_law_right" ["_law_heap_here", "_law_kinds", "_law_types"] (fun i : RtX => [.hp, .d (eNames i.ks), .d (eTys i.ts)]) (fun _ s => s = .d (.bl true))
theorem sc_right : FnScope ["_law_heap_here", "_law_kinds", "_law_types", "_law_table", "_law_crossings_here", "_law_verdict", "_law_stock", "_law_kind", "_law_rows_here", "_law_row"] ["_law_heap_here", "_law_kinds", "_law_types"] (defScope (top 61)) := ⟨rfl, rfl, rfl, by decide +kernel, rfl, by decide +kernel, by decide +kernel⟩
theorem ok_right (T : Tx mg) (Z : Cz K mg CT CF CC) (d : Df K mg "_law_right" (top 61) ["_law_heap_here", "_law_kinds", "_law_types"]) (g1 : KTable P w K mg base (WH oa ia) CT) (g2 : Klcross P w K mg base (WH oa ia)) (g3 : Kcourt P w K mg base (WH oa ia) CT CF CC) (g4 : Kpick P w K mg base oa ia) (g5 : Kdraw P w K mg base oa ia) (g6 : Krows P w K mg base (WH oa ia)) (g7 : ∀ n, Kcan P w K mg base (WH oa ia) n) (g8 : Krule P w K mg base (WH oa ia) CF) (g9 : KcrossingDay P w K mg base (WH oa ia) CT CC) : Kright P w K mg base oa ia := by
  refine kn_ok d sc_right (fun _ => rfl) (fun i s h => by simp at h; rcases h with rfl | rfl | rfl <;> exact id) fun f cdv A outer s H E o i => ?_
  obtain ⟨ks, ts, tb, hm4⟩ := i
  have hk8 := tb.k8
  have htl : (ts.map eTy).length = ts.length := List.length_map ..
  refine wPar (i := 3) (j := 4) (s := .d (tbD CT ⟨(ks, ts), tb_iff.mpr tb⟩)) o (wMake g1 o (aa2 (vv 1) (vv 2)) ⟨(ks, ts), tb_iff.mpr tb⟩) (wCallE g2 o (aa2 (vv 1) (vv 2)) ⟨(ks, ts), tb_iff.mpr tb⟩) ?_
  refine ass_parM (i := 5) (j := 6) (P1 := (· = .d (courtM CF CC ks.length ts))) (P2 := fun s => ∃ st : List Int, st.length = ks.length ∧ s = .d (tupI st)) o (wCallE g3 o (aa1 (vv 3)) ⟨(ks, ts), tb_iff.mpr tb⟩)
    (wTupG T.tuple (LcJ.ae (P := fun s => ∃ st : List Int, st.length = ks.length ∧ s = .own (st.map D.int)) (wLcG (ds := ks.map D.str) [("_law_kind", 7)] (ix := [7]) o (by rw [List.length_map]; omega) (fun k δ => δ.set 7 (some (.d (.str (ks.getD k ""))))) (fun _ b => b = true) (fun k e => ∃ r : Int, e = .int r) (fun k acc => ∃ l : List Int, l.length = k ∧ acc = l.map D.int) (ai_tup (vv 1)).toI (fun s H C cl fp k d hd => ?_) (fun s H C cl fp k d hd => ats_nil)
      (fun s H C cl fp k d hd _ => AE.weak (wCall g4 (o.blk ..) (aa2 (vv 0) (AEq.l (ae_lst (ds := [.int 0, .int 1, .int 1, .int 2]) (aa_cons ae_int (aa_cons ae_int (aa_cons ae_int (aa_cons ae_int aa_nil)))) (by decide)))) ⟨[.int 0, .int 1, .int 1, .int 2], by simp, by decide⟩) fun s z => ?_) ⟨[], rfl, rfl⟩ (fun k acc e hk h _ he => ?_) (fun k acc hk h z => nomatch z) (fun acc h => ?_)) o) fun s z => ?_)
    (fun s z ds e => ?_) (fun s z ds e => ?_) fun s u z1 z2 => ?_
  · have hk : k < ks.length := by
      have := (List.getElem?_eq_some_iff.mp hd).1
      rwa [List.length_map] at this
    rw [get_map (f := D.str) (d := "") hk] at hd
    cases hd
    exact wName (o.blk ..)
  · obtain ⟨d, hd, rfl⟩ := z
    have hd : d ∈ ([.int 0, .int 1, .int 1, .int 2] : List D) := hd
    simp only [List.mem_cons, List.not_mem_nil, or_false] at hd
    rcases hd with rfl | rfl | rfl | rfl <;> exact ⟨_, rfl, _, rfl⟩
  · obtain ⟨l, h1, rfl⟩ := h
    obtain ⟨r, rfl⟩ := he
    exact ⟨l ++ [r], by rw [List.length_append, h1] <;> rfl, by rw [List.map_append] <;> rfl⟩
  · obtain ⟨l, h1, rfl⟩ := h
    rw [List.length_map] at h1
    exact ⟨l, h1, rfl⟩
  · obtain ⟨st, h1, rfl⟩ := z
    exact ⟨_, .inl rfl, st, h1, rfl⟩
  · subst z
    cases e
  · obtain ⟨_, _, rfl⟩ := z
    cases e
  obtain ⟨st, hst, rfl⟩ := z2
  subst z1
  have hms := tb.ms hst
  have hacc := hms.ha hst
  refine ass_ifR (B := fun b => b = ((lawC ks.length ts).map eLC).isEmpty) (at_eqEL o (vo 4) (ae_lst aa_nil (by decide)) (.inr rfl)) (fun hB => ?_) fun hB => ?_
  · have hL : Lam ks.length ts := lawC_nil.mp (by
      cases q : lawC ks.length ts with
      | nil => rfl
      | cons c cs =>
        rw [q] at hB
        cases hB)
    have hcourt : courtM CF CC ks.length ts = eFo CF (forestM ks.length ts) := by
      unfold courtM
      rw [crossingsM_nil.mpr hL]
    rw [hcourt]
    obtain ⟨path, hfo, hord⟩ := forest_ok tb hL
    have hr256 := rows256 (k := 3) hm4 (by decide)
    refine wSetLcG (i := 8) (P := fun s => ∃ rows : List (List Int), (rows.length ≤ 256 ∧ ∀ r ∈ rows, r ∈ rowsM ts.length 3) ∧ s = .own (rows.map tupI)) o (wLcG (ds := (rowsM ts.length 3).map tupI) [("_law_row", 9)] (ix := [9]) o (by rw [List.length_map]; omega) (fun k δ => δ.set 9 (some (.d (tupI ((rowsM ts.length 3).getD k []))))) (fun _ _ => True) (fun k e => e = tupI ((rowsM ts.length 3).getD k [])) (fun k acc => ∃ rows : List (List Int), (rows.length ≤ k ∧ ∀ r ∈ rows, r ∈ rowsM ts.length 3) ∧ acc = rows.map tupI)
      (ai_list (wCallE g6 o (aa2 (AEq.to (wLen T.len (vv 2) .t) (t := .d (.int (ts.length : Int))) (by rw [htl])) ae_int) ⟨(ts.length, 3), hm4, by show 3 ≤ 4; decide⟩) (.inl rfl)) (fun s H C cl fp k d hd => ?_) (fun s H C cl fp k d hd => ats_one (AT.weak (at_eqG (wCall g5 (o.blk ..) (aa2 (vv 0) ae_int) ⟨3, by decide, by decide⟩) ae_int fun s ⟨r, _, e⟩ => ⟨r, e⟩) fun _ _ => trivial)) (fun s H C cl fp k d hd _ => AE.weak (vv 9) fun s e => ⟨_, e, rfl⟩)
      ⟨[], ⟨Nat.le_refl _, (fun r h => nomatch h)⟩, rfl⟩ (fun k acc e hk h _ he => ?_) (fun k acc hk h _ => ?_) fun acc h => ?_) (fun s z => ?_) (fun s z ds e => ?_)
    · have hk : k < (rowsM ts.length 3).length := by
        have := (List.getElem?_eq_some_iff.mp hd).1
        rwa [List.length_map] at this
      rw [get_map (f := tupI) (d := []) hk] at hd
      cases hd
      exact wName (o.blk ..)
    · obtain ⟨rows, ⟨h1, h2⟩, rfl⟩ := h
      subst he
      rw [List.length_map] at hk
      refine ⟨rows ++ [(rowsM ts.length 3).getD k []], ⟨by rw [List.length_append]; show rows.length + 1 ≤ _; omega, fun r hr => ?_⟩, by rw [List.map_append] <;> rfl⟩
      rcases List.mem_append.mp hr with hr | hr
      · exact h2 r hr
      · rw [List.mem_singleton.mp hr, ← getD_get (d := ([] : List Int)) hk]
        exact List.getElem_mem hk
    · obtain ⟨rows, ⟨h1, h2⟩, rfl⟩ := h
      exact ⟨rows, ⟨by omega, h2⟩, rfl⟩
    · obtain ⟨rows, ⟨h1, h2⟩, rfl⟩ := h
      rw [List.length_map] at h1
      exact ⟨rows, ⟨by omega, h2⟩, rfl⟩
    · obtain ⟨rows, ⟨hrl, hrm⟩, rfl⟩ := z
      have hca : CaOk 3 ts st st [] rows := ⟨hms, rfl, (fun x h => nomatch h), by decide, fun r hr => by
        have := rows_ok ts.length 3 r (hrm r hr)
        exact ⟨this.2, by omega⟩, by omega⟩
      have hcan : canM setS (accT ts) st 3 st [] rows = true := can_up (fun xs x h => (setS_mem x xs).mp h) hacc hord hst 3 st [] rows .nil (fun x h => nomatch h) fun r hr => (hca.rw_ r hr).1
      refine ass_skip (ATq.to (aw_or (at_not (atv (wIsiC true T.isi (vv 5) (wCls Z.mF) Z.iF Z.kFF))) fun _ => aw_or1 (at_not (atv (wCallE (g7 3) o (aa_cons (vv 2) (aa_cons (vv 6) (aa_cons (vv 6) (aa_cons (AEq.l (ae_lst (ds := []) aa_nil (by decide))) (aa_cons (vo 8) aa_nil))))) ⟨ts, st, st, [], rows, hca⟩)))).pt (by
        show (!true || !canM setS (accT ts) st 3 st [] rows) = false
        rw [hcan] <;> rfl)) ?_
      have hlen : S.d (.int (if decide ((3 : Int) < ((ts.map eTy).length : Int)) = true then 3 else 4)) = S.d (.int ((if 3 < ts.length then 3 else 4 : Nat) : Int)) := by
        rw [htl]
        congr 2
        by_cases q : 3 < ts.length
        · rw [if_pos q, if_pos (decide_eq_true (by omega))] <;> rfl
        · rw [if_neg q, if_neg (by simp; omega)] <;> rfl
      refine ass_one (wRet (wCallE g8 o (aa_cons (vv 0) (aa_cons (vv 5) (aa_cons (vv 2) (aa_cons (vv 6) (aa_cons (AEq.to (ae_if (s := .d (.int 3)) (t := .d (.int 4)) (at_gt (wLen T.len (vv 2) .t) ae_int) (fun _ => ae_int) fun _ => ae_int) (Eq.trans (by split <;> rfl) hlen)) aa_nil))))) ⟨forestM ks.length ts, ts, st, if 3 < ts.length then 3 else 4, ks.length, ts.length, path, hfo, hst, by omega, hms, rfl, hm4, by split <;> decide, hord⟩) rfl)
    · obtain ⟨_, _, rfl⟩ := z
      cases e
  · have hnL : ¬ Lam ks.length ts := fun hL => by
      rw [lawC_nil.mpr hL] at hB
      cases hB
    have hcr : ∃ c cs, crossingsM ks.length ts = c :: cs := by
      cases q : crossingsM ks.length ts with
      | nil => exact absurd (crossingsM_nil.mp q) hnL
      | cons c cs => exact ⟨c, cs, rfl⟩
    obtain ⟨c, cs, hcs⟩ := hcr
    have hcourt : courtM CF CC ks.length ts = eCr CC c := by
      unfold courtM
      rw [hcs]
    obtain ⟨k, l, hkl, hl, hcat⟩ := crossingsM_mem.mp (show c ∈ crossingsM ks.length ts by rw [hcs]; exact List.mem_cons_self)
    obtain ⟨cf, cm, cy, rfl, hf, hm, hy, hday⟩ := cross_day tb hkl hl hcat
    rw [hcourt]
    refine ass_skip (atv (wIsiC false T.isi (vv 5) (wCls Z.mF) Z.iC Z.kCF)) ?_
    have hsl := stock_len ks.length [nI k, nI l]
    have hms2 := tb.ms hsl
    refine wUn (ix := [6, 8]) (up := fun δ => (δ.set 6 (some (.d (tupI (stockM ks.length [nI k, nI l]))))).set 8 (some (.d (.tup [tupI [cf, cm], tupI [cf, cy]])))) (ds := [tupI (stockM ks.length [nI k, nI l]), .tup [tupI [cf, cm], tupI [cf, cy]]]) (wCallE g9 o (aa2 (vv 3) (vv 5)) (⟨(ks, ts), tb_iff.mpr tb⟩, ([nI k, nI l], cf, cm, cy))) (wTg2 o) ?_
    have hca : CaOk 3 ts (stockM ks.length [nI k, nI l]) (stockM ks.length [nI k, nI l]) [] [[cf, cm], [cf, cy]] := ⟨hms2, rfl, (fun x h => nomatch h), by decide, fun r hr => by
      simp only [List.mem_cons, List.not_mem_nil, or_false] at hr
      rcases hr with rfl | rfl
      · exact ⟨fun x hx => by
          simp only [List.mem_cons, List.not_mem_nil, or_false] at hx
          rcases hx with rfl | rfl
          · exact hf
          · exact hm, by show 2 ≤ 3; decide⟩
      · exact ⟨fun x hx => by
          simp only [List.mem_cons, List.not_mem_nil, or_false] at hx
          rcases hx with rfl | rfl
          · exact hf
          · exact hy, by show 2 ≤ 3; decide⟩, by show 2 ≤ 1000; decide⟩
    refine ass_one (wRet (ae_and (ae_not (wCallE (g7 3) o (aa_cons (vv 2) (aa_cons (vv 6) (aa_cons (vv 6) (aa_cons (AEq.l (ae_lst (ds := []) aa_nil (by decide))) (aa_cons (AEq.l (wList T.list (vv 8) .t)) aa_nil))))) ⟨ts, stockM ks.length [nI k, nI l], stockM ks.length [nI k, nI l], [], [[cf, cm], [cf, cy]], hca⟩)) fun _ => ae_one (ae_eqI (wSumT o T.sum (vv 6)) ae_int)) ?_)
    show S.d (.bl (!canM setS (accT ts) (stockM ks.length [nI k, nI l]) 3 (stockM ks.length [nI k, nI l]) [] [[cf, cm], [cf, cy]] && decide ((stockM ks.length [nI k, nI l]).sum = 2))) = S.d (.bl true)
    rw [hday 1 (hms2.ha hsl), stock_sum hkl hl] <;> rfl
end
end NR
namespace NR
open PySem PySem.Spec PyProof.Rows L2
theorem lot_full {n : Nat} {l : List Int} (h : LotIn n l) (hne : (l.length : Int) ≠ (n : Int)) : leftM n l ≠ [] := fun z => by
  have h1 : ∀ k ∈ (List.range n).map nI, k ∈ l := fun k hk => by
    obtain ⟨a, ha, rfl⟩ := List.mem_map.mp hk
    have ha := List.mem_range.mp ha
    refine Classical.byContradiction fun hn => ?_
    have : nI a ∈ leftM n l := leftM_mem.mpr ⟨⟨by unfold nI; omega, by unfold nI; omega⟩, hn⟩
    rw [z] at this
    cases this
  have h2 := nodup_sub_le (pw_nodup (range_pw n)) h1
  rw [List.length_map, List.length_range] at h2
  have := lot_len h
  omega
theorem bl_iff {a b : Bool} (h : a = true ↔ b = true) : decide (a = b) = true := by
  cases a <;> cases b <;> simp at h ⊢
section
variable {P : Program} {w : World} {K : PySem.W.Frag} {mg : Str → Option Value} {base : Heap} {oa ia : Addr} {CT CF CC : Addr}
abbrev Kless (P : Program) (w : World) (K : PySem.W.Frag) (mg : Str → Option Value) (base : Heap) (oa ia : Addr) := Kn P w K mg base (WH oa ia) 10 "_law_less_right" ["_law_heap_here", "_law_kinds", "_law_types"] (fun i : TbX => [.hp, .d (eNames i.1.1), .d (eTys i.1.2)]) (fun _ s => s = .d (.bl true))
theorem sc_less : FnScope ["_law_heap_here", "_law_kinds", "_law_types", "_law_table", "_law_crossings_here", "_law_told", "_law_lot_here", "_law_some", "_law_three", "_law_pair", "_law_at", "_law_kind"] ["_law_heap_here", "_law_kinds", "_law_types"] (defScope (top 62)) := ⟨rfl, rfl, rfl, by decide +kernel, rfl, by decide +kernel, by decide +kernel⟩
theorem lawC_three {n : Nat} {ts : List Ty} {c : List Int × List Int} (h : c ∈ lawC n ts) : c.1.length ≤ 3 ∧ c.2.length ≤ 3 := by
  obtain ⟨k, l, _, _, hc⟩ := lawC_mem.mp h
  obtain ⟨f, m, y, _, _, _, rfl⟩ := crossAt_mem.mp hc
  exact ⟨by show 2 ≤ 3; decide, by show 3 ≤ 3; decide⟩
theorem ok_less (T : Tx mg) (Z : Cz K mg CT CF CC) (d : Df K mg "_law_less_right" (top 62) ["_law_heap_here", "_law_kinds", "_law_types"]) (g1 : KTable P w K mg base (WH oa ia) CT) (g2 : Klcross P w K mg base (WH oa ia)) (g3 : KisForest P w K mg base (WH oa ia) CT) (g4 : KjoinedKinds P w K mg base (WH oa ia) CT) (g5 : KjoinedTypes P w K mg base (WH oa ia) CT) (g6 : Klot P w K mg base oa ia) (g7 : KwithoutTypes P w K mg base (WH oa ia) CT) (g8 : KwithoutKinds P w K mg base (WH oa ia) CT) : Kless P w K mg base oa ia := by
  refine kn_ok d sc_less (fun _ => rfl) (fun i s h => by simp at h; rcases h with rfl | rfl | rfl <;> exact id) fun f cdv A outer s H E o i => ?_
  obtain ⟨⟨ks, ts⟩, htb⟩ := i
  have tb : Tb ks ts := tb_iff.mp htb
  have hk1 : 1 ≤ ks.length := tb.k1
  have hk8 : ks.length ≤ 8 := tb.k8
  have ht12 : ts.length ≤ 12 := tb.t12
  have htl : (ts.map eTy).length = ts.length := List.length_map ..
  have hkl : (ks.map D.str).length = ks.length := List.length_map ..
  have hne := left_ne hk1 (jkM ks.length ts)
  have hjk := wk_ok tb hne
  have hjt := wt_ok tb (othersM (jtM ts))
  have hn1 : (wkNames (leftM ks.length (othersM (jkM ks.length ts))) ks).length = (leftM ks.length (othersM (jkM ks.length ts))).length := by
    unfold wkNames
    rw [List.length_map]
  have hCl : (lawC ks.length ts).length ≤ 100000 := by
    unfold lawC
    refine Nat.le_trans (flat_len (c := 7 * 1728) fun k _ => ?_) ?_
    · unfold lawR
      refine Nat.le_trans (flat_len (c := 1728) fun l _ => crossAt_len ⟨(ks, ts), htb⟩ _) (Nat.mul_le_mul ?_ (Nat.le_refl _))
      unfold restR
      rw [List.length_map, List.length_range]
      omega
    · rw [List.length_range]
      exact Nat.le_trans (Nat.mul_le_mul hk8 (Nat.le_refl _)) (by decide)
  have htold : ∀ b : Bool, (b = true ↔ Lam ks.length ts) → decide (b = ((lawC ks.length ts).map eLC).isEmpty) = true := fun b hb => bl_iff (by rw [hb, List.isEmpty_map, List.isEmpty_iff, lawC_nil])
  refine wPar (i := 3) (j := 4) (s := .d (tbD CT ⟨(ks, ts), htb⟩)) o (wMake g1 o (aa2 (vv 1) (vv 2)) ⟨(ks, ts), htb⟩) (wCallE g2 o (aa2 (vv 1) (vv 2)) ⟨(ks, ts), htb⟩) ?_
  refine wSet (i := 5) o (ae_eqEL o (vo 4) (ae_lst aa_nil (by decide)) (.inr rfl)) ?_
  refine ass_skip (ATq.to (aw_or (at_neB (wCallE g3 o (aa1 (wIx (d := tbD CT ⟨(wkNames (leftM ks.length (othersM (jkM ks.length ts))) ks, wkTys (leftM ks.length (othersM (jkM ks.length ts))) (othersM (jkM ks.length ts)) ts), tb_iff.mpr hjk⟩) 0 (wCallE g4 o (aa1 (vv 3)) ⟨(ks, ts), htb⟩) ae_int .t rfl)) ⟨(wkNames (leftM ks.length (othersM (jkM ks.length ts))) ks, wkTys (leftM ks.length (othersM (jkM ks.length ts))) (othersM (jkM ks.length ts)) ts), tb_iff.mpr hjk⟩) (vv 5)) fun _ => aw_or1 (at_neB (wCallE g3 o (aa1 (wIx (d := tbD CT ⟨(ks, wtM ts (othersM (jtM ts))), tb_iff.mpr hjt⟩) 0 (wCallE g5 o (aa1 (vv 3)) ⟨(ks, ts), htb⟩) ae_int .t rfl)) ⟨(ks, wtM ts (othersM (jtM ts))), tb_iff.mpr hjt⟩) (vv 5))).pt ?_) ?_
  · show (!decide (isForestM (wkNames (leftM ks.length (othersM (jkM ks.length ts))) ks).length (wkTys (leftM ks.length (othersM (jkM ks.length ts))) (othersM (jkM ks.length ts)) ts) = ((lawC ks.length ts).map eLC).isEmpty) || !decide (isForestM ks.length (wtM ts (othersM (jtM ts))) = ((lawC ks.length ts).map eLC).isEmpty)) = false
    rw [htold _ (by rw [hn1, isForest_iff, lam_jk tb]), htold _ (by rw [isForest_iff, lam_jt])] <;> rfl
  refine wSetG (P := fun s => ∃ l : List Int, LotIn ts.length l ∧ s = .d (tupI l)) (i := 6) o (wCall g6 o (aa3 (vv 0) (AEq.to (wLen T.len (vv 2) .t) (t := .d (.int (ts.length : Int))) (by rw [htl])) ae_int) (⟨ts.length, by omega⟩, ⟨2, by decide, by decide⟩)) (fun s z => ?_) (fun s z ds e => by obtain ⟨r, _, rfl⟩ := z; cases e)
  obtain ⟨lot, hlot, rfl⟩ := z
  have hll := lot_len hlot
  refine wSetLc (i := 7) (s := .own (((lawC ks.length ts).filter fun c => c.2.all fun a => !decide (a ∈ lot)).map fun c => tupI c.2)) o (wLc (xs := lawC ks.length ts) (enc := eLC) [("_law_pair", 9), ("_law_three", 8)] (ix := [9, 8]) (fun c => c.2.all fun a => !decide (a ∈ lot)) (fun c => tupI c.2) (fun c δ => (δ.set 9 (some (.d (tupI c.1)))).set 8 (some (.d (tupI c.2)))) o hCl (ai_list (vo 4) (.inr rfl)) (fun s H C cl fp x => wTg2 (o.blk ..))
    (fun s H C cl fp c hc => ats_one (ATq.to (atv (wAll (o.blk ..) T.all (wLcB (xs := c.2) (enc := D.int) [("_law_at", 10)] (fun a => !decide (a ∈ lot)) (fun a δ => δ.set 10 (some (.d (.int a)))) (o.blk ..) (by have := (lawC_three hc).2; omega) (ai_tup (vv 8)).toI (fun s H C cl fp x => wName ((o.blk ..).blk ..)) fun s H C cl fp x _ => wNiI (vv 10) (vv 6) .t) (.inl rfl))) (map_id_all _ _))) (fun s H C cl fp c hc _ => vv 8)) ?_
  refine ass_skip (ATq.to (at_neB (wCallE g3 o (aa1 (wCallE g7 o (aa2 (vv 3) (vv 6)) (⟨(ks, ts), htb⟩, ⟨lot, by omega⟩))) ⟨(ks, wtM ts lot), tb_iff.mpr (wt_ok tb lot)⟩) (ae_eqEL o (vo 7) (ae_lst aa_nil (by decide)) (.inr rfl))) ?_) ?_
  · show (!decide (isForestM ks.length (wtM ts lot) = (((lawC ks.length ts).filter fun c => c.2.all fun a => !decide (a ∈ lot)).map fun c => tupI c.2).isEmpty)) = false
    rw [bl_iff (by rw [isForest_iff, List.isEmpty_map]; exact lam_wt)] <;> rfl
  refine wSetG (P := fun s => ∃ l : List Int, LotIn ks.length l ∧ s = .d (tupI l)) (i := 6) o (wCall g6 o (aa3 (vv 0) (AEq.to (wLen T.len (vv 1) .t) (t := .d (.int (ks.length : Int))) (by rw [hkl])) ae_int) (⟨ks.length, by omega⟩, ⟨3, by decide, by decide⟩)) (fun s z => ?_) (fun s z ds e => by obtain ⟨r, _, rfl⟩ := z; cases e)
  obtain ⟨lot2, hlot2, rfl⟩ := z
  have hll2 := lot_len hlot2
  have hl2l : (lot2.map D.int).length = lot2.length := List.length_map ..
  refine wSetLc (i := 7) (s := .own (((lawC ks.length ts).filter fun c => c.1.all fun a => !decide (a ∈ lot2)).map fun c => tupI c.1)) o (wLc (xs := lawC ks.length ts) (enc := eLC) [("_law_pair", 9), ("_law_three", 8)] (ix := [9, 8]) (fun c => c.1.all fun a => !decide (a ∈ lot2)) (fun c => tupI c.1) (fun c δ => (δ.set 9 (some (.d (tupI c.1)))).set 8 (some (.d (tupI c.2)))) o hCl (ai_list (vo 4) (.inr rfl)) (fun s H C cl fp x => wTg2 (o.blk ..))
    (fun s H C cl fp c hc => ats_one (ATq.to (atv (wAll (o.blk ..) T.all (wLcB (xs := c.1) (enc := D.int) [("_law_kind", 11)] (fun a => !decide (a ∈ lot2)) (fun a δ => δ.set 11 (some (.d (.int a)))) (o.blk ..) (by have := (lawC_three hc).1; omega) (ai_tup (vv 9)).toI (fun s H C cl fp x => wName ((o.blk ..).blk ..)) fun s H C cl fp x _ => wNiI (vv 11) (vv 6) .t) (.inl rfl))) (map_id_all _ _))) (fun s H C cl fp c hc _ => vv 9)) ?_
  refine ass_one (wRet (AEq.to (ae_or (q := true) (ae_eqI (wLen T.len (vv 6) .t) (wLen T.len (vv 1) .t)) fun hz => ae_one ?_) (congrArg (fun b => S.d (.bl b)) (Bool.or_true _))) rfl)
  have hz : (lot2.length : Int) ≠ (ks.length : Int) := fun e => by
    refine of_decide_eq_false hz ?_
    rw [hl2l, hkl]
    exact e
  have hne2 := lot_full hlot2 hz
  have hwk := wk_ok tb hne2
  have hn2 : (wkNames (leftM ks.length lot2) ks).length = (leftM ks.length lot2).length := by
    unfold wkNames
    rw [List.length_map]
  refine AEq.to (ae_eqB (wCallE g3 o (aa1 (wCallE g8 o (aa2 (vv 3) (vv 6)) ⟨(⟨(ks, ts), htb⟩, ⟨lot2, by omega⟩), hne2⟩)) ⟨(wkNames (leftM ks.length lot2) ks, wkTys (leftM ks.length lot2) lot2 ts), tb_iff.mpr hwk⟩) (ae_eqEL o (vo 7) (ae_lst aa_nil (by decide)) (.inr rfl))) ?_
  show S.d (.bl (decide (isForestM (wkNames (leftM ks.length lot2) ks).length (wkTys (leftM ks.length lot2) lot2 ts) = (((lawC ks.length ts).filter fun c => c.1.all fun a => !decide (a ∈ lot2)).map fun c => tupI c.1).isEmpty))) = S.d (.bl true)
  rw [bl_iff (by rw [hn2, isForest_iff, List.isEmpty_map, lam_wk tb]; exact lam_kinds)]
end
end NR
namespace NR
open PySem PySem.Spec PyProof.Rows L2
section
variable {X : Cx} {tg iter : Expr} {δ : Env} {st : Stmt} {rest body : List Stmt} {pos : Pos} {p : Post}
/-! a body that ends by giving the law's heap -/
def tH (K : PySem.W.Frag) (δ : Env) : TS := fun D σ H => ∃ B, SRs K W0 B δ σ H ∧ ∀ oa ia H', (∀ b o, B b = some o → H' b = some o) → (∃ ns st, HS oa ia ns st H') → D.rt (.ref oa) H'
theorem h_cons (M : Env → Prop) (h : AS X W0 st δ ⟨M, fun _ => False, fun _ => False, fun _ => False⟩) (t : ∀ δ', M δ' → PSs X rest (tH X.K δ')) : PSs X (st :: rest) (tH X.K δ) := by
  have t' : PSs X rest (fun D σ H => ∃ q : {δ' : Env // M δ'}, tH X.K q.1 D σ H) := pss_ex fun q => t q.1 q.2
  refine pss_weak (pss_cons h t') fun D σ H ⟨B, q1, q2⟩ => ⟨B, q1, fun B' δ' σ' H' l e m s => ⟨⟨δ', m⟩, B', s, fun oa ia H'' hb => q2 oa ia H'' fun b o e => hb b o (l b o e)⟩, fun _ _ _ _ _ _ z => z.elim, fun _ _ _ _ _ _ z => z.elim, fun _ _ _ _ _ _ z => z.elim⟩
theorem h_freeze {ds : List D} (i : Nat) (h : PSs X rest (tH X.K (δ.set i (some (.l ds))))) (e : δ[i]? = some (some (.own ds))) : PSs X rest (tH X.K δ) := pss_weak h fun D σ H ⟨B, q1, q2⟩ => by
  obtain ⟨B', l, s⟩ := q1.freeze e
  exact ⟨B', s, fun oa ia H' hb => q2 oa ia H' fun b o e => hb b o (l b o e)⟩
/-! the law's own loop: its count leans on the script -/
def tX (K : PySem.W.Frag) (ns : List Int) (oa ia : Addr) (δ : Env) (p : Post) : TS := fun D σ H => ∃ B, SRs K (WH oa ia) B δ σ H ∧ (∃ a, σ[0]? = some (some (.ref a)) ∧ SqL K H a (ns.map V.int)) ∧ Cont K (WH oa ia) p B H D
theorem x_cons {ns : List Int} {oa ia : Addr} (M : Env → Prop) (h : PS X st (tX X.K ns oa ia δ { p with N := M })) (t : ∀ δ', M δ' → ASs X (WH oa ia) rest δ' p) : PSs X (st :: rest) (tX X.K ns oa ia δ p) := by
  have t' : PSs X rest (fun D σ H => ∃ q : {δ' : Env // M δ'}, cS X.K (WH oa ia) q.1 p D σ H) := pss_ex fun q => t q.1 q.2
  refine pss_weak (pss_cons h t') fun D σ H ⟨B, q1, ex, q2⟩ => ⟨B, q1, ex, fun B' δ' σ' H' l e m s => ⟨⟨δ', m⟩, B', s, q2.on l e⟩, q2.rt, q2.bk, q2.ct⟩
def cIx (K : PySem.W.Frag) (W : Wd) (ns : List Int) (δ : Env) (ds : List D) : TI := fun σ H R => ∃ B, SRs K W B δ σ H ∧ (∃ a, σ[0]? = some (some (.ref a)) ∧ SqL K H a (ns.map V.int)) ∧ ∀ J B' H1, Le B B' → ExT H H1 → SRs K W B' δ σ H1 → ItOk K W J ds B' H1 → R J H1
theorem x_for {k : Nat} {ds : List D} {ix : List Nat} {ns : List Int} {oa ia : Addr} (I : Nat → Env → Prop) (ups : Nat → Env → Env) (o : Cok k X) (hs : ∀ x, foldedSetIterable iter X.env x = pure x) (hI : PI X tg iter (cIx X.K (WH oa ia) ns δ ds)) (h0 : ∃ δ', I 0 δ' ∧ Fg δ δ')
    (hg : ∀ (i : Nat) d, ds[i]? = some d → AG X tg ix d (ups i)) (hb : ∀ (i : Nat) d δ', ds[i]? = some d → I i δ' → ASs X (WH oa ia) body (ups i δ') ⟨I (i + 1), p.R, p.N, I (i + 1)⟩) (hend : ∀ δ', I ds.length δ' → p.N δ') : PS X (.For tg iter body [] pos) (tX X.K ns oa ia δ p) := by
  have g : PG X tg (fun v σ H Q => ∃ q : {p : Nat × NR.D // ds[p.1]? = some p.2}, cG X.K ix q.1.2 (ups q.1.1) v σ H Q) := ⟨fun pins s1 σ1 H1 v u Q I r z => by
    obtain ⟨q, z⟩ := z
    exact (hg q.1.1 q.1.2 q.2).run pins s1 σ1 H1 v u Q I r z⟩
  have bd : PSs X body (fun D σ H => ∃ q : {q : Nat × NR.D × Env // ds[q.1]? = some q.2.1 ∧ I q.1 q.2.2}, cS X.K (WH oa ia) (ups q.1.1 q.1.2.2) ⟨I (q.1.1 + 1), p.R, p.N, I (q.1.1 + 1)⟩ D σ H) := pss_ex fun q => hb q.1.1 q.1.2.1 q.1.2.2 q.2.1 q.2.2
  refine ps_weak (ps_for o.own o.calm hI g bd hs) fun D σ H ⟨B, q1, ex, q2⟩ => ⟨B, q1, ex, fun J B1 H1 l1 x1 s1 it => ?_⟩
  obtain ⟨δ0, i0, f0⟩ := h0
  refine ⟨fun i m σ' H' => m = ds.length - i ∧ i ≤ ds.length ∧ ∃ B' δ', Le B1 B' ∧ ExT H1 H' ∧ I i δ' ∧ SRs X.K (WH oa ia) B' δ' σ' H', ⟨ds.length, by simp, Nat.zero_le _, B1, δ0, .refl B1, .refl H1, i0, s1.fg f0⟩, ?_⟩
  rintro i m σ' H' ⟨rfl, hi, B', δ', l2, x2, ii, s2⟩
  have sb : Sub (WH oa ia) B1 H' := fun b o nb z => s2.sub b o nb (l2 b o z)
  by_cases hlt : i < ds.length
  · have hd : ds[i]? = some ds[i] := List.getElem?_eq_getElem hlt
    refine .inr ⟨it.go i _ H' hd s2.j sb x2, fun σ'' H'' => i + 1 ≤ ds.length ∧ ∃ B'' δ'', Le B1 B'' ∧ ExT H1 H'' ∧ I (i + 1) δ'' ∧ SRs X.K (WH oa ia) B'' δ'' σ'' H'', fun σ'' H'' w => ⟨ds.length - (i + 1), by omega, rfl, w⟩, fun x H2 y => ?_⟩
    obtain ⟨f2, rx⟩ := it.yld i _ H' x H2 hd s2.j sb x2 y
    refine ⟨⟨(i, ds[i]), hd⟩, rx, fun σ2 u => ⟨⟨(i, ds[i], δ'), hd, ii⟩, B', u.srs (WH oa ia) B' _ (s2.fr f2), ?_⟩⟩
    have x3 : ExT H1 H2 := x2.trans (f2.ext s2.j)
    exact ⟨fun B3 δ3 σ3 H3 l3 x4 n s3 => ⟨hlt, B3, δ3, l2.trans l3, x3.trans x4, n, s3⟩,
      fun B3 s v H3 l3 x4 n s3 => q2.rt B3 s v H3 ((l1.trans l2).trans l3) ((x1.trans x3).trans x4) n s3,
      fun B3 δ3 σ3 H3 l3 x4 n s3 => q2.nx B3 δ3 σ3 H3 ((l1.trans l2).trans l3) ((x1.trans x3).trans x4) n s3,
      fun B3 δ3 σ3 H3 l3 x4 n s3 => ⟨hlt, B3, δ3, l2.trans l3, x3.trans x4, n, s3⟩⟩
  · have e : i = ds.length := by omega
    subst e
    exact .inl ⟨it.stop _ H' (Nat.le_refl _) s2.j sb x2, q2.nx B' δ' σ' H' (l1.trans l2) (x1.trans x2) (hend δ' ii) s2⟩
/-- what is read where nothing is hidden may be read here -/
theorem x_iter {ds : List D} {ns : List Int} {oa ia : Addr} (hl : 0 < δ.length) (h : AI0 X W0 tg iter (some (.l (ns.map D.int)) :: List.replicate (δ.length - 1) none) ds) : PI X tg iter (cIx X.K (WH oa ia) ns δ ds) := pi_weak h fun σ H R ⟨B, q1, ⟨a, e1, e2⟩, q2⟩ => by
  refine ⟨⟨trivial, by rw [q1.len, List.length_cons, List.length_replicate]; omega, fun i s z => ?_⟩, fun J H1 f k => ?_⟩
  · cases i with
    | zero =>
      cases z
      exact ⟨_, e1, a, _, rfl, e2, fun z => z, RpL.of_ints ns⟩
    | succ i =>
      have z' : (List.replicate (δ.length - 1) (none : Option S))[i]? = some (some s) := z
      have := (List.mem_replicate.mp (List.mem_of_getElem? z')).2
      cases this
  · obtain ⟨ms, st, hs⟩ := q1.j
    have up : ∀ {H1 H2 : Hp}, Fr W0 H1 H2 → (WH oa ia).J H1 → Fr (WH oa ia) H1 H2 := fun f j => ⟨fun b o _ e => f.1 b o (fun z => z) e, by
      obtain ⟨ms, st, hs⟩ := j
      exact ⟨ms, st, f.1 _ _ (fun z => z) hs.h1, f.1 _ _ (fun z => z) hs.h2, hs.ln⟩⟩
    have fu := up f q1.j
    refine q2 J B H1 (.refl B) (fu.ext q1.j) (q1.fr fu) ?_
    classical
    have it := k (fun b => if (WH oa ia).bd b then none else B b)
    have sb : ∀ {H' : Hp}, Sub (WH oa ia) B H' → Sub W0 (fun b => if (WH oa ia).bd b then none else B b) H' := fun {H'} s b o _ z => by
      have z : (if (WH oa ia).bd b then none else B b) = some o := z
      by_cases q : (WH oa ia).bd b
      · rw [if_pos q] at z
        cases z
      · rw [if_neg q] at z
        exact s b o q z
    exact ⟨fun i d H' hd j s ex => it.go i d H' hd trivial (sb s) ex, fun i d H' x H'' hd j s ex y => by
      obtain ⟨f2, r⟩ := it.yld i d H' x H'' hd trivial (sb s) ex y
      exact ⟨up f2 j, r⟩, fun i H' hi j s ex => it.stop i H' hi trivial (sb s) ex⟩
end
def cellM (c : Int) : Int := 2 * (if c < 0 then -c else c) + (if decide (c < 0) = true then 1 else 0)
def spHeap (K : PySem.W.Frag) : Sp := fun vs H Q _ => ∃ (a : Addr) (ns : List Int), vs = [.ref a] ∧ SqL K H a (ns.map V.int) ∧ ns.length ≤ 63 ∧ ∀ oa ia H', (∀ b o, H b = some o → H' b = some o) → (∃ ns st, HS oa ia ns st H') → Q (.ref oa) H'
section
variable {P : Program} {w : World} {K : PySem.W.Frag} {mg : Str → Option Value} {base : Heap}
theorem sc_heap : FnScope ["_law_script", "_law_cells", "_law_stir", "_law_cell"] ["_law_script"] (defScope (top 46)) := ⟨rfl, rfl, rfl, by decide +kernel, rfl, by decide +kernel, by decide +kernel⟩
theorem ok_heap {f : Addr} {fd : FuncData} (T : Tx mg) (F : Fun K "_law_heap" "_law_heap" (top 46) f fd) : FnOk P w K mg base CX0 1 f fd ["_law_script"] (spHeap K) := by
  refine F.ok sc_heap (fun vs H Q E z => ?_) (fun cdv A outer s H vs Q E hr z => ?_)
  · obtain ⟨_, _, rfl, _⟩ := z
    rfl
  · obtain ⟨a, ns, rfl, hS, hlen, q⟩ := z
    have o : Cok 0 (BX P w K mg base ["_law_script", "_law_cells", "_law_stir", "_law_cell"] "_law_heap" (top 46) f cdv A outer s H E) := ⟨rfl, sc_heap.nd, hr, rfl⟩
    refine ⟨tH K [some (.l (ns.map D.int)), none, none, none], ?_, H, ⟨trivial, rfl, fun b o _ e => e, fun i s z => ?_, fun i k s t a n e1 e2 m1 => ?_⟩, fun oa ia H' hb hh => q oa ia H' hb hh⟩
    · have hl60 : ((ns.map D.int).take 60).length ≤ 60 := List.length_take_le ..
      refine h_cons (fun δ' => ∃ st : Int, δ' = [some (.l (ns.map D.int)), some (.own (((ns.take 60).map cellM).map D.int)), some (.d (.int st)), none])
        (ps_weak (ps_par (i := 1) (j := 2) o.calm o.nd rfl rfl (by decide) rfl rfl (pa_cons (LcJ.aq (W := W0) (δ := [some (.l (ns.map D.int)), none, none, none]) (s := .own ((ns.take 60).map fun c => D.int (cellM c))) (t := .own (((ns.take 60).map cellM).map D.int)) (wLcA (xs := ns.take 60) (enc := D.int) [("_law_cell", 3)] (ix := [3]) (fun c => .int (cellM c)) (fun c δ => δ.set 3 (some (.d (.int c)))) o (Nat.le_trans (List.length_take_le ..) (by decide))
          ((ai_list (ae_slToL (vv 0) ae_int rfl) (.inl rfl)).eq (by rw [List.map_take] <;> rfl)) (fun s H C cl fp x => wName (o.blk ..)) (fun s H C cl fp c hc => ae_add (ae_mul ae_int (wB call_abs PyProof.Rows.boot_abs T.abs (aa1 (vv 3)) cd_abs) (.inl (by decide))) (wT call_int1 PyProof.Rows.boot_int T.int (aa1 (ae_lt (vv 3) ae_int)) cd_intB))) o (own_eq (by rw [List.map_map] <;> rfl))) (pa_cons (ae_int (W := W0) (δ := [some (.l (ns.map D.int)), none, none, none])) pa_nil)) (by kernel_rfl) (by rfl)) fun D σ H ⟨B, q1, q2⟩ => ⟨q1.sr, fun s v H1 f r z => ⟨(q1.fr f).sr, fun u w H2 f2 r2 z2 => ?_⟩⟩) fun δ' z => ?_
      · subst z z2
        have s1 := q1.setR (i := 1) f r (fun ds e => nomatch e)
        have s2 := s1.setR (i := 2) f2 r2 (fun ds e => nomatch e)
        exact ⟨v, w, rfl, q2.nx B _ _ H2 (.refl B) ((f.trans f2).ext q1.j) ⟨_, rfl⟩ s2⟩
      · obtain ⟨st, rfl⟩ := z
        refine h_freeze 1 ?_ rfl
        refine h_cons (fun δ' => ∃ st : Int, δ' = [some (.l (ns.map D.int)), some (.l (((ns.take 60).map cellM).map D.int)), some (.d (.int st)), none])
          (as_for (ds := ((ns.take 60).map cellM).map D.int) (I := fun i δ' => ∃ st : Int, δ' = [some (.l (ns.map D.int)), some (.l (((ns.take 60).map cellM).map D.int)), some (.d (.int st)), none]) (ix := [3]) (fun i δ => δ.set 3 (some (.d (.int (((ns.take 60).map cellM).getD i 0))))) o (fun _ => rfl) (ais_var (i := 1) rfl rfl (Or.inl rfl) (by decide) (by decide)) ⟨_, ⟨st, rfl⟩, .refl _⟩ (fun i d hd => ?_) (fun i d δ' hd hI => ?_) (fun δ' h => h)) fun δ' z => ?_
        · have hi : i < ((ns.take 60).map cellM).length := by
            have := (List.getElem?_eq_some_iff.mp hd).1
            rwa [List.length_map] at this
          rw [get_map (f := D.int) (d := 0) hi] at hd
          cases hd
          exact wName o
        · obtain ⟨st, rfl⟩ := hI
          exact wSet (i := 2) o (ae_mod (wInt T.int (ae_add (ae_add (ae_mul (vv 2) ae_int (.inr (by decide))) (ae_mod (wInt T.int (vv 3)) ae_int (by decide))) ae_int)) ae_int (by decide)) (ass_nil ⟨_, ⟨_, rfl⟩, by repeat' first | exact Fg.nil | apply Fg.same | apply Fg.drop⟩)
        · obtain ⟨st, rfl⟩ := z
          refine pss_one (ps_weak (ps_ret (pe_lst (pa_cons (ae_rev (W := W0) (ds := (((ns.take 60).map cellM).filter fun c => decide ((10 : Int) ^ 18 ≤ c)).map D.int) (LcJ.aq (δ := [some (.l (ns.map D.int)), some (.l (((ns.take 60).map cellM).map D.int)), some (.d (.int st)), none]) (wLc (xs := (ns.take 60).map cellM) (enc := D.int) [("_law_cell", 3)] (ix := [3]) (fun c => decide ((10 : Int) ^ 18 ≤ c)) (fun c => .int c) (fun c δ => δ.set 3 (some (.d (.int c)))) o (by rw [List.length_map]; exact Nat.le_trans (List.length_take_le ..) (by decide))
            (ai_list (vv 1) (.inr rfl)) (fun s H C cl fp x => wName (o.blk ..)) (fun s H C cl fp c hc => ats_one (at_ge (vv 3) (ae_pow ae_int ae_int (by refine ⟨?_, ?_, ?_⟩ <;> decide)))) (fun s H C cl fp c hc _ => vv 3)) o rfl)) (pa_cons (vv 2 (W := W0) (δ := [some (.l (ns.map D.int)), some (.l (((ns.take 60).map cellM).map D.int)), some (.d (.int st)), none])) pa_nil)))) fun D σ H ⟨B, q1, q2⟩ => ⟨q1.sr, fun s v H1 f r z => ⟨(q1.fr f).sr, fun u w H2 f2 r2 z2 => ⟨by show 2 ≤ sizeLine; decide, fun pp hp => ?_⟩⟩⟩)
          subst z z2
          obtain ⟨ia, vs, rfl, e1, _, e2⟩ := r.1
          rw [← List.map_reverse] at e2
          have e3 := RpL.ints e2
          subst e3
          have e4 := sv_int r2.1
          subst e4
          have h2 : H2 ia = some _ := f2.1 ia _ (fun z => z) e1
          have hne : ia ≠ pp := ne_of_none h2 hp
          refine q2 pp ia _ (fun b o' e => ?_) ⟨_, _, by rw [upd_ne hne]; exact h2, upd_same, ?_⟩
          · have e5 := f2.1 b o' (fun z => z) (f.1 b o' (fun z => z) (q1.sub b o' (fun z => z) e))
            rw [upd_ne (ne_of_none e5 hp)]
            exact e5
          · rw [List.length_reverse]
            exact Nat.le_trans (List.length_filter_le _ _) (by rw [List.length_map]; exact Nat.le_trans (List.length_take_le ..) (by decide))
    · cases i with
      | zero =>
        cases z
        exact ⟨.ref a, rfl, a, _, rfl, hS, fun z => z, RpL.of_ints ns⟩
      | succ i =>
        match i, z with
        | 0, z => cases z
        | 1, z => cases z
        | 2, z => cases z
        | i + 3, z => simp at z
    · cases i with
      | zero =>
        cases e1
        exact m1.elim
      | succ i =>
        match i, e1 with
        | 0, z => cases z
        | 1, z => cases z
        | 2, z => cases z
        | i + 3, z => simp at z
end
end NR
namespace NR
open PySem PySem.Spec PyProof.Rows L2
def ks1 : List Str := ["a", "b"]
def ts1 : List Ty := [("both", [0, 1]), ("left", [0])]
def ts2 : List Ty := [("both", [0, 1]), ("left", [0]), ("right", [1])]
theorem tb1 : tbOk ks1 ts1 = true := by decide +kernel
abbrev i1 : TbX := ⟨(ks1, ts1), tb1⟩
theorem cross1 : crossingsM 2 ts1 = [] := by decide +kernel
theorem fo1 : forestM 2 ts1 = ⟨[[0], [1]], [-1, 0], [1, 0]⟩ := by
  have h1 : (forestM 2 ts1).places = [[0], [1]] := by decide +kernel
  have h2 : (forestM 2 ts1).above = [-1, 0] := by decide +kernel
  have h3 : (forestM 2 ts1).homes = [1, 0] := by decide +kernel
  cases h : forestM 2 ts1 with
  | mk a b c =>
    rw [h] at h1 h2 h3
    simp only at h1 h2 h3
    rw [h1, h2, h3]
theorem can1 : canM setS (accT ts2) [1, 1] 2 [1, 1] [] [[0, 1], [0, 2]] = false := by decide +kernel
theorem can2 : canM setS (accT ts1) [1, 1] 2 [1, 1] [] [[0, 1], [1, 0]] = true := by decide +kernel
def caB (d : Nat) (ts : List Ty) (st left : List Int) (rows : List (List Int)) : Bool :=
  decide (ts.length ≤ 60) && decide (st.length ≤ 100) && (ts.all fun t => (t.2.all fun k => decide (0 ≤ k) && decide (k < (st.length : Int))) && decide (t.2.length ≤ 100)) && decide (left.length = st.length) && decide (d ≤ 9) &&
    (rows.all fun r => (r.all fun x => decide (0 ≤ x) && decide (x < (ts.length : Int))) && decide (r.length ≤ d)) && decide (rows.length ≤ 1000)
theorem caB_ok {d : Nat} {ts : List Ty} {st left : List Int} {rows : List (List Int)} (h : caB d ts st left rows = true) : CaOk d ts st left [] rows := by
  unfold caB at h
  simp only [Bool.and_eq_true, decide_eq_true_eq, List.all_eq_true] at h
  obtain ⟨⟨⟨⟨⟨⟨h1, h2⟩, h3⟩, h4⟩, h5⟩, h6⟩, h7⟩ := h
  exact ⟨⟨h1, h2, h3⟩, h4, (fun x hx => nomatch hx), by simpa using h5, h6, h7⟩
theorem ca1 : CaOk 2 ts2 [1, 1] [1, 1] [] [[0, 1], [0, 2]] := caB_ok (by decide +kernel)
theorem ca2 : CaOk 2 ts1 [1, 1] [1, 1] [] [[0, 1], [1, 0]] := caB_ok (by decide +kernel)
def spLaw (K : PySem.W.Frag) : Sp := fun vs H Q _ => ∃ (a : Addr) (ns : List Int), vs = [.ref a] ∧ SqL K H a (ns.map V.int) ∧ ns.length ≤ 63 ∧ ∀ H', Q (.bl true) H'
section
variable {P : Program} {w : World} {K : PySem.W.Frag} {mg : Str → Option Value} {base : Heap} {CT CF CC : Addr}
structure LawKn (P : Program) (w : World) (K : PySem.W.Frag) (mg : Str → Option Value) (base : Heap) (CT CF CC oa ia : Addr) : Prop where
  tb : KTable P w K mg base (WH oa ia) CT
  court : Kcourt P w K mg base (WH oa ia) CT CF CC
  up : KupwardKinds P w K mg base (WH oa ia) CF
  can : ∀ n, Kcan P w K mg base (WH oa ia) n
  pick : Kpick P w K mg base oa ia
  any : Kany P w K mg base oa ia
  right : Kright P w K mg base oa ia
  less : Kless P w K mg base oa ia
theorem sc_law : FnScope ["_law_script", "_law_heap_here", "_law_turn", "_law_kinds", "_law_types", "_law_one"] ["_law_script"] (defScope (top 63)) := ⟨rfl, rfl, rfl, by decide +kernel, rfl, by decide +kernel, by decide +kernel⟩
theorem pick_nat {X : Cx} {W : Wd} {e : Expr} {δ : Env} {a b c d : Nat} (h : AE X W e δ (fun s => ∃ x, x ∈ ([.int (a : Int), .int (b : Int), .int (c : Int), .int (d : Int)] : List D) ∧ s = .d x)) : AE X W e δ (fun s => ∃ n : Nat, (n = a ∨ n = b ∨ n = c ∨ n = d) ∧ s = .d (.int (n : Int))) := AE.weak h fun s z => by
  obtain ⟨x, hx, rfl⟩ := z
  simp only [List.mem_cons, List.not_mem_nil, or_false] at hx
  rcases hx with rfl | rfl | rfl | rfl
  · exact ⟨a, .inl rfl, rfl⟩
  · exact ⟨b, .inr (.inl rfl), rfl⟩
  · exact ⟨c, .inr (.inr (.inl rfl)), rfl⟩
  · exact ⟨d, .inr (.inr (.inr rfl)), rfl⟩
theorem ok_law {f fh : Addr} {fd fdh : FuncData} (T : Tx mg) (Z : Cz K mg CT CF CC) (F : Fun K "law" "law" (top 63) f fd) (Fh : FnOk P w K mg base CX0 1 fh fdh ["_law_script"] (spHeap K)) (mh : mg "_law_heap" = some (.ref fh)) (kh : PySem.W.keepIn K (.ref fh) = true) (bh : Binds K fdh ["_law_script"] []) (G : ∀ oa ia, LawKn P w K mg base CT CF CC oa ia) : FnOk P w K mg base CX0 18 f fd ["_law_script"] (spLaw K) := by
  refine F.ok sc_law (fun vs H Q E z => ?_) (fun cdv A outer s H vs Q E hr z => ?_)
  · obtain ⟨_, _, rfl, _⟩ := z
    rfl
  · obtain ⟨a, ns, rfl, hS, hlen, q⟩ := z
    have o : Cok 17 (BX P w K mg base ["_law_script", "_law_heap_here", "_law_turn", "_law_kinds", "_law_types", "_law_one"] "law" (top 63) f cdv A outer s H E) := ⟨rfl, sc_law.nd, hr, rfl⟩
    have rest : ∀ oa ia, PSs (BX P w K mg base ["_law_script", "_law_heap_here", "_law_turn", "_law_kinds", "_law_types", "_law_one"] "law" (top 63) f cdv A outer s H E) ((defBody (top 63)).drop 1) (tX K ns oa ia [none, some .hp, none, none, none, none] ⟨fun _ => False, fun s => s = .d (.bl true), fun _ => False, fun _ => False⟩) := fun oa ia => by
      have g := G oa ia
      refine x_cons (fun δ' => ∃ b c d, δ' = [none, some .hp, b, c, d, none]) (x_for (ds := (List.range (2 + 2 * (if 2 < ns.length then 1 else 0))).map fun i : Nat => D.int (i : Int)) (I := fun i δ' => δ' = [none, some .hp, none, none, none, none]) (ix := [2]) (fun i δ => δ.set 2 (some (.d (.int (i : Int))))) o (fun _ => rfl) (x_iter (by decide) (wR1 (n := 2 + 2 * (if 2 < ns.length then 1 else 0)) T.range (ae_add ae_int (ae_mul ae_int (wT call_int1 PyProof.Rows.boot_int T.int (aa1 (ae_gt (wLen T.len (vv 0) .l) ae_int)) cd_intB) (.inl (by decide)))) (by split <;> decide) ?_)) ⟨_, rfl, .refl _⟩ (fun i d hd => ?_) (fun i d δ' hd hI => ?_) (fun δ' h => ⟨_, _, _, h⟩)) fun δ' z => ?_
      · rw [List.length_map]
        by_cases h : 2 < ns.length
        · rw [if_pos h, if_pos (decide_eq_true (by omega))] <;> rfl
        · rw [if_neg h, if_neg (by simp; omega)] <;> rfl
      · have hi : i < 2 + 2 * (if 2 < ns.length then 1 else 0) := by
          have := (List.getElem?_eq_some_iff.mp hd).1
          rwa [List.length_map, List.length_range] at this
        rw [List.getElem?_map, List.getElem?_range hi] at hd
        cases hd
        exact wName o
      · subst hI
        refine wUnG (P := fun s => ∃ (ks : List Str) (ts : List Ty), (Tb ks ts ∧ ts.length ≤ 4) ∧ s = .d (.tup [eNames ks, eTys ts])) (ix := [3, 4]) (up2 3 4) (wCallG g.any o (ag3 (vv 1) (pick_nat (wCall g.pick o (aa2 (vv 1) (AEq.l (ae_lst (ds := [.int ((3 : Nat) : Int), .int ((2 : Nat) : Int), .int ((4 : Nat) : Int), .int ((1 : Nat) : Int)]) (aa_cons ae_int (aa_cons ae_int (aa_cons ae_int (aa_cons ae_int aa_nil)))) (by decide)))) ⟨_, by simp, by decide⟩)) (pick_nat (wCall g.pick o (aa2 (vv 1) (AEq.l (ae_lst (ds := [.int ((3 : Nat) : Int), .int ((4 : Nat) : Int), .int ((2 : Nat) : Int), .int ((1 : Nat) : Int)]) (aa_cons ae_int (aa_cons ae_int (aa_cons ae_int (aa_cons ae_int aa_nil)))) (by decide)))) ⟨_, by simp, by decide⟩))) fun ss z => ?_) (fun s z => ?_) (fun d z => ?_) fun d z => ?_
        · obtain ⟨s, t, u, rfl, ⟨n, hn, rfl⟩, ⟨m, hm, rfl⟩, rfl⟩ := z
          refine ⟨⟨(n, m), ⟨by show 1 ≤ n; omega, by show n ≤ 8; omega⟩, by show m ≤ 12; omega⟩, rfl, fun s z => ?_⟩
          obtain ⟨ks, ts, hp, rfl⟩ := z
          have hp : Pts n m ks ts := hp
          exact ⟨ks, ts, ⟨hp.tb (by omega) (by omega) (by omega), by rw [hp.tl]; omega⟩, rfl⟩
        · obtain ⟨_, _, _, rfl⟩ := z
          exact ⟨_, rfl⟩
        · obtain ⟨_, _, _, e⟩ := z
          cases e
          exact wTg2 o
        obtain ⟨ks, ts, ⟨htb, h4⟩, e⟩ := z
        cases e
        refine ass_skip (ATq.to (at_not (atv (wCallE g.right o (aa3 (vv 1) (vv 3) (vv 4)) ⟨ks, ts, htb, h4⟩))) rfl) ?_
        refine wUnG (P := fun s => ∃ (ks : List Str) (ts : List Ty), Tb ks ts ∧ s = .d (.tup [eNames ks, eTys ts])) (ix := [3, 4]) (up2 3 4) (wCallG g.any o (ag3 (vv 1) (pick_nat (wCall g.pick o (aa2 (vv 1) (AEq.l (ae_lst (ds := [.int ((3 : Nat) : Int), .int ((5 : Nat) : Int), .int ((8 : Nat) : Int), .int ((1 : Nat) : Int)]) (aa_cons ae_int (aa_cons ae_int (aa_cons ae_int (aa_cons ae_int aa_nil)))) (by decide)))) ⟨_, by simp, by decide⟩)) (pick_nat (wCall g.pick o (aa2 (vv 1) (AEq.l (ae_lst (ds := [.int ((3 : Nat) : Int), .int ((7 : Nat) : Int), .int ((12 : Nat) : Int), .int ((0 : Nat) : Int)]) (aa_cons ae_int (aa_cons ae_int (aa_cons ae_int (aa_cons ae_int aa_nil)))) (by decide)))) ⟨_, by simp, by decide⟩))) fun ss z => ?_) (fun s z => ?_) (fun d z => ?_) fun d z => ?_
        · obtain ⟨s, t, u, rfl, ⟨n, hn, rfl⟩, ⟨m, hm, rfl⟩, rfl⟩ := z
          refine ⟨⟨(n, m), ⟨by show 1 ≤ n; omega, by show n ≤ 8; omega⟩, by show m ≤ 12; omega⟩, rfl, fun s z => ?_⟩
          obtain ⟨ks, ts, hp, rfl⟩ := z
          have hp : Pts n m ks ts := hp
          exact ⟨ks, ts, hp.tb (by omega) (by omega) (by omega), rfl⟩
        · obtain ⟨_, _, _, rfl⟩ := z
          exact ⟨_, rfl⟩
        · obtain ⟨_, _, _, e⟩ := z
          cases e
          exact wTg2 o
        obtain ⟨ks2, ts2, htb2, e⟩ := z
        cases e
        exact ass_skip (ATq.to (at_not (atv (wCallE g.less o (aa3 (vv 1) (vv 3) (vv 4)) ⟨(ks2, ts2), tb_iff.mpr htb2⟩))) rfl) (ass_nil ⟨_, rfl, by repeat' first | exact Fg.nil | apply Fg.same | apply Fg.drop⟩)
      · obtain ⟨b, c, d, rfl⟩ := z
        have hcourt : courtM CF CC ks1.length ts1 = eFo CF ⟨[[0], [1]], [-1, 0], [1, 0]⟩ := by
          show courtM CF CC 2 ts1 = _
          unfold courtM
          rw [cross1, fo1]
        refine wSet (i := 5) (s := .d (tbD CT ⟨(ks1, ts1), tb1⟩)) o (wMake g.tb o (aa2 (ae_tup (ds := [.str "a", .str "b"]) (aa2 ae_str ae_str) (by show 2 ≤ 100; decide)) (ae_tup (ds := [.tup [.str "both", tupI [0, 1]], .tup [.str "left", tupI [0]]]) (aa2 (ae_tup (ds := [.str "both", tupI [0, 1]]) (aa2 ae_str (ae_tup (ds := [.int 0, .int 1]) (aa2 ae_int ae_int) (by show 2 ≤ 100; decide))) (by show 2 ≤ 100; decide)) (ae_tup (ds := [.str "left", tupI [0]]) (aa2 ae_str (ae_tup (ds := [.int 0]) (aa_cons ae_int aa_nil) (by show 1 ≤ 100; decide))) (by show 2 ≤ 100; decide))) (by show 2 ≤ 100; decide))) ⟨(ks1, ts1), tb1⟩) ?_
        refine ass_skip (ATq.to (aw_or (at_not (atv (wIsiC (ns := ["places", "above", "homes"]) (ds := [eLL [[0], [1]], tupI [-1, 0], tupI [1, 0]]) true T.isi (wCallD g.court o (aa1 (vv 5)) i1 hcourt) (wCls Z.mF) Z.iF Z.kFF))) fun _ => aw_or1 (at_neTI (ns := [1, 0]) (ms := [1, 0]) o (wCallE g.up o (aa2 (wCallD g.court o (aa1 (vv 5)) i1 hcourt) ae_int) ⟨(⟨[[0], [1]], [-1, 0], [1, 0]⟩, 0, [1, 0]), by decide, ⟨rfl, by decide, by decide, rfl, by decide, by decide, rfl⟩, by decide, by decide, by decide⟩) (ae_tup (ds := [.int 1, .int 0]) (aa2 ae_int ae_int) (by show 2 ≤ 100; decide)))).pt rfl) ?_
        refine ass_one (wRet (ae_and (ae_not (wCallE (g.can 2) o (aa_cons (AEq.to (ae_addT (ds := ts1.map eTy) (es := [eTy ("right", [1])]) (wFld (vv 5) Z.clT Z.tT) (ae_tup (ds := [eTy ("right", [1])]) (aa_cons (ae_tup (ds := [.str "right", tupI [1]]) (aa2 ae_str (ae_tup (ds := [.int 1]) (aa_cons ae_int aa_nil) (by show 1 ≤ 100; decide))) (by show 2 ≤ 100; decide)) aa_nil) (by show 1 ≤ 100; decide)) (by decide)) (t := .d (eTys ts2)) rfl) (aa_cons (ae_tup (ds := [.int 1, .int 1]) (aa2 ae_int ae_int) (by show 2 ≤ 100; decide)) (aa_cons (ae_tup (ds := [.int 1, .int 1]) (aa2 ae_int ae_int) (by show 2 ≤ 100; decide)) (aa_cons (AEq.l (ae_lst (ds := []) aa_nil (by decide))) (aa_cons (AEq.l (ae_lst (ds := [tupI [0, 1], tupI [0, 2]]) (aa2 (ae_tup (ds := [.int 0, .int 1]) (aa2 ae_int ae_int) (by show 2 ≤ 100; decide)) (ae_tup (ds := [.int 0, .int 2]) (aa2 ae_int ae_int) (by show 2 ≤ 100; decide))) (by show 2 ≤ 100; decide))) aa_nil))))) ⟨ts2, [1, 1], [1, 1], [], [[0, 1], [0, 2]], ca1⟩)) fun _ => ae_one
          (wCallE (g.can 2) o (aa_cons (wFld (vv 5) Z.clT Z.tT) (aa_cons (ae_tup (ds := [.int 1, .int 1]) (aa2 ae_int ae_int) (by show 2 ≤ 100; decide)) (aa_cons (ae_tup (ds := [.int 1, .int 1]) (aa2 ae_int ae_int) (by show 2 ≤ 100; decide)) (aa_cons (AEq.l (ae_lst (ds := []) aa_nil (by decide))) (aa_cons (AEq.l (ae_lst (ds := [tupI [0, 1], tupI [1, 0]]) (aa2 (ae_tup (ds := [.int 0, .int 1]) (aa2 ae_int ae_int) (by show 2 ≤ 100; decide)) (ae_tup (ds := [.int 1, .int 0]) (aa2 ae_int ae_int) (by show 2 ≤ 100; decide))) (by show 2 ≤ 100; decide))) aa_nil))))) ⟨ts1, [1, 1], [1, 1], [], [[0, 1], [1, 0]], ca2⟩)) ?_)
        show S.d (.bl (!canM setS (accT ts2) [1, 1] 2 [1, 1] [] [[0, 1], [0, 2]] && canM setS (accT ts1) [1, 1] 2 [1, 1] [] [[0, 1], [1, 0]])) = S.d (.bl true)
        rw [can1, can2] <;> rfl
    refine ⟨_, pss_cons (ps_set (i := 1) o.nd rfl (Or.inl rfl) (pe_call Fh (o.hr.mono (by decide)) rfl mh kh bh .nil pass0 (pa_cons (pv 0) pa_nil) (by decide) rfl rfl) rfl) (pss_ex fun p : Addr × Addr => rest p.1 p.2), ?_⟩
    refine ⟨.ref a, rfl, a, ns, rfl, hS, hlen, fun oa ia H' hb hh => ⟨(oa, ia), fun _ => none, ⟨hh, rfl, (fun b o' _ e => nomatch e), fun i s z => ?_, fun i k s t b n e1 e2 m1 m2 => ?_⟩, ⟨a, rfl, ?_⟩, ⟨fun _ _ _ _ _ _ z => z.elim, fun B' s v H'' _ _ e r => ?_, fun _ _ _ _ _ _ z => z.elim, fun _ _ _ _ _ _ z => z.elim⟩⟩⟩
    · match i, z with
      | 0, z => cases z
      | 1, z =>
        cases z
        exact ⟨.ref oa, rfl, rfl⟩
      | 2, z => cases z
      | 3, z => cases z
      | 4, z => cases z
      | 5, z => cases z
      | i + 6, z => simp at z
    · match i, e1 with
      | 0, z => cases z
      | 1, z =>
        cases z
        exact m1.elim
      | 2, z => cases z
      | 3, z => cases z
      | 4, z => cases z
      | 5, z => cases z
      | i + 6, z => simp at z
    · rcases hS with (h | ⟨ob, h⟩) | h
      · exact .inl (.inl (hb _ _ h))
      · exact .inl (.inr ⟨ob, hb _ _ h⟩)
      · exact .inr h
    · have e : s = .d (.bl true) := e
      subst e
      have := r.at_
      have e2 : v = .bl true := by simpa only [SVs, Rp] using this
      rw [e2]
      exact q _
end
end NR
namespace NR
open PySem PySem.Spec PyProof.Rows L2
theorem law_ok {P : Program} {w : World} {K : PySem.W.Frag} {mg : Str → Option Value} {base : Heap} {CT CF CC f : Addr} {fd : FuncData} (T : Tx mg) (Z : Cz K mg CT CF CC)
    (D7 : Df K mg "is_integer" (top 7) ["value"])
    (D8 : Df K mg "is_number" (top 8) ["value"])
    (D9 : Df K mg "is_name" (top 9) ["value"])
    (D10 : Df K mg "are_numbers" (top 10) ["value"])
    (D11 : Df K mg "is_ascending" (top 11) ["items"])
    (D12 : Df K mg "is_listing" (top 12) ["value", "bound"])
    (D16 : Df K mg "are_kinds" (top 16) ["value"])
    (D17 : Df K mg "is_type" (top 17) ["kinds", "value", "last"])
    (D19 : Df K mg "takers" (top 19) ["table", "kind"])
    (D20 : Df K mg "all_takers" (top 20) ["table"])
    (D21 : Df K mg "without_types" (top 21) ["table", "types"])
    (D22 : Df K mg "without_kinds" (top 22) ["table", "kinds"])
    (D23 : Df K mg "twin_places" (top 23) ["lots"])
    (D24 : Df K mg "joined_kinds" (top 24) ["table"])
    (D25 : Df K mg "joined_types" (top 25) ["table"])
    (D28 : Df K mg "places_of" (top 28) ["table"])
    (D29 : Df K mg "way_up" (top 29) ["forest", "place"])
    (D30 : Df K mg "upward_kinds" (top 30) ["forest", "request"])
    (D33 : Df K mg "parts_of_pair" (top 33) ["table", "one", "other"])
    (D34 : Df K mg "do_cross" (top 34) ["table", "one", "other"])
    (D35 : Df K mg "crossing_pairs" (top 35) ["table"])
    (D36 : Df K mg "crossings_of" (top 36) ["table"])
    (D37 : Df K mg "is_part" (top 37) ["one", "other"])
    (D38 : Df K mg "above_of" (top 38) ["table", "places"])
    (D39 : Df K mg "homes_in" (top 39) ["table", "places"])
    (D40 : Df K mg "court" (top 40) ["table"])
    (D41 : Df K mg "are_nested_or_apart" (top 41) ["one", "other"])
    (D42 : Df K mg "is_forest" (top 42) ["table"])
    (D44 : Df K mg "crossing_day" (top 44) ["table", "crossing"])
    (D46 : Df K mg "_law_heap" (top 46) ["_law_script"])
    (D47 : Df K mg "_law_draw" (top 47) ["_law_heap_here", "_law_many"])
    (D48 : Df K mg "_law_pick" (top 48) ["_law_heap_here", "_law_some"])
    (D49 : Df K mg "_law_names" (top 49) ["_law_heap_here", "_law_many"])
    (D50 : Df K mg "_law_lot" (top 50) ["_law_heap_here", "_law_many", "_law_share"])
    (D51 : Df K mg "_law_parts" (top 51) ["_law_heap_here", "_law_kinds", "_law_types"])
    (D52 : Df K mg "_law_forest_parts" (top 52) ["_law_heap_here", "_law_kinds", "_law_types"])
    (D53 : Df K mg "_law_any_parts" (top 53) ["_law_heap_here", "_law_kinds", "_law_types"])
    (D54 : Df K mg "_law_takers" (top 54) ["_law_kinds", "_law_types"])
    (D55 : Df K mg "_law_crossings" (top 55) ["_law_kinds", "_law_types"])
    (D56 : Df K mg "_law_most" (top 56) ["_law_types", "_law_stock", "_law_row"])
    (D57 : Df K mg "_law_can_avoid" (top 57) ["_law_types", "_law_stock", "_law_left", "_law_served_here", "_law_rows_here"])
    (D58 : Df K mg "_law_rows" (top 58) ["_law_many", "_law_length"])
    (D59 : Df K mg "_law_served" (top 59) ["_law_forest", "_law_types", "_law_stock", "_law_row"])
    (D60 : Df K mg "_law_rule_right" (top 60) ["_law_heap_here", "_law_forest", "_law_types", "_law_stock", "_law_length"])
    (D61 : Df K mg "_law_right" (top 61) ["_law_heap_here", "_law_kinds", "_law_types"])
    (D62 : Df K mg "_law_less_right" (top 62) ["_law_heap_here", "_law_kinds", "_law_types"])
    (D18 : DfC K mg "Table" (inClass (top 18) 0) CT ["self", "kinds", "types"])
    (D27 : DfC K mg "Forest" (inClass (top 27) 0) CF ["self", "places", "above", "homes"])
    (D32 : DfC K mg "Crossing" (inClass (top 32) 0) CC ["self", "kinds", "types"])
    (F : Fun K "law" "law" (top 63) f fd) : FnOk P w K mg base CX0 18 f fd ["_law_script"] (spLaw K) := by
  have g9 : ∀ W, KisName P w K mg base W := fun W => ok_is_name T D9
  have g8 : ∀ W, KisNumber P w K mg base W := fun W => ok_is_number T D8 (ok_is_integer T D7)
  have g10 : ∀ W, KareNumbers P w K mg base W := fun W => ok_are_numbers T D10 (g8 W)
  have g11 : ∀ W, KisAscending P w K mg base W := fun W => ok_is_ascending T D11
  have g12 : ∀ W, KisListing P w K mg base W := fun W => ok_is_listing T D12 (g10 W) (g11 W)
  have g16 : ∀ W, KareKinds P w K mg base W := fun W => ok_are_kinds T D16 (g9 W) (g11 W)
  have g17 : ∀ W, KisType P w K mg base W := fun W => ok_is_type T D17 (g9 W) (g12 W)
  have g18 : ∀ W, KTable P w K mg base W CT := fun W => ok_table T Z D18 g16 g17
  have g19 : ∀ W, Ktakers P w K mg base W CT := fun W => ok_takers T Z D19
  have g20 : ∀ W, KallTakers P w K mg base W CT := fun W => ok_all_takers T Z D20 (g19 W)
  have g21 : ∀ W, KwithoutTypes P w K mg base W CT := fun W => ok_without_types T Z D21 (g18 W)
  have g22 : ∀ W, KwithoutKinds P w K mg base W CT := fun W => ok_without_kinds T Z D22 (g18 W)
  have g23 : ∀ W, KtwinPlaces P w K mg base W := fun W => ok_twin_places T D23
  have g24 : ∀ W, KjoinedKinds P w K mg base W CT := fun W => ok_joined_kinds T Z D24 (g20 W) (g23 W) (g22 W)
  have g25 : ∀ W, KjoinedTypes P w K mg base W CT := fun W => ok_joined_types T Z D25 (g23 W) (g21 W)
  have g27 : ∀ W, KForest P w K mg base W CF := fun W => ok_forest Z D27
  have g32 : ∀ W, KCrossing P w K mg base W CC := fun W => ok_crossing Z D32
  have g28 : ∀ W, KplacesOf P w K mg base W CT := fun W => ok_places_of T Z D28 (g20 W)
  have g29 : ∀ W, KwayUp P w K mg base W CF := fun W => ok_way_up T Z D29
  have g30 : ∀ W, KupwardKinds P w K mg base W CF := fun W => ok_upward_kinds T Z D30 (g29 W)
  have g33 : ∀ W, Kparts P w K mg base W CT := fun W => ok_parts T D33 (g19 W)
  have g34 : ∀ W, KdoCross P w K mg base W CT := fun W => ok_do_cross T D34 (g33 W)
  have g35 : ∀ W, KcrossingPairs P w K mg base W CT := fun W => ok_crossing_pairs T Z D35 (g34 W)
  have g36 : ∀ W, KcrossingsOf P w K mg base W CT CC := fun W => ok_crossings_of T D36 (g35 W) (g33 W) (g32 W)
  have g37 : ∀ W, KisPart P w K mg base W := fun W => ok_is_part T D37
  have g38 : ∀ W, KaboveOf P w K mg base W CT := fun W => ok_above_of T D38 (g19 W) (g37 W)
  have g39 : ∀ W, KhomesIn P w K mg base W CT := fun W => ok_homes_in T Z D39 (g19 W)
  have g40 : ∀ W, Kcourt P w K mg base W CT CF CC := fun W => ok_court T Z D40 (g36 W) (g28 W) (g38 W) (g39 W) (g27 W)
  have g41 : ∀ W, Knest P w K mg base W := fun W => ok_nest T D41 (g37 W)
  have g42 : ∀ W, KisForest P w K mg base W CT := fun W => ok_is_forest T D42 (g20 W) (g41 W)
  have g44 : ∀ W, KcrossingDay P w K mg base W CT CC := fun W => ok_crossing_day T Z D44
  have g54 : ∀ W, Kltakers P w K mg base W := fun W => ok_ltakers T D54
  have g55 : ∀ W, Klcross P w K mg base W := fun W => ok_lcross T D55 (g54 W)
  have g56 : ∀ W n, Kmost P w K mg base W n := fun W n => ok_most T D56 n
  have g57 : ∀ W n, Kcan P w K mg base W n := fun W n => ok_can T D57 (g56 W 10) n
  have g58 : ∀ W, Krows P w K mg base W := fun W => ok_rows T D58
  have g59 : ∀ W, Kserved P w K mg base W CF := fun W => ok_served T D59 (g30 W)
  have g60 : ∀ W, Krule P w K mg base W CF := fun W => ok_rule T D60 (g58 W) (g59 W) (g56 W 10)
  obtain ⟨fh, fdh, Fh, mh, bh⟩ := D46
  refine ok_law T Z F (ok_heap T Fh) mh Fh.kp bh fun oa ia => ?_
  have g47 : Kdraw P w K mg base oa ia := ok_draw T D47
  have g48 : Kpick P w K mg base oa ia := ok_pick T D48 g47
  have g49 : Knames P w K mg base oa ia := ok_names T D49 g47 g48
  have g50 : Klot P w K mg base oa ia := ok_lot T D50 g47
  have g51 : Kparts2 P w K mg base oa ia := ok_parts2 T D51 g47 g48 g49 g50
  have g52 : Kfparts P w K mg base oa ia := ok_fparts T D52 g47 g49
  have g53 : Kany P w K mg base oa ia := ok_any T D53 g47 g51 g52
  have g61 : Kright P w K mg base oa ia := ok_right T Z D61 (g18 _) (g55 _) (g40 _) g48 g47 (g58 _) (fun n => g57 _ n) (g60 _) (g44 _)
  have g62 : Kless P w K mg base oa ia := ok_less T Z D62 (g18 _) (g55 _) (g42 _) (g24 _) (g25 _) g50 (g21 _) (g22 _)
  exact ⟨g18 _, g40 _, g30 _, fun n => g57 _ n, g48, g53, g61, g62⟩
theorem all_mk {l : PySem.W.OpenLaw} {w : World} {K : PySem.W.Frag} {h : Heap} {mg : Str → Option Value} {fa f7 f8 f9 f10 f11 f12 f16 f17 f19 f20 f21 f22 f23 f24 f25 f28 f29 f30 f33 f34 f35 f36 f37 f38 f39 f40 f41 f42 f44 f46 f47 f48 f49 f50 f51 f52 f53 f54 f55 f56 f57 f58 f59 f60 f61 f62 f63 f18 CT f27 CF f32 CC : Addr} (X : K.In h) (G : h.Ns mainGlobals mg) (hfa : mg "law" = some (.ref fa))
    {oc7 kV7 dc7 pm7 cd7 ct7 : Value} {od7 an7 : Option Addr} {sl7 : Array (Option Value)}
    {oc8 kV8 dc8 pm8 cd8 ct8 : Value} {od8 an8 : Option Addr} {sl8 : Array (Option Value)}
    {oc9 kV9 dc9 pm9 cd9 ct9 : Value} {od9 an9 : Option Addr} {sl9 : Array (Option Value)}
    {oc10 kV10 dc10 pm10 cd10 ct10 : Value} {od10 an10 : Option Addr} {sl10 : Array (Option Value)}
    {oc11 kV11 dc11 pm11 cd11 ct11 : Value} {od11 an11 : Option Addr} {sl11 : Array (Option Value)}
    {oc12 kV12 dc12 pm12 cd12 ct12 : Value} {od12 an12 : Option Addr} {sl12 : Array (Option Value)}
    {oc16 kV16 dc16 pm16 cd16 ct16 : Value} {od16 an16 : Option Addr} {sl16 : Array (Option Value)}
    {oc17 kV17 dc17 pm17 cd17 ct17 : Value} {od17 an17 : Option Addr} {sl17 : Array (Option Value)}
    {oc19 kV19 dc19 pm19 cd19 ct19 : Value} {od19 an19 : Option Addr} {sl19 : Array (Option Value)}
    {oc20 kV20 dc20 pm20 cd20 ct20 : Value} {od20 an20 : Option Addr} {sl20 : Array (Option Value)}
    {oc21 kV21 dc21 pm21 cd21 ct21 : Value} {od21 an21 : Option Addr} {sl21 : Array (Option Value)}
    {oc22 kV22 dc22 pm22 cd22 ct22 : Value} {od22 an22 : Option Addr} {sl22 : Array (Option Value)}
    {oc23 kV23 dc23 pm23 cd23 ct23 : Value} {od23 an23 : Option Addr} {sl23 : Array (Option Value)}
    {oc24 kV24 dc24 pm24 cd24 ct24 : Value} {od24 an24 : Option Addr} {sl24 : Array (Option Value)}
    {oc25 kV25 dc25 pm25 cd25 ct25 : Value} {od25 an25 : Option Addr} {sl25 : Array (Option Value)}
    {oc28 kV28 dc28 pm28 cd28 ct28 : Value} {od28 an28 : Option Addr} {sl28 : Array (Option Value)}
    {oc29 kV29 dc29 pm29 cd29 ct29 : Value} {od29 an29 : Option Addr} {sl29 : Array (Option Value)}
    {oc30 kV30 dc30 pm30 cd30 ct30 : Value} {od30 an30 : Option Addr} {sl30 : Array (Option Value)}
    {oc33 kV33 dc33 pm33 cd33 ct33 : Value} {od33 an33 : Option Addr} {sl33 : Array (Option Value)}
    {oc34 kV34 dc34 pm34 cd34 ct34 : Value} {od34 an34 : Option Addr} {sl34 : Array (Option Value)}
    {oc35 kV35 dc35 pm35 cd35 ct35 : Value} {od35 an35 : Option Addr} {sl35 : Array (Option Value)}
    {oc36 kV36 dc36 pm36 cd36 ct36 : Value} {od36 an36 : Option Addr} {sl36 : Array (Option Value)}
    {oc37 kV37 dc37 pm37 cd37 ct37 : Value} {od37 an37 : Option Addr} {sl37 : Array (Option Value)}
    {oc38 kV38 dc38 pm38 cd38 ct38 : Value} {od38 an38 : Option Addr} {sl38 : Array (Option Value)}
    {oc39 kV39 dc39 pm39 cd39 ct39 : Value} {od39 an39 : Option Addr} {sl39 : Array (Option Value)}
    {oc40 kV40 dc40 pm40 cd40 ct40 : Value} {od40 an40 : Option Addr} {sl40 : Array (Option Value)}
    {oc41 kV41 dc41 pm41 cd41 ct41 : Value} {od41 an41 : Option Addr} {sl41 : Array (Option Value)}
    {oc42 kV42 dc42 pm42 cd42 ct42 : Value} {od42 an42 : Option Addr} {sl42 : Array (Option Value)}
    {oc44 kV44 dc44 pm44 cd44 ct44 : Value} {od44 an44 : Option Addr} {sl44 : Array (Option Value)}
    {oc46 kV46 dc46 pm46 cd46 ct46 : Value} {od46 an46 : Option Addr} {sl46 : Array (Option Value)}
    {oc47 kV47 dc47 pm47 cd47 ct47 : Value} {od47 an47 : Option Addr} {sl47 : Array (Option Value)}
    {oc48 kV48 dc48 pm48 cd48 ct48 : Value} {od48 an48 : Option Addr} {sl48 : Array (Option Value)}
    {oc49 kV49 dc49 pm49 cd49 ct49 : Value} {od49 an49 : Option Addr} {sl49 : Array (Option Value)}
    {oc50 kV50 dc50 pm50 cd50 ct50 : Value} {od50 an50 : Option Addr} {sl50 : Array (Option Value)}
    {oc51 kV51 dc51 pm51 cd51 ct51 : Value} {od51 an51 : Option Addr} {sl51 : Array (Option Value)}
    {oc52 kV52 dc52 pm52 cd52 ct52 : Value} {od52 an52 : Option Addr} {sl52 : Array (Option Value)}
    {oc53 kV53 dc53 pm53 cd53 ct53 : Value} {od53 an53 : Option Addr} {sl53 : Array (Option Value)}
    {oc54 kV54 dc54 pm54 cd54 ct54 : Value} {od54 an54 : Option Addr} {sl54 : Array (Option Value)}
    {oc55 kV55 dc55 pm55 cd55 ct55 : Value} {od55 an55 : Option Addr} {sl55 : Array (Option Value)}
    {oc56 kV56 dc56 pm56 cd56 ct56 : Value} {od56 an56 : Option Addr} {sl56 : Array (Option Value)}
    {oc57 kV57 dc57 pm57 cd57 ct57 : Value} {od57 an57 : Option Addr} {sl57 : Array (Option Value)}
    {oc58 kV58 dc58 pm58 cd58 ct58 : Value} {od58 an58 : Option Addr} {sl58 : Array (Option Value)}
    {oc59 kV59 dc59 pm59 cd59 ct59 : Value} {od59 an59 : Option Addr} {sl59 : Array (Option Value)}
    {oc60 kV60 dc60 pm60 cd60 ct60 : Value} {od60 an60 : Option Addr} {sl60 : Array (Option Value)}
    {oc61 kV61 dc61 pm61 cd61 ct61 : Value} {od61 an61 : Option Addr} {sl61 : Array (Option Value)}
    {oc62 kV62 dc62 pm62 cd62 ct62 : Value} {od62 an62 : Option Addr} {sl62 : Array (Option Value)}
    {oc63 kV63 dc63 pm63 cd63 ct63 : Value} {od63 an63 : Option Addr} {sl63 : Array (Option Value)}
    {oc18 kV18 dc18 pm18 cd18 ct18 : Value} {od18 an18 : Option Addr} {sl18 : Array (Option Value)}
    {oc27 kV27 dc27 pm27 cd27 ct27 : Value} {od27 an27 : Option Addr} {sl27 : Array (Option Value)}
    {oc32 kV32 dc32 pm32 cd32 ct32 : Value} {od32 an32 : Option Addr} {sl32 : Array (Option Value)}
    {cd27x : ClassData} {t_LETTERS : Tok} {t_LONGEST_NAME : Tok} {t_MOST_KINDS : Tok} {t_MOST_TYPES : Tok}
    (a7 : PySem.W.nsIn K mainGlobals "is_integer" = some (some (.ref f7)))
    (l7 : K.lookup f7 = some ⟨oc7, od7, .func (PySem.W.fnOf "is_integer" "is_integer" (defArgs (top 7)) (defBody (top 7)) (defScope (top 7)) .none kV7 dc7 pm7 an7 cd7 ct7), sl7⟩)
    (c7 : PySem.W.codeIn K cd7 "is_integer" = true)
    (k7 : PySem.W.keepIn K (.ref f7) = true)
    (a8 : PySem.W.nsIn K mainGlobals "is_number" = some (some (.ref f8)))
    (l8 : K.lookup f8 = some ⟨oc8, od8, .func (PySem.W.fnOf "is_number" "is_number" (defArgs (top 8)) (defBody (top 8)) (defScope (top 8)) .none kV8 dc8 pm8 an8 cd8 ct8), sl8⟩)
    (c8 : PySem.W.codeIn K cd8 "is_number" = true)
    (k8 : PySem.W.keepIn K (.ref f8) = true)
    (a9 : PySem.W.nsIn K mainGlobals "is_name" = some (some (.ref f9)))
    (l9 : K.lookup f9 = some ⟨oc9, od9, .func (PySem.W.fnOf "is_name" "is_name" (defArgs (top 9)) (defBody (top 9)) (defScope (top 9)) .none kV9 dc9 pm9 an9 cd9 ct9), sl9⟩)
    (c9 : PySem.W.codeIn K cd9 "is_name" = true)
    (k9 : PySem.W.keepIn K (.ref f9) = true)
    (a10 : PySem.W.nsIn K mainGlobals "are_numbers" = some (some (.ref f10)))
    (l10 : K.lookup f10 = some ⟨oc10, od10, .func (PySem.W.fnOf "are_numbers" "are_numbers" (defArgs (top 10)) (defBody (top 10)) (defScope (top 10)) .none kV10 dc10 pm10 an10 cd10 ct10), sl10⟩)
    (c10 : PySem.W.codeIn K cd10 "are_numbers" = true)
    (k10 : PySem.W.keepIn K (.ref f10) = true)
    (a11 : PySem.W.nsIn K mainGlobals "is_ascending" = some (some (.ref f11)))
    (l11 : K.lookup f11 = some ⟨oc11, od11, .func (PySem.W.fnOf "is_ascending" "is_ascending" (defArgs (top 11)) (defBody (top 11)) (defScope (top 11)) .none kV11 dc11 pm11 an11 cd11 ct11), sl11⟩)
    (c11 : PySem.W.codeIn K cd11 "is_ascending" = true)
    (k11 : PySem.W.keepIn K (.ref f11) = true)
    (a12 : PySem.W.nsIn K mainGlobals "is_listing" = some (some (.ref f12)))
    (l12 : K.lookup f12 = some ⟨oc12, od12, .func (PySem.W.fnOf "is_listing" "is_listing" (defArgs (top 12)) (defBody (top 12)) (defScope (top 12)) .none kV12 dc12 pm12 an12 cd12 ct12), sl12⟩)
    (c12 : PySem.W.codeIn K cd12 "is_listing" = true)
    (k12 : PySem.W.keepIn K (.ref f12) = true)
    (a16 : PySem.W.nsIn K mainGlobals "are_kinds" = some (some (.ref f16)))
    (l16 : K.lookup f16 = some ⟨oc16, od16, .func (PySem.W.fnOf "are_kinds" "are_kinds" (defArgs (top 16)) (defBody (top 16)) (defScope (top 16)) .none kV16 dc16 pm16 an16 cd16 ct16), sl16⟩)
    (c16 : PySem.W.codeIn K cd16 "are_kinds" = true)
    (k16 : PySem.W.keepIn K (.ref f16) = true)
    (a17 : PySem.W.nsIn K mainGlobals "is_type" = some (some (.ref f17)))
    (l17 : K.lookup f17 = some ⟨oc17, od17, .func (PySem.W.fnOf "is_type" "is_type" (defArgs (top 17)) (defBody (top 17)) (defScope (top 17)) .none kV17 dc17 pm17 an17 cd17 ct17), sl17⟩)
    (c17 : PySem.W.codeIn K cd17 "is_type" = true)
    (k17 : PySem.W.keepIn K (.ref f17) = true)
    (a19 : PySem.W.nsIn K mainGlobals "takers" = some (some (.ref f19)))
    (l19 : K.lookup f19 = some ⟨oc19, od19, .func (PySem.W.fnOf "takers" "takers" (defArgs (top 19)) (defBody (top 19)) (defScope (top 19)) .none kV19 dc19 pm19 an19 cd19 ct19), sl19⟩)
    (c19 : PySem.W.codeIn K cd19 "takers" = true)
    (k19 : PySem.W.keepIn K (.ref f19) = true)
    (a20 : PySem.W.nsIn K mainGlobals "all_takers" = some (some (.ref f20)))
    (l20 : K.lookup f20 = some ⟨oc20, od20, .func (PySem.W.fnOf "all_takers" "all_takers" (defArgs (top 20)) (defBody (top 20)) (defScope (top 20)) .none kV20 dc20 pm20 an20 cd20 ct20), sl20⟩)
    (c20 : PySem.W.codeIn K cd20 "all_takers" = true)
    (k20 : PySem.W.keepIn K (.ref f20) = true)
    (a21 : PySem.W.nsIn K mainGlobals "without_types" = some (some (.ref f21)))
    (l21 : K.lookup f21 = some ⟨oc21, od21, .func (PySem.W.fnOf "without_types" "without_types" (defArgs (top 21)) (defBody (top 21)) (defScope (top 21)) .none kV21 dc21 pm21 an21 cd21 ct21), sl21⟩)
    (c21 : PySem.W.codeIn K cd21 "without_types" = true)
    (k21 : PySem.W.keepIn K (.ref f21) = true)
    (a22 : PySem.W.nsIn K mainGlobals "without_kinds" = some (some (.ref f22)))
    (l22 : K.lookup f22 = some ⟨oc22, od22, .func (PySem.W.fnOf "without_kinds" "without_kinds" (defArgs (top 22)) (defBody (top 22)) (defScope (top 22)) .none kV22 dc22 pm22 an22 cd22 ct22), sl22⟩)
    (c22 : PySem.W.codeIn K cd22 "without_kinds" = true)
    (k22 : PySem.W.keepIn K (.ref f22) = true)
    (a23 : PySem.W.nsIn K mainGlobals "twin_places" = some (some (.ref f23)))
    (l23 : K.lookup f23 = some ⟨oc23, od23, .func (PySem.W.fnOf "twin_places" "twin_places" (defArgs (top 23)) (defBody (top 23)) (defScope (top 23)) .none kV23 dc23 pm23 an23 cd23 ct23), sl23⟩)
    (c23 : PySem.W.codeIn K cd23 "twin_places" = true)
    (k23 : PySem.W.keepIn K (.ref f23) = true)
    (a24 : PySem.W.nsIn K mainGlobals "joined_kinds" = some (some (.ref f24)))
    (l24 : K.lookup f24 = some ⟨oc24, od24, .func (PySem.W.fnOf "joined_kinds" "joined_kinds" (defArgs (top 24)) (defBody (top 24)) (defScope (top 24)) .none kV24 dc24 pm24 an24 cd24 ct24), sl24⟩)
    (c24 : PySem.W.codeIn K cd24 "joined_kinds" = true)
    (k24 : PySem.W.keepIn K (.ref f24) = true)
    (a25 : PySem.W.nsIn K mainGlobals "joined_types" = some (some (.ref f25)))
    (l25 : K.lookup f25 = some ⟨oc25, od25, .func (PySem.W.fnOf "joined_types" "joined_types" (defArgs (top 25)) (defBody (top 25)) (defScope (top 25)) .none kV25 dc25 pm25 an25 cd25 ct25), sl25⟩)
    (c25 : PySem.W.codeIn K cd25 "joined_types" = true)
    (k25 : PySem.W.keepIn K (.ref f25) = true)
    (a28 : PySem.W.nsIn K mainGlobals "places_of" = some (some (.ref f28)))
    (l28 : K.lookup f28 = some ⟨oc28, od28, .func (PySem.W.fnOf "places_of" "places_of" (defArgs (top 28)) (defBody (top 28)) (defScope (top 28)) .none kV28 dc28 pm28 an28 cd28 ct28), sl28⟩)
    (c28 : PySem.W.codeIn K cd28 "places_of" = true)
    (k28 : PySem.W.keepIn K (.ref f28) = true)
    (a29 : PySem.W.nsIn K mainGlobals "way_up" = some (some (.ref f29)))
    (l29 : K.lookup f29 = some ⟨oc29, od29, .func (PySem.W.fnOf "way_up" "way_up" (defArgs (top 29)) (defBody (top 29)) (defScope (top 29)) .none kV29 dc29 pm29 an29 cd29 ct29), sl29⟩)
    (c29 : PySem.W.codeIn K cd29 "way_up" = true)
    (k29 : PySem.W.keepIn K (.ref f29) = true)
    (a30 : PySem.W.nsIn K mainGlobals "upward_kinds" = some (some (.ref f30)))
    (l30 : K.lookup f30 = some ⟨oc30, od30, .func (PySem.W.fnOf "upward_kinds" "upward_kinds" (defArgs (top 30)) (defBody (top 30)) (defScope (top 30)) .none kV30 dc30 pm30 an30 cd30 ct30), sl30⟩)
    (c30 : PySem.W.codeIn K cd30 "upward_kinds" = true)
    (k30 : PySem.W.keepIn K (.ref f30) = true)
    (a33 : PySem.W.nsIn K mainGlobals "parts_of_pair" = some (some (.ref f33)))
    (l33 : K.lookup f33 = some ⟨oc33, od33, .func (PySem.W.fnOf "parts_of_pair" "parts_of_pair" (defArgs (top 33)) (defBody (top 33)) (defScope (top 33)) .none kV33 dc33 pm33 an33 cd33 ct33), sl33⟩)
    (c33 : PySem.W.codeIn K cd33 "parts_of_pair" = true)
    (k33 : PySem.W.keepIn K (.ref f33) = true)
    (a34 : PySem.W.nsIn K mainGlobals "do_cross" = some (some (.ref f34)))
    (l34 : K.lookup f34 = some ⟨oc34, od34, .func (PySem.W.fnOf "do_cross" "do_cross" (defArgs (top 34)) (defBody (top 34)) (defScope (top 34)) .none kV34 dc34 pm34 an34 cd34 ct34), sl34⟩)
    (c34 : PySem.W.codeIn K cd34 "do_cross" = true)
    (k34 : PySem.W.keepIn K (.ref f34) = true)
    (a35 : PySem.W.nsIn K mainGlobals "crossing_pairs" = some (some (.ref f35)))
    (l35 : K.lookup f35 = some ⟨oc35, od35, .func (PySem.W.fnOf "crossing_pairs" "crossing_pairs" (defArgs (top 35)) (defBody (top 35)) (defScope (top 35)) .none kV35 dc35 pm35 an35 cd35 ct35), sl35⟩)
    (c35 : PySem.W.codeIn K cd35 "crossing_pairs" = true)
    (k35 : PySem.W.keepIn K (.ref f35) = true)
    (a36 : PySem.W.nsIn K mainGlobals "crossings_of" = some (some (.ref f36)))
    (l36 : K.lookup f36 = some ⟨oc36, od36, .func (PySem.W.fnOf "crossings_of" "crossings_of" (defArgs (top 36)) (defBody (top 36)) (defScope (top 36)) .none kV36 dc36 pm36 an36 cd36 ct36), sl36⟩)
    (c36 : PySem.W.codeIn K cd36 "crossings_of" = true)
    (k36 : PySem.W.keepIn K (.ref f36) = true)
    (a37 : PySem.W.nsIn K mainGlobals "is_part" = some (some (.ref f37)))
    (l37 : K.lookup f37 = some ⟨oc37, od37, .func (PySem.W.fnOf "is_part" "is_part" (defArgs (top 37)) (defBody (top 37)) (defScope (top 37)) .none kV37 dc37 pm37 an37 cd37 ct37), sl37⟩)
    (c37 : PySem.W.codeIn K cd37 "is_part" = true)
    (k37 : PySem.W.keepIn K (.ref f37) = true)
    (a38 : PySem.W.nsIn K mainGlobals "above_of" = some (some (.ref f38)))
    (l38 : K.lookup f38 = some ⟨oc38, od38, .func (PySem.W.fnOf "above_of" "above_of" (defArgs (top 38)) (defBody (top 38)) (defScope (top 38)) .none kV38 dc38 pm38 an38 cd38 ct38), sl38⟩)
    (c38 : PySem.W.codeIn K cd38 "above_of" = true)
    (k38 : PySem.W.keepIn K (.ref f38) = true)
    (a39 : PySem.W.nsIn K mainGlobals "homes_in" = some (some (.ref f39)))
    (l39 : K.lookup f39 = some ⟨oc39, od39, .func (PySem.W.fnOf "homes_in" "homes_in" (defArgs (top 39)) (defBody (top 39)) (defScope (top 39)) .none kV39 dc39 pm39 an39 cd39 ct39), sl39⟩)
    (c39 : PySem.W.codeIn K cd39 "homes_in" = true)
    (k39 : PySem.W.keepIn K (.ref f39) = true)
    (a40 : PySem.W.nsIn K mainGlobals "court" = some (some (.ref f40)))
    (l40 : K.lookup f40 = some ⟨oc40, od40, .func (PySem.W.fnOf "court" "court" (defArgs (top 40)) (defBody (top 40)) (defScope (top 40)) .none kV40 dc40 pm40 an40 cd40 ct40), sl40⟩)
    (c40 : PySem.W.codeIn K cd40 "court" = true)
    (k40 : PySem.W.keepIn K (.ref f40) = true)
    (a41 : PySem.W.nsIn K mainGlobals "are_nested_or_apart" = some (some (.ref f41)))
    (l41 : K.lookup f41 = some ⟨oc41, od41, .func (PySem.W.fnOf "are_nested_or_apart" "are_nested_or_apart" (defArgs (top 41)) (defBody (top 41)) (defScope (top 41)) .none kV41 dc41 pm41 an41 cd41 ct41), sl41⟩)
    (c41 : PySem.W.codeIn K cd41 "are_nested_or_apart" = true)
    (k41 : PySem.W.keepIn K (.ref f41) = true)
    (a42 : PySem.W.nsIn K mainGlobals "is_forest" = some (some (.ref f42)))
    (l42 : K.lookup f42 = some ⟨oc42, od42, .func (PySem.W.fnOf "is_forest" "is_forest" (defArgs (top 42)) (defBody (top 42)) (defScope (top 42)) .none kV42 dc42 pm42 an42 cd42 ct42), sl42⟩)
    (c42 : PySem.W.codeIn K cd42 "is_forest" = true)
    (k42 : PySem.W.keepIn K (.ref f42) = true)
    (a44 : PySem.W.nsIn K mainGlobals "crossing_day" = some (some (.ref f44)))
    (l44 : K.lookup f44 = some ⟨oc44, od44, .func (PySem.W.fnOf "crossing_day" "crossing_day" (defArgs (top 44)) (defBody (top 44)) (defScope (top 44)) .none kV44 dc44 pm44 an44 cd44 ct44), sl44⟩)
    (c44 : PySem.W.codeIn K cd44 "crossing_day" = true)
    (k44 : PySem.W.keepIn K (.ref f44) = true)
    (a46 : PySem.W.nsIn K mainGlobals "_law_heap" = some (some (.ref f46)))
    (l46 : K.lookup f46 = some ⟨oc46, od46, .func (PySem.W.fnOf "_law_heap" "_law_heap" (defArgs (top 46)) (defBody (top 46)) (defScope (top 46)) .none kV46 dc46 pm46 an46 cd46 ct46), sl46⟩)
    (c46 : PySem.W.codeIn K cd46 "_law_heap" = true)
    (k46 : PySem.W.keepIn K (.ref f46) = true)
    (a47 : PySem.W.nsIn K mainGlobals "_law_draw" = some (some (.ref f47)))
    (l47 : K.lookup f47 = some ⟨oc47, od47, .func (PySem.W.fnOf "_law_draw" "_law_draw" (defArgs (top 47)) (defBody (top 47)) (defScope (top 47)) .none kV47 dc47 pm47 an47 cd47 ct47), sl47⟩)
    (c47 : PySem.W.codeIn K cd47 "_law_draw" = true)
    (k47 : PySem.W.keepIn K (.ref f47) = true)
    (a48 : PySem.W.nsIn K mainGlobals "_law_pick" = some (some (.ref f48)))
    (l48 : K.lookup f48 = some ⟨oc48, od48, .func (PySem.W.fnOf "_law_pick" "_law_pick" (defArgs (top 48)) (defBody (top 48)) (defScope (top 48)) .none kV48 dc48 pm48 an48 cd48 ct48), sl48⟩)
    (c48 : PySem.W.codeIn K cd48 "_law_pick" = true)
    (k48 : PySem.W.keepIn K (.ref f48) = true)
    (a49 : PySem.W.nsIn K mainGlobals "_law_names" = some (some (.ref f49)))
    (l49 : K.lookup f49 = some ⟨oc49, od49, .func (PySem.W.fnOf "_law_names" "_law_names" (defArgs (top 49)) (defBody (top 49)) (defScope (top 49)) .none kV49 dc49 pm49 an49 cd49 ct49), sl49⟩)
    (c49 : PySem.W.codeIn K cd49 "_law_names" = true)
    (k49 : PySem.W.keepIn K (.ref f49) = true)
    (a50 : PySem.W.nsIn K mainGlobals "_law_lot" = some (some (.ref f50)))
    (l50 : K.lookup f50 = some ⟨oc50, od50, .func (PySem.W.fnOf "_law_lot" "_law_lot" (defArgs (top 50)) (defBody (top 50)) (defScope (top 50)) .none kV50 dc50 pm50 an50 cd50 ct50), sl50⟩)
    (c50 : PySem.W.codeIn K cd50 "_law_lot" = true)
    (k50 : PySem.W.keepIn K (.ref f50) = true)
    (a51 : PySem.W.nsIn K mainGlobals "_law_parts" = some (some (.ref f51)))
    (l51 : K.lookup f51 = some ⟨oc51, od51, .func (PySem.W.fnOf "_law_parts" "_law_parts" (defArgs (top 51)) (defBody (top 51)) (defScope (top 51)) .none kV51 dc51 pm51 an51 cd51 ct51), sl51⟩)
    (c51 : PySem.W.codeIn K cd51 "_law_parts" = true)
    (k51 : PySem.W.keepIn K (.ref f51) = true)
    (a52 : PySem.W.nsIn K mainGlobals "_law_forest_parts" = some (some (.ref f52)))
    (l52 : K.lookup f52 = some ⟨oc52, od52, .func (PySem.W.fnOf "_law_forest_parts" "_law_forest_parts" (defArgs (top 52)) (defBody (top 52)) (defScope (top 52)) .none kV52 dc52 pm52 an52 cd52 ct52), sl52⟩)
    (c52 : PySem.W.codeIn K cd52 "_law_forest_parts" = true)
    (k52 : PySem.W.keepIn K (.ref f52) = true)
    (a53 : PySem.W.nsIn K mainGlobals "_law_any_parts" = some (some (.ref f53)))
    (l53 : K.lookup f53 = some ⟨oc53, od53, .func (PySem.W.fnOf "_law_any_parts" "_law_any_parts" (defArgs (top 53)) (defBody (top 53)) (defScope (top 53)) .none kV53 dc53 pm53 an53 cd53 ct53), sl53⟩)
    (c53 : PySem.W.codeIn K cd53 "_law_any_parts" = true)
    (k53 : PySem.W.keepIn K (.ref f53) = true)
    (a54 : PySem.W.nsIn K mainGlobals "_law_takers" = some (some (.ref f54)))
    (l54 : K.lookup f54 = some ⟨oc54, od54, .func (PySem.W.fnOf "_law_takers" "_law_takers" (defArgs (top 54)) (defBody (top 54)) (defScope (top 54)) .none kV54 dc54 pm54 an54 cd54 ct54), sl54⟩)
    (c54 : PySem.W.codeIn K cd54 "_law_takers" = true)
    (k54 : PySem.W.keepIn K (.ref f54) = true)
    (a55 : PySem.W.nsIn K mainGlobals "_law_crossings" = some (some (.ref f55)))
    (l55 : K.lookup f55 = some ⟨oc55, od55, .func (PySem.W.fnOf "_law_crossings" "_law_crossings" (defArgs (top 55)) (defBody (top 55)) (defScope (top 55)) .none kV55 dc55 pm55 an55 cd55 ct55), sl55⟩)
    (c55 : PySem.W.codeIn K cd55 "_law_crossings" = true)
    (k55 : PySem.W.keepIn K (.ref f55) = true)
    (a56 : PySem.W.nsIn K mainGlobals "_law_most" = some (some (.ref f56)))
    (l56 : K.lookup f56 = some ⟨oc56, od56, .func (PySem.W.fnOf "_law_most" "_law_most" (defArgs (top 56)) (defBody (top 56)) (defScope (top 56)) .none kV56 dc56 pm56 an56 cd56 ct56), sl56⟩)
    (c56 : PySem.W.codeIn K cd56 "_law_most" = true)
    (k56 : PySem.W.keepIn K (.ref f56) = true)
    (a57 : PySem.W.nsIn K mainGlobals "_law_can_avoid" = some (some (.ref f57)))
    (l57 : K.lookup f57 = some ⟨oc57, od57, .func (PySem.W.fnOf "_law_can_avoid" "_law_can_avoid" (defArgs (top 57)) (defBody (top 57)) (defScope (top 57)) .none kV57 dc57 pm57 an57 cd57 ct57), sl57⟩)
    (c57 : PySem.W.codeIn K cd57 "_law_can_avoid" = true)
    (k57 : PySem.W.keepIn K (.ref f57) = true)
    (a58 : PySem.W.nsIn K mainGlobals "_law_rows" = some (some (.ref f58)))
    (l58 : K.lookup f58 = some ⟨oc58, od58, .func (PySem.W.fnOf "_law_rows" "_law_rows" (defArgs (top 58)) (defBody (top 58)) (defScope (top 58)) .none kV58 dc58 pm58 an58 cd58 ct58), sl58⟩)
    (c58 : PySem.W.codeIn K cd58 "_law_rows" = true)
    (k58 : PySem.W.keepIn K (.ref f58) = true)
    (a59 : PySem.W.nsIn K mainGlobals "_law_served" = some (some (.ref f59)))
    (l59 : K.lookup f59 = some ⟨oc59, od59, .func (PySem.W.fnOf "_law_served" "_law_served" (defArgs (top 59)) (defBody (top 59)) (defScope (top 59)) .none kV59 dc59 pm59 an59 cd59 ct59), sl59⟩)
    (c59 : PySem.W.codeIn K cd59 "_law_served" = true)
    (k59 : PySem.W.keepIn K (.ref f59) = true)
    (a60 : PySem.W.nsIn K mainGlobals "_law_rule_right" = some (some (.ref f60)))
    (l60 : K.lookup f60 = some ⟨oc60, od60, .func (PySem.W.fnOf "_law_rule_right" "_law_rule_right" (defArgs (top 60)) (defBody (top 60)) (defScope (top 60)) .none kV60 dc60 pm60 an60 cd60 ct60), sl60⟩)
    (c60 : PySem.W.codeIn K cd60 "_law_rule_right" = true)
    (k60 : PySem.W.keepIn K (.ref f60) = true)
    (a61 : PySem.W.nsIn K mainGlobals "_law_right" = some (some (.ref f61)))
    (l61 : K.lookup f61 = some ⟨oc61, od61, .func (PySem.W.fnOf "_law_right" "_law_right" (defArgs (top 61)) (defBody (top 61)) (defScope (top 61)) .none kV61 dc61 pm61 an61 cd61 ct61), sl61⟩)
    (c61 : PySem.W.codeIn K cd61 "_law_right" = true)
    (k61 : PySem.W.keepIn K (.ref f61) = true)
    (a62 : PySem.W.nsIn K mainGlobals "_law_less_right" = some (some (.ref f62)))
    (l62 : K.lookup f62 = some ⟨oc62, od62, .func (PySem.W.fnOf "_law_less_right" "_law_less_right" (defArgs (top 62)) (defBody (top 62)) (defScope (top 62)) .none kV62 dc62 pm62 an62 cd62 ct62), sl62⟩)
    (c62 : PySem.W.codeIn K cd62 "_law_less_right" = true)
    (k62 : PySem.W.keepIn K (.ref f62) = true)
    (a63 : PySem.W.nsIn K mainGlobals "law" = some (some (.ref f63)))
    (l63 : K.lookup f63 = some ⟨oc63, od63, .func (PySem.W.fnOf "law" "law" (defArgs (top 63)) (defBody (top 63)) (defScope (top 63)) .none kV63 dc63 pm63 an63 cd63 ct63), sl63⟩)
    (c63 : PySem.W.codeIn K cd63 "law" = true)
    (k63 : PySem.W.keepIn K (.ref f63) = true)
    (b18 : PySem.W.nsIn K mainGlobals "Table" = some (some (.ref CT)))
    (a18 : PySem.W.findIn K (.ref CT) "__init__" = some (some (.ref f18)))
    (i18 : PySem.W.isFn K (.ref f18) = true)
    (l18 : K.lookup f18 = some ⟨oc18, od18, .func (PySem.W.fnOf "__init__" "Table.__init__" (defArgs (inClass (top 18) 0)) (defBody (inClass (top 18) 0)) (defScope (inClass (top 18) 0)) .none kV18 dc18 pm18 an18 cd18 ct18), sl18⟩)
    (c18 : PySem.W.codeIn K cd18 "Table.__init__" = true)
    (k18 : PySem.W.keepIn K (.ref f18) = true)
    (pg18 : PySem.W.plainGet K CT Str.empty = true)
    (hd18 : PySem.W.hasDictIn K CT = true)
    (po18 : PySem.W.plainOver K CT = true)
    (sa18 : PySem.W.findIn K (.ref CT) "__setattr__" = some (some (.builtin "object.__setattr__")))
    (mk18 : PySem.W.makesIn K CT = true)
    (kc18 : PySem.W.keepIn K (.ref CT) = true)
    (n18_kinds : PySem.W.findIn K (.ref CT) "kinds" = some none)
    (n18_types : PySem.W.findIn K (.ref CT) "types" = some none)
    (b27 : PySem.W.nsIn K mainGlobals "Forest" = some (some (.ref CF)))
    (a27 : PySem.W.findIn K (.ref CF) "__init__" = some (some (.ref f27)))
    (i27 : PySem.W.isFn K (.ref f27) = true)
    (l27 : K.lookup f27 = some ⟨oc27, od27, .func (PySem.W.fnOf "__init__" "Forest.__init__" (defArgs (inClass (top 27) 0)) (defBody (inClass (top 27) 0)) (defScope (inClass (top 27) 0)) .none kV27 dc27 pm27 an27 cd27 ct27), sl27⟩)
    (c27 : PySem.W.codeIn K cd27 "Forest.__init__" = true)
    (k27 : PySem.W.keepIn K (.ref f27) = true)
    (pg27 : PySem.W.plainGet K CF Str.empty = true)
    (hd27 : PySem.W.hasDictIn K CF = true)
    (po27 : PySem.W.plainOver K CF = true)
    (sa27 : PySem.W.findIn K (.ref CF) "__setattr__" = some (some (.builtin "object.__setattr__")))
    (mk27 : PySem.W.makesIn K CF = true)
    (kc27 : PySem.W.keepIn K (.ref CF) = true)
    (n27_places : PySem.W.findIn K (.ref CF) "places" = some none)
    (n27_above : PySem.W.findIn K (.ref CF) "above" = some none)
    (n27_homes : PySem.W.findIn K (.ref CF) "homes" = some none)
    (ha27 : PySem.W.findIn K (.ref CF) "__class__" = some (some (.builtin "object.__class__")))
    (hm27 : PySem.W.mroIn K CF (.type "object") = some true)
    (b32 : PySem.W.nsIn K mainGlobals "Crossing" = some (some (.ref CC)))
    (a32 : PySem.W.findIn K (.ref CC) "__init__" = some (some (.ref f32)))
    (i32 : PySem.W.isFn K (.ref f32) = true)
    (l32 : K.lookup f32 = some ⟨oc32, od32, .func (PySem.W.fnOf "__init__" "Crossing.__init__" (defArgs (inClass (top 32) 0)) (defBody (inClass (top 32) 0)) (defScope (inClass (top 32) 0)) .none kV32 dc32 pm32 an32 cd32 ct32), sl32⟩)
    (c32 : PySem.W.codeIn K cd32 "Crossing.__init__" = true)
    (k32 : PySem.W.keepIn K (.ref f32) = true)
    (pg32 : PySem.W.plainGet K CC Str.empty = true)
    (hd32 : PySem.W.hasDictIn K CC = true)
    (po32 : PySem.W.plainOver K CC = true)
    (sa32 : PySem.W.findIn K (.ref CC) "__setattr__" = some (some (.builtin "object.__setattr__")))
    (mk32 : PySem.W.makesIn K CC = true)
    (kc32 : PySem.W.keepIn K (.ref CC) = true)
    (n32_kinds : PySem.W.findIn K (.ref CC) "kinds" = some none)
    (n32_types : PySem.W.findIn K (.ref CC) "types" = some none)
    (ha32 : PySem.W.findIn K (.ref CC) "__class__" = some (some (.builtin "object.__class__")))
    (hm32 : PySem.W.mroIn K CC (.type "object") = some true)
    (hn : PySem.W.specialIn K (.builtin "object.__class__") "__get__" = some (some (.builtin "getset_descriptor.__get__")))
    (htk : PySem.W.takesIn K (.builtin "object.__class__") = some true)
    (ci27 : PySem.W.clsIn K CF = some cd27x)
    (ty27 : PySem.W.typeIn K (.ref CF) = some (.type "type"))
    (sCF : PySem.W.subIn K (.ref CC) (.ref CF) = some false)
    (sFF : PySem.W.subIn K (.ref CF) (.ref CF) = some true)
    (z_isinstance : PySem.W.nsIn K mainGlobals "isinstance" = some none)
    (z_int : PySem.W.nsIn K mainGlobals "int" = some none)
    (z_bool : PySem.W.nsIn K mainGlobals "bool" = some none)
    (z_str : PySem.W.nsIn K mainGlobals "str" = some none)
    (z_tuple : PySem.W.nsIn K mainGlobals "tuple" = some none)
    (z_len : PySem.W.nsIn K mainGlobals "len" = some none)
    (z_all : PySem.W.nsIn K mainGlobals "all" = some none)
    (z_any : PySem.W.nsIn K mainGlobals "any" = some none)
    (z_range : PySem.W.nsIn K mainGlobals "range" = some none)
    (z_enumerate : PySem.W.nsIn K mainGlobals "enumerate" = some none)
    (z_min : PySem.W.nsIn K mainGlobals "min" = some none)
    (z_max : PySem.W.nsIn K mainGlobals "max" = some none)
    (z_sum : PySem.W.nsIn K mainGlobals "sum" = some none)
    (z_sorted : PySem.W.nsIn K mainGlobals "sorted" = some none)
    (z_set : PySem.W.nsIn K mainGlobals "set" = some none)
    (z_list : PySem.W.nsIn K mainGlobals "list" = some none)
    (z_abs : PySem.W.nsIn K mainGlobals "abs" = some none)
    (v_LETTERS : PySem.W.nsIn K mainGlobals "LETTERS" = some (some (.str "abcdefghijklmnopqrstuvwxyz" t_LETTERS)))
    (v_LONGEST_NAME : PySem.W.nsIn K mainGlobals "LONGEST_NAME" = some (some (.int 8 t_LONGEST_NAME)))
    (v_MOST_KINDS : PySem.W.nsIn K mainGlobals "MOST_KINDS" = some (some (.int 8 t_MOST_KINDS)))
    (v_MOST_TYPES : PySem.W.nsIn K mainGlobals "MOST_TYPES" = some (some (.int 12 t_MOST_TYPES))) :
    ∃ fd : FuncData, (∀ (s : Shared) (v : Value), BindsTo s fd ⟨[v], []⟩ [("_law_script", v)]) ∧ ∀ base : Heap, K.In base → base.Ns mainGlobals mg → FnOk l.prog w K mg base CX0 18 fa fd ["_law_script"] (spLaw K) := by
  have e := hfa.symm.trans (PySem.W.mg_of X G a63)
  cases e
  have T : Tx mg := ⟨PySem.W.mg_none_of X G z_isinstance, PySem.W.mg_none_of X G z_int, PySem.W.mg_none_of X G z_bool, PySem.W.mg_none_of X G z_str, PySem.W.mg_none_of X G z_tuple, PySem.W.mg_none_of X G z_len, PySem.W.mg_none_of X G z_all, PySem.W.mg_none_of X G z_any, PySem.W.mg_none_of X G z_range, PySem.W.mg_none_of X G z_enumerate, PySem.W.mg_none_of X G z_min, PySem.W.mg_none_of X G z_max, PySem.W.mg_none_of X G z_sum, PySem.W.mg_none_of X G z_sorted, PySem.W.mg_none_of X G z_set, PySem.W.mg_none_of X G z_list, PySem.W.mg_none_of X G z_abs, ⟨_, PySem.W.mg_of X G v_LETTERS⟩, ⟨_, PySem.W.mg_of X G v_LONGEST_NAME⟩, ⟨_, PySem.W.mg_of X G v_MOST_KINDS⟩, ⟨_, PySem.W.mg_of X G v_MOST_TYPES⟩⟩
  have D7 : Df K mg "is_integer" (top 7) ["value"] := ⟨_, _, fun_mk (st := top 7) l7 c7 k7, PySem.W.mg_of X G a7, (fun_mk (st := top 7) l7 c7 k7).binds (ps := ["value"]) fun _ _ _ _ _ _ us hl => match us, hl with | [_], _ => rfl⟩
  have D8 : Df K mg "is_number" (top 8) ["value"] := ⟨_, _, fun_mk (st := top 8) l8 c8 k8, PySem.W.mg_of X G a8, (fun_mk (st := top 8) l8 c8 k8).binds (ps := ["value"]) fun _ _ _ _ _ _ us hl => match us, hl with | [_], _ => rfl⟩
  have D9 : Df K mg "is_name" (top 9) ["value"] := ⟨_, _, fun_mk (st := top 9) l9 c9 k9, PySem.W.mg_of X G a9, (fun_mk (st := top 9) l9 c9 k9).binds (ps := ["value"]) fun _ _ _ _ _ _ us hl => match us, hl with | [_], _ => rfl⟩
  have D10 : Df K mg "are_numbers" (top 10) ["value"] := ⟨_, _, fun_mk (st := top 10) l10 c10 k10, PySem.W.mg_of X G a10, (fun_mk (st := top 10) l10 c10 k10).binds (ps := ["value"]) fun _ _ _ _ _ _ us hl => match us, hl with | [_], _ => rfl⟩
  have D11 : Df K mg "is_ascending" (top 11) ["items"] := ⟨_, _, fun_mk (st := top 11) l11 c11 k11, PySem.W.mg_of X G a11, (fun_mk (st := top 11) l11 c11 k11).binds (ps := ["items"]) fun _ _ _ _ _ _ us hl => match us, hl with | [_], _ => rfl⟩
  have D12 : Df K mg "is_listing" (top 12) ["value", "bound"] := ⟨_, _, fun_mk (st := top 12) l12 c12 k12, PySem.W.mg_of X G a12, (fun_mk (st := top 12) l12 c12 k12).binds (ps := ["value", "bound"]) fun _ _ _ _ _ _ us hl => match us, hl with | [_, _], _ => rfl⟩
  have D16 : Df K mg "are_kinds" (top 16) ["value"] := ⟨_, _, fun_mk (st := top 16) l16 c16 k16, PySem.W.mg_of X G a16, (fun_mk (st := top 16) l16 c16 k16).binds (ps := ["value"]) fun _ _ _ _ _ _ us hl => match us, hl with | [_], _ => rfl⟩
  have D17 : Df K mg "is_type" (top 17) ["kinds", "value", "last"] := ⟨_, _, fun_mk (st := top 17) l17 c17 k17, PySem.W.mg_of X G a17, (fun_mk (st := top 17) l17 c17 k17).binds (ps := ["kinds", "value", "last"]) fun _ _ _ _ _ _ us hl => match us, hl with | [_, _, _], _ => rfl⟩
  have D19 : Df K mg "takers" (top 19) ["table", "kind"] := ⟨_, _, fun_mk (st := top 19) l19 c19 k19, PySem.W.mg_of X G a19, (fun_mk (st := top 19) l19 c19 k19).binds (ps := ["table", "kind"]) fun _ _ _ _ _ _ us hl => match us, hl with | [_, _], _ => rfl⟩
  have D20 : Df K mg "all_takers" (top 20) ["table"] := ⟨_, _, fun_mk (st := top 20) l20 c20 k20, PySem.W.mg_of X G a20, (fun_mk (st := top 20) l20 c20 k20).binds (ps := ["table"]) fun _ _ _ _ _ _ us hl => match us, hl with | [_], _ => rfl⟩
  have D21 : Df K mg "without_types" (top 21) ["table", "types"] := ⟨_, _, fun_mk (st := top 21) l21 c21 k21, PySem.W.mg_of X G a21, (fun_mk (st := top 21) l21 c21 k21).binds (ps := ["table", "types"]) fun _ _ _ _ _ _ us hl => match us, hl with | [_, _], _ => rfl⟩
  have D22 : Df K mg "without_kinds" (top 22) ["table", "kinds"] := ⟨_, _, fun_mk (st := top 22) l22 c22 k22, PySem.W.mg_of X G a22, (fun_mk (st := top 22) l22 c22 k22).binds (ps := ["table", "kinds"]) fun _ _ _ _ _ _ us hl => match us, hl with | [_, _], _ => rfl⟩
  have D23 : Df K mg "twin_places" (top 23) ["lots"] := ⟨_, _, fun_mk (st := top 23) l23 c23 k23, PySem.W.mg_of X G a23, (fun_mk (st := top 23) l23 c23 k23).binds (ps := ["lots"]) fun _ _ _ _ _ _ us hl => match us, hl with | [_], _ => rfl⟩
  have D24 : Df K mg "joined_kinds" (top 24) ["table"] := ⟨_, _, fun_mk (st := top 24) l24 c24 k24, PySem.W.mg_of X G a24, (fun_mk (st := top 24) l24 c24 k24).binds (ps := ["table"]) fun _ _ _ _ _ _ us hl => match us, hl with | [_], _ => rfl⟩
  have D25 : Df K mg "joined_types" (top 25) ["table"] := ⟨_, _, fun_mk (st := top 25) l25 c25 k25, PySem.W.mg_of X G a25, (fun_mk (st := top 25) l25 c25 k25).binds (ps := ["table"]) fun _ _ _ _ _ _ us hl => match us, hl with | [_], _ => rfl⟩
  have D28 : Df K mg "places_of" (top 28) ["table"] := ⟨_, _, fun_mk (st := top 28) l28 c28 k28, PySem.W.mg_of X G a28, (fun_mk (st := top 28) l28 c28 k28).binds (ps := ["table"]) fun _ _ _ _ _ _ us hl => match us, hl with | [_], _ => rfl⟩
  have D29 : Df K mg "way_up" (top 29) ["forest", "place"] := ⟨_, _, fun_mk (st := top 29) l29 c29 k29, PySem.W.mg_of X G a29, (fun_mk (st := top 29) l29 c29 k29).binds (ps := ["forest", "place"]) fun _ _ _ _ _ _ us hl => match us, hl with | [_, _], _ => rfl⟩
  have D30 : Df K mg "upward_kinds" (top 30) ["forest", "request"] := ⟨_, _, fun_mk (st := top 30) l30 c30 k30, PySem.W.mg_of X G a30, (fun_mk (st := top 30) l30 c30 k30).binds (ps := ["forest", "request"]) fun _ _ _ _ _ _ us hl => match us, hl with | [_, _], _ => rfl⟩
  have D33 : Df K mg "parts_of_pair" (top 33) ["table", "one", "other"] := ⟨_, _, fun_mk (st := top 33) l33 c33 k33, PySem.W.mg_of X G a33, (fun_mk (st := top 33) l33 c33 k33).binds (ps := ["table", "one", "other"]) fun _ _ _ _ _ _ us hl => match us, hl with | [_, _, _], _ => rfl⟩
  have D34 : Df K mg "do_cross" (top 34) ["table", "one", "other"] := ⟨_, _, fun_mk (st := top 34) l34 c34 k34, PySem.W.mg_of X G a34, (fun_mk (st := top 34) l34 c34 k34).binds (ps := ["table", "one", "other"]) fun _ _ _ _ _ _ us hl => match us, hl with | [_, _, _], _ => rfl⟩
  have D35 : Df K mg "crossing_pairs" (top 35) ["table"] := ⟨_, _, fun_mk (st := top 35) l35 c35 k35, PySem.W.mg_of X G a35, (fun_mk (st := top 35) l35 c35 k35).binds (ps := ["table"]) fun _ _ _ _ _ _ us hl => match us, hl with | [_], _ => rfl⟩
  have D36 : Df K mg "crossings_of" (top 36) ["table"] := ⟨_, _, fun_mk (st := top 36) l36 c36 k36, PySem.W.mg_of X G a36, (fun_mk (st := top 36) l36 c36 k36).binds (ps := ["table"]) fun _ _ _ _ _ _ us hl => match us, hl with | [_], _ => rfl⟩
  have D37 : Df K mg "is_part" (top 37) ["one", "other"] := ⟨_, _, fun_mk (st := top 37) l37 c37 k37, PySem.W.mg_of X G a37, (fun_mk (st := top 37) l37 c37 k37).binds (ps := ["one", "other"]) fun _ _ _ _ _ _ us hl => match us, hl with | [_, _], _ => rfl⟩
  have D38 : Df K mg "above_of" (top 38) ["table", "places"] := ⟨_, _, fun_mk (st := top 38) l38 c38 k38, PySem.W.mg_of X G a38, (fun_mk (st := top 38) l38 c38 k38).binds (ps := ["table", "places"]) fun _ _ _ _ _ _ us hl => match us, hl with | [_, _], _ => rfl⟩
  have D39 : Df K mg "homes_in" (top 39) ["table", "places"] := ⟨_, _, fun_mk (st := top 39) l39 c39 k39, PySem.W.mg_of X G a39, (fun_mk (st := top 39) l39 c39 k39).binds (ps := ["table", "places"]) fun _ _ _ _ _ _ us hl => match us, hl with | [_, _], _ => rfl⟩
  have D40 : Df K mg "court" (top 40) ["table"] := ⟨_, _, fun_mk (st := top 40) l40 c40 k40, PySem.W.mg_of X G a40, (fun_mk (st := top 40) l40 c40 k40).binds (ps := ["table"]) fun _ _ _ _ _ _ us hl => match us, hl with | [_], _ => rfl⟩
  have D41 : Df K mg "are_nested_or_apart" (top 41) ["one", "other"] := ⟨_, _, fun_mk (st := top 41) l41 c41 k41, PySem.W.mg_of X G a41, (fun_mk (st := top 41) l41 c41 k41).binds (ps := ["one", "other"]) fun _ _ _ _ _ _ us hl => match us, hl with | [_, _], _ => rfl⟩
  have D42 : Df K mg "is_forest" (top 42) ["table"] := ⟨_, _, fun_mk (st := top 42) l42 c42 k42, PySem.W.mg_of X G a42, (fun_mk (st := top 42) l42 c42 k42).binds (ps := ["table"]) fun _ _ _ _ _ _ us hl => match us, hl with | [_], _ => rfl⟩
  have D44 : Df K mg "crossing_day" (top 44) ["table", "crossing"] := ⟨_, _, fun_mk (st := top 44) l44 c44 k44, PySem.W.mg_of X G a44, (fun_mk (st := top 44) l44 c44 k44).binds (ps := ["table", "crossing"]) fun _ _ _ _ _ _ us hl => match us, hl with | [_, _], _ => rfl⟩
  have D46 : Df K mg "_law_heap" (top 46) ["_law_script"] := ⟨_, _, fun_mk (st := top 46) l46 c46 k46, PySem.W.mg_of X G a46, (fun_mk (st := top 46) l46 c46 k46).binds (ps := ["_law_script"]) fun _ _ _ _ _ _ us hl => match us, hl with | [_], _ => rfl⟩
  have D47 : Df K mg "_law_draw" (top 47) ["_law_heap_here", "_law_many"] := ⟨_, _, fun_mk (st := top 47) l47 c47 k47, PySem.W.mg_of X G a47, (fun_mk (st := top 47) l47 c47 k47).binds (ps := ["_law_heap_here", "_law_many"]) fun _ _ _ _ _ _ us hl => match us, hl with | [_, _], _ => rfl⟩
  have D48 : Df K mg "_law_pick" (top 48) ["_law_heap_here", "_law_some"] := ⟨_, _, fun_mk (st := top 48) l48 c48 k48, PySem.W.mg_of X G a48, (fun_mk (st := top 48) l48 c48 k48).binds (ps := ["_law_heap_here", "_law_some"]) fun _ _ _ _ _ _ us hl => match us, hl with | [_, _], _ => rfl⟩
  have D49 : Df K mg "_law_names" (top 49) ["_law_heap_here", "_law_many"] := ⟨_, _, fun_mk (st := top 49) l49 c49 k49, PySem.W.mg_of X G a49, (fun_mk (st := top 49) l49 c49 k49).binds (ps := ["_law_heap_here", "_law_many"]) fun _ _ _ _ _ _ us hl => match us, hl with | [_, _], _ => rfl⟩
  have D50 : Df K mg "_law_lot" (top 50) ["_law_heap_here", "_law_many", "_law_share"] := ⟨_, _, fun_mk (st := top 50) l50 c50 k50, PySem.W.mg_of X G a50, (fun_mk (st := top 50) l50 c50 k50).binds (ps := ["_law_heap_here", "_law_many", "_law_share"]) fun _ _ _ _ _ _ us hl => match us, hl with | [_, _, _], _ => rfl⟩
  have D51 : Df K mg "_law_parts" (top 51) ["_law_heap_here", "_law_kinds", "_law_types"] := ⟨_, _, fun_mk (st := top 51) l51 c51 k51, PySem.W.mg_of X G a51, (fun_mk (st := top 51) l51 c51 k51).binds (ps := ["_law_heap_here", "_law_kinds", "_law_types"]) fun _ _ _ _ _ _ us hl => match us, hl with | [_, _, _], _ => rfl⟩
  have D52 : Df K mg "_law_forest_parts" (top 52) ["_law_heap_here", "_law_kinds", "_law_types"] := ⟨_, _, fun_mk (st := top 52) l52 c52 k52, PySem.W.mg_of X G a52, (fun_mk (st := top 52) l52 c52 k52).binds (ps := ["_law_heap_here", "_law_kinds", "_law_types"]) fun _ _ _ _ _ _ us hl => match us, hl with | [_, _, _], _ => rfl⟩
  have D53 : Df K mg "_law_any_parts" (top 53) ["_law_heap_here", "_law_kinds", "_law_types"] := ⟨_, _, fun_mk (st := top 53) l53 c53 k53, PySem.W.mg_of X G a53, (fun_mk (st := top 53) l53 c53 k53).binds (ps := ["_law_heap_here", "_law_kinds", "_law_types"]) fun _ _ _ _ _ _ us hl => match us, hl with | [_, _, _], _ => rfl⟩
  have D54 : Df K mg "_law_takers" (top 54) ["_law_kinds", "_law_types"] := ⟨_, _, fun_mk (st := top 54) l54 c54 k54, PySem.W.mg_of X G a54, (fun_mk (st := top 54) l54 c54 k54).binds (ps := ["_law_kinds", "_law_types"]) fun _ _ _ _ _ _ us hl => match us, hl with | [_, _], _ => rfl⟩
  have D55 : Df K mg "_law_crossings" (top 55) ["_law_kinds", "_law_types"] := ⟨_, _, fun_mk (st := top 55) l55 c55 k55, PySem.W.mg_of X G a55, (fun_mk (st := top 55) l55 c55 k55).binds (ps := ["_law_kinds", "_law_types"]) fun _ _ _ _ _ _ us hl => match us, hl with | [_, _], _ => rfl⟩
  have D56 : Df K mg "_law_most" (top 56) ["_law_types", "_law_stock", "_law_row"] := ⟨_, _, fun_mk (st := top 56) l56 c56 k56, PySem.W.mg_of X G a56, (fun_mk (st := top 56) l56 c56 k56).binds (ps := ["_law_types", "_law_stock", "_law_row"]) fun _ _ _ _ _ _ us hl => match us, hl with | [_, _, _], _ => rfl⟩
  have D57 : Df K mg "_law_can_avoid" (top 57) ["_law_types", "_law_stock", "_law_left", "_law_served_here", "_law_rows_here"] := ⟨_, _, fun_mk (st := top 57) l57 c57 k57, PySem.W.mg_of X G a57, (fun_mk (st := top 57) l57 c57 k57).binds (ps := ["_law_types", "_law_stock", "_law_left", "_law_served_here", "_law_rows_here"]) fun _ _ _ _ _ _ us hl => match us, hl with | [_, _, _, _, _], _ => rfl⟩
  have D58 : Df K mg "_law_rows" (top 58) ["_law_many", "_law_length"] := ⟨_, _, fun_mk (st := top 58) l58 c58 k58, PySem.W.mg_of X G a58, (fun_mk (st := top 58) l58 c58 k58).binds (ps := ["_law_many", "_law_length"]) fun _ _ _ _ _ _ us hl => match us, hl with | [_, _], _ => rfl⟩
  have D59 : Df K mg "_law_served" (top 59) ["_law_forest", "_law_types", "_law_stock", "_law_row"] := ⟨_, _, fun_mk (st := top 59) l59 c59 k59, PySem.W.mg_of X G a59, (fun_mk (st := top 59) l59 c59 k59).binds (ps := ["_law_forest", "_law_types", "_law_stock", "_law_row"]) fun _ _ _ _ _ _ us hl => match us, hl with | [_, _, _, _], _ => rfl⟩
  have D60 : Df K mg "_law_rule_right" (top 60) ["_law_heap_here", "_law_forest", "_law_types", "_law_stock", "_law_length"] := ⟨_, _, fun_mk (st := top 60) l60 c60 k60, PySem.W.mg_of X G a60, (fun_mk (st := top 60) l60 c60 k60).binds (ps := ["_law_heap_here", "_law_forest", "_law_types", "_law_stock", "_law_length"]) fun _ _ _ _ _ _ us hl => match us, hl with | [_, _, _, _, _], _ => rfl⟩
  have D61 : Df K mg "_law_right" (top 61) ["_law_heap_here", "_law_kinds", "_law_types"] := ⟨_, _, fun_mk (st := top 61) l61 c61 k61, PySem.W.mg_of X G a61, (fun_mk (st := top 61) l61 c61 k61).binds (ps := ["_law_heap_here", "_law_kinds", "_law_types"]) fun _ _ _ _ _ _ us hl => match us, hl with | [_, _, _], _ => rfl⟩
  have D62 : Df K mg "_law_less_right" (top 62) ["_law_heap_here", "_law_kinds", "_law_types"] := ⟨_, _, fun_mk (st := top 62) l62 c62 k62, PySem.W.mg_of X G a62, (fun_mk (st := top 62) l62 c62 k62).binds (ps := ["_law_heap_here", "_law_kinds", "_law_types"]) fun _ _ _ _ _ _ us hl => match us, hl with | [_, _, _], _ => rfl⟩
  have D63 : Df K mg "law" (top 63) ["_law_script"] := ⟨_, _, fun_mk (st := top 63) l63 c63 k63, PySem.W.mg_of X G a63, (fun_mk (st := top 63) l63 c63 k63).binds (ps := ["_law_script"]) fun _ _ _ _ _ _ us hl => match us, hl with | [_], _ => rfl⟩
  have D18 : DfC K mg "Table" (inClass (top 18) 0) CT ["self", "kinds", "types"] := ⟨_, _, ⟨mk18, a18, i18, kc18⟩, fun_mk (st := inClass (top 18) 0) l18 c18 k18, PySem.W.mg_of X G b18, (fun_mk (st := inClass (top 18) 0) l18 c18 k18).binds (ps := ["self", "kinds", "types"]) fun _ _ _ _ _ _ us hl => match us, hl with | [_, _, _], _ => rfl⟩
  have L18 : Cls K CT := ⟨pg18, hd18, po18, sa18⟩
  have D27 : DfC K mg "Forest" (inClass (top 27) 0) CF ["self", "places", "above", "homes"] := ⟨_, _, ⟨mk27, a27, i27, kc27⟩, fun_mk (st := inClass (top 27) 0) l27 c27 k27, PySem.W.mg_of X G b27, (fun_mk (st := inClass (top 27) 0) l27 c27 k27).binds (ps := ["self", "places", "above", "homes"]) fun _ _ _ _ _ _ us hl => match us, hl with | [_, _, _, _], _ => rfl⟩
  have L27 : Cls K CF := ⟨pg27, hd27, po27, sa27⟩
  have D32 : DfC K mg "Crossing" (inClass (top 32) 0) CC ["self", "kinds", "types"] := ⟨_, _, ⟨mk32, a32, i32, kc32⟩, fun_mk (st := inClass (top 32) 0) l32 c32 k32, PySem.W.mg_of X G b32, (fun_mk (st := inClass (top 32) 0) l32 c32 k32).binds (ps := ["self", "kinds", "types"]) fun _ _ _ _ _ _ us hl => match us, hl with | [_, _, _], _ => rfl⟩
  have L32 : Cls K CC := ⟨pg32, hd32, po32, sa32⟩
  have kFF : PySem.W.kitOne K (.ref CF) (.ref CF) = some true := by
    unfold PySem.W.kitOne
    rw [if_pos (beq_self_eq_true _)]
  have kCF : PySem.W.kitOne K (.ref CC) (.ref CF) = some false := by
    have ne : CC ≠ CF := fun z => by
      rw [z, sFF] at sCF
      cases sCF
    unfold PySem.W.kitOne
    rw [if_neg (fun z => ne (Value.ref.inj (eq_of_beq z)))]
    unfold PySem.W.kitCls
    simp only [ci27, ty27, sCF, Option.isSome_some, Bool.true_and, beq_self_eq_true, if_true]
  have Z : Cz K mg CT CF CC := ⟨L18, n18_kinds, n18_types, L27, n27_places, n27_above, n27_homes, L32, n32_kinds, n32_types, ⟨L27, ha27, hn, htk, hm27⟩, ⟨L32, ha32, hn, htk, hm32⟩, kFF, kCF, PySem.W.mg_of X G b27⟩
  exact ⟨PySem.W.fnOf "law" "law" (defArgs (top 63)) (defBody (top 63)) (defScope (top 63)) .none kV63 dc63 pm63 an63 cd63 ct63, fun s v => .of_eq rfl, fun base _ _ =>
    law_ok T Z D7 D8 D9 D10 D11 D12 D16 D17 D19 D20 D21 D22 D23 D24 D25 D28 D29 D30 D33 D34 D35 D36 D37 D38 D39 D40 D41 D42 D44 D46 D47 D48 D49 D50 D51 D52 D53 D54 D55 D56 D57 D58 D59 D60 D61 D62 D18 D27 D32 (fun_mk (st := top 63) l63 c63 k63)⟩
theorem walk {l : PySem.W.OpenLaw} {q : Program} {loose : List Str} {XP : (Str → Option Value) → Heap → Prop} {YP : World → Heap → Prop} {d : DefRec} {K : Params → PySem.W.Frag} (hn : l.most = some 63) (hdf : d.params.defaults = [])
    (hY : ∀ (w : World) (h : Heap), YP w h → (K w.params).In h)
    (F : ∀ (w : World) (mg : Str → Option Value) (fa : Addr) (h : Heap), (K w.params).In h → h.Ns mainGlobals mg → mg d.name = some (.ref fa) →
      ∃ fd : FuncData, (∀ (s : Shared) (u : Value), BindsTo s fd ⟨[u], []⟩ [("_law_script", u)]) ∧ ∀ base : Heap, (K w.params).In base → base.Ns mainGlobals mg → FnOk l.prog w (K w.params) mg base CX0 18 fa fd ["_law_script"] (spLaw (K w.params))) :
    PySem.W.WalkO q loose XP YP l.row.toRowW d [] (fun f vs => PySem.call f vs) :=
  L2.walk_of (n := 63) (k := 18) (x := "_law_script") (CX := fun _ => CX0) (sp := fun w => spLaw (K w.params)) hn (by decide) hdf ⟨rfl, by decide, by decide⟩ hY F (fun _ _ a ns hl _ hS => ⟨a, ns, rfl, hS, hl, fun _ => rfl⟩) fun _ _ _ _ _ z => z
end NR
open PySem PySem.W PyProof.Rows in
set_option maxRecDepth 100000 in
set_option maxHeartbeats 0 in
theorem PySem.Challenge.cw_neverregret_k18_whole_court_and_the_plai_holds : PySem.Challenge.rw_neverregret_k18_whole_court_and_the_plai.Holds := by
  w_on; o_law; k_head; (case hw => w_witness2)
  k_fill
  refine NR.walk (l := PySem.Challenge.rw_neverregret_k18_whole_court_and_the_plai) rfl rfl (fun w h Y => PySem.W.kIn_of Y) ?F
  case F =>
    intro w mg fa h KX G hmg
    refine' NR.all_mk KX G hmg ?a7 ?l7 ?c7 ?k7 ?a8 ?l8 ?c8 ?k8 ?a9 ?l9 ?c9 ?k9 ?a10 ?l10 ?c10 ?k10 ?a11 ?l11 ?c11 ?k11 ?a12 ?l12 ?c12 ?k12 ?a16 ?l16 ?c16 ?k16 ?a17 ?l17 ?c17 ?k17 ?a19 ?l19 ?c19 ?k19 ?a20 ?l20 ?c20 ?k20 ?a21 ?l21 ?c21 ?k21 ?a22 ?l22 ?c22 ?k22 ?a23 ?l23 ?c23 ?k23 ?a24 ?l24 ?c24 ?k24 ?a25 ?l25 ?c25 ?k25 ?a28 ?l28 ?c28 ?k28 ?a29 ?l29 ?c29 ?k29 ?a30 ?l30 ?c30 ?k30 ?a33 ?l33 ?c33 ?k33 ?a34 ?l34 ?c34 ?k34 ?a35 ?l35 ?c35 ?k35 ?a36 ?l36 ?c36 ?k36 ?a37 ?l37 ?c37 ?k37 ?a38 ?l38 ?c38 ?k38 ?a39 ?l39 ?c39 ?k39 ?a40 ?l40 ?c40 ?k40 ?a41 ?l41 ?c41 ?k41 ?a42 ?l42 ?c42 ?k42 ?a44 ?l44 ?c44 ?k44 ?a46 ?l46 ?c46 ?k46 ?a47 ?l47 ?c47 ?k47 ?a48 ?l48 ?c48 ?k48 ?a49 ?l49 ?c49 ?k49 ?a50 ?l50 ?c50 ?k50 ?a51 ?l51 ?c51 ?k51 ?a52 ?l52 ?c52 ?k52 ?a53 ?l53 ?c53 ?k53 ?a54 ?l54 ?c54 ?k54 ?a55 ?l55 ?c55 ?k55 ?a56 ?l56 ?c56 ?k56 ?a57 ?l57 ?c57 ?k57 ?a58 ?l58 ?c58 ?k58 ?a59 ?l59 ?c59 ?k59 ?a60 ?l60 ?c60 ?k60 ?a61 ?l61 ?c61 ?k61 ?a62 ?l62 ?c62 ?k62 ?a63 ?l63 ?c63 ?k63 ?b18 ?a18 ?i18 ?l18 ?c18 ?k18 ?pg18 ?hd18 ?po18 ?sa18 ?mk18 ?kc18 ?n18_kinds ?n18_types ?b27 ?a27 ?i27 ?l27 ?c27 ?k27 ?pg27 ?hd27 ?po27 ?sa27 ?mk27 ?kc27 ?n27_places ?n27_above ?n27_homes ?ha27 ?hm27 ?b32 ?a32 ?i32 ?l32 ?c32 ?k32 ?pg32 ?hd32 ?po32 ?sa32 ?mk32 ?kc32 ?n32_kinds ?n32_types ?ha32 ?hm32 ?hn ?htk ?ci27 ?ty27 ?sCF ?sFF ?z_isinstance ?z_int ?z_bool ?z_str ?z_tuple ?z_len ?z_all ?z_any ?z_range ?z_enumerate ?z_min ?z_max ?z_sum ?z_sorted ?z_set ?z_list ?z_abs ?v_LETTERS ?v_LONGEST_NAME ?v_MOST_KINDS ?v_MOST_TYPES
    (case a7 => k_is)
    (case l7 => k_is)
    (case c7 => k_is)
    (case k7 => k_is)
    (case a8 => k_is)
    (case l8 => k_is)
    (case c8 => k_is)
    (case k8 => k_is)
    (case a9 => k_is)
    (case l9 => k_is)
    (case c9 => k_is)
    (case k9 => k_is)
    (case a10 => k_is)
    (case l10 => k_is)
    (case c10 => k_is)
    (case k10 => k_is)
    (case a11 => k_is)
    (case l11 => k_is)
    (case c11 => k_is)
    (case k11 => k_is)
    (case a12 => k_is)
    (case l12 => k_is)
    (case c12 => k_is)
    (case k12 => k_is)
    (case a16 => k_is)
    (case l16 => k_is)
    (case c16 => k_is)
    (case k16 => k_is)
    (case a17 => k_is)
    (case l17 => k_is)
    (case c17 => k_is)
    (case k17 => k_is)
    (case a19 => k_is)
    (case l19 => k_is)
    (case c19 => k_is)
    (case k19 => k_is)
    (case a20 => k_is)
    (case l20 => k_is)
    (case c20 => k_is)
    (case k20 => k_is)
    (case a21 => k_is)
    (case l21 => k_is)
    (case c21 => k_is)
    (case k21 => k_is)
    (case a22 => k_is)
    (case l22 => k_is)
    (case c22 => k_is)
    (case k22 => k_is)
    (case a23 => k_is)
    (case l23 => k_is)
    (case c23 => k_is)
    (case k23 => k_is)
    (case a24 => k_is)
    (case l24 => k_is)
    (case c24 => k_is)
    (case k24 => k_is)
    (case a25 => k_is)
    (case l25 => k_is)
    (case c25 => k_is)
    (case k25 => k_is)
    (case a28 => k_is)
    (case l28 => k_is)
    (case c28 => k_is)
    (case k28 => k_is)
    (case a29 => k_is)
    (case l29 => k_is)
    (case c29 => k_is)
    (case k29 => k_is)
    (case a30 => k_is)
    (case l30 => k_is)
    (case c30 => k_is)
    (case k30 => k_is)
    (case a33 => k_is)
    (case l33 => k_is)
    (case c33 => k_is)
    (case k33 => k_is)
    (case a34 => k_is)
    (case l34 => k_is)
    (case c34 => k_is)
    (case k34 => k_is)
    (case a35 => k_is)
    (case l35 => k_is)
    (case c35 => k_is)
    (case k35 => k_is)
    (case a36 => k_is)
    (case l36 => k_is)
    (case c36 => k_is)
    (case k36 => k_is)
    (case a37 => k_is)
    (case l37 => k_is)
    (case c37 => k_is)
    (case k37 => k_is)
    (case a38 => k_is)
    (case l38 => k_is)
    (case c38 => k_is)
    (case k38 => k_is)
    (case a39 => k_is)
    (case l39 => k_is)
    (case c39 => k_is)
    (case k39 => k_is)
    (case a40 => k_is)
    (case l40 => k_is)
    (case c40 => k_is)
    (case k40 => k_is)
    (case a41 => k_is)
    (case l41 => k_is)
    (case c41 => k_is)
    (case k41 => k_is)
    (case a42 => k_is)
    (case l42 => k_is)
    (case c42 => k_is)
    (case k42 => k_is)
    (case a44 => k_is)
    (case l44 => k_is)
    (case c44 => k_is)
    (case k44 => k_is)
    (case a46 => k_is)
    (case l46 => k_is)
    (case c46 => k_is)
    (case k46 => k_is)
    (case a47 => k_is)
    (case l47 => k_is)
    (case c47 => k_is)
    (case k47 => k_is)
    (case a48 => k_is)
    (case l48 => k_is)
    (case c48 => k_is)
    (case k48 => k_is)
    (case a49 => k_is)
    (case l49 => k_is)
    (case c49 => k_is)
    (case k49 => k_is)
    (case a50 => k_is)
    (case l50 => k_is)
    (case c50 => k_is)
    (case k50 => k_is)
    (case a51 => k_is)
    (case l51 => k_is)
    (case c51 => k_is)
    (case k51 => k_is)
    (case a52 => k_is)
    (case l52 => k_is)
    (case c52 => k_is)
    (case k52 => k_is)
    (case a53 => k_is)
    (case l53 => k_is)
    (case c53 => k_is)
    (case k53 => k_is)
    (case a54 => k_is)
    (case l54 => k_is)
    (case c54 => k_is)
    (case k54 => k_is)
    (case a55 => k_is)
    (case l55 => k_is)
    (case c55 => k_is)
    (case k55 => k_is)
    (case a56 => k_is)
    (case l56 => k_is)
    (case c56 => k_is)
    (case k56 => k_is)
    (case a57 => k_is)
    (case l57 => k_is)
    (case c57 => k_is)
    (case k57 => k_is)
    (case a58 => k_is)
    (case l58 => k_is)
    (case c58 => k_is)
    (case k58 => k_is)
    (case a59 => k_is)
    (case l59 => k_is)
    (case c59 => k_is)
    (case k59 => k_is)
    (case a60 => k_is)
    (case l60 => k_is)
    (case c60 => k_is)
    (case k60 => k_is)
    (case a61 => k_is)
    (case l61 => k_is)
    (case c61 => k_is)
    (case k61 => k_is)
    (case a62 => k_is)
    (case l62 => k_is)
    (case c62 => k_is)
    (case k62 => k_is)
    (case a63 => k_is)
    (case l63 => k_is)
    (case c63 => k_is)
    (case k63 => k_is)
    (case b18 => k_is)
    (case a18 => k_is)
    (case i18 => k_is)
    (case l18 => k_is)
    (case c18 => k_is)
    (case k18 => k_is)
    (case pg18 => k_is)
    (case hd18 => k_is)
    (case po18 => k_is)
    (case sa18 => k_is)
    (case mk18 => k_is)
    (case kc18 => k_is)
    (case n18_kinds => k_is)
    (case n18_types => k_is)
    (case b27 => k_is)
    (case a27 => k_is)
    (case i27 => k_is)
    (case l27 => k_is)
    (case c27 => k_is)
    (case k27 => k_is)
    (case pg27 => k_is)
    (case hd27 => k_is)
    (case po27 => k_is)
    (case sa27 => k_is)
    (case mk27 => k_is)
    (case kc27 => k_is)
    (case n27_places => k_is)
    (case n27_above => k_is)
    (case n27_homes => k_is)
    (case ha27 => k_is)
    (case hm27 => k_is)
    (case b32 => k_is)
    (case a32 => k_is)
    (case i32 => k_is)
    (case l32 => k_is)
    (case c32 => k_is)
    (case k32 => k_is)
    (case pg32 => k_is)
    (case hd32 => k_is)
    (case po32 => k_is)
    (case sa32 => k_is)
    (case mk32 => k_is)
    (case kc32 => k_is)
    (case n32_kinds => k_is)
    (case n32_types => k_is)
    (case ha32 => k_is)
    (case hm32 => k_is)
    (case hn => k_is)
    (case htk => k_is)
    (case ci27 => k_is)
    (case ty27 => k_is)
    (case sCF => k_is)
    (case sFF => k_is)
    (case z_isinstance => k_is)
    (case z_int => k_is)
    (case z_bool => k_is)
    (case z_str => k_is)
    (case z_tuple => k_is)
    (case z_len => k_is)
    (case z_all => k_is)
    (case z_any => k_is)
    (case z_range => k_is)
    (case z_enumerate => k_is)
    (case z_min => k_is)
    (case z_max => k_is)
    (case z_sum => k_is)
    (case z_sorted => k_is)
    (case z_set => k_is)
    (case z_list => k_is)
    (case z_abs => k_is)
    (case v_LETTERS => k_is)
    (case v_LONGEST_NAME => k_is)
    (case v_MOST_KINDS => k_is)
    (case v_MOST_TYPES => k_is)
