import PyProof.Rows.All
import Wide.All
import OpenK.AllK
import Wide.FinOn
import HandS.ForSpec
import HandS.ForMost
import HandS.TupAny
import HandS.NoneIn
import HandS.Conv
import HandS.Rev
import HandS.SortInts
import HandS.IsInst
import HandS.Style
import HandS.Flow
import HandS.ExcIs
import HandS.TryOnly
import HandS.ExcOwn
import HandS.Exc
import PySem.Challenge.RW_cairnhouse_k01_field_arithmetic
set_option Elab.async false
set_option linter.all false
set_option maxRecDepth 100000
set_option maxHeartbeats 4000000
/-! Cn0: what a value stands for (D, T), heaps that grow, the state of a body -/
namespace Cn
open PySem PySem.Spec L2

/-- a result: stuck, an exception of a class, a value -/
inductive R (α : Type) where
  | bad
  | err (c : Str)
  | ok (a : α)
def R.bind {α β : Type} (m : R α) (f : α → R β) : R β :=
  match m with
  | .bad => .bad
  | .err c => .err c
  | .ok a => f a
instance : Monad R where
  pure := R.ok
  bind := R.bind
theorem bind_ok {α β : Type} {a : α} {f : α → R β} : (R.ok a >>= f) = f a := rfl
theorem bind_bad {α β : Type} {f : α → R β} : ((R.bad : R α) >>= f) = R.bad := rfl
theorem bind_err {α β : Type} {c : Str} {f : α → R β} : ((R.err c : R α) >>= f) = R.err c := rfl
/-- what holds of a result: nothing is said of one that is stuck -/
def Po {α : Type} (m : R α) (Q : α → Prop) (E : Str → Prop) : Prop :=
  match m with
  | .bad => False
  | .err c => E c
  | .ok a => Q a
theorem Po.bind {α β : Type} {m : R α} {f : α → R β} {Q : β → Prop} {E : Str → Prop} (h : Po (m >>= f) Q E) : Po m (fun a => Po (f a) Q E) E := by
  cases m with
  | bad => exact h
  | err c => exact h
  | ok a => exact h
theorem Po.imp {α : Type} {m : R α} {Q Q' : α → Prop} {E E' : Str → Prop} (h : Po m Q E) (hq : ∀ a, m = .ok a → Q a → Q' a) (he : ∀ c, E c → E' c) : Po m Q' E' := by
  cases m with
  | bad => exact h
  | err c => exact he c h
  | ok a => exact hq a rfl h

/-- data as a whole; what is shared and stays -/
inductive D where
  /-- anything -/
  | any
  | non
  | bl (b : Bool)
  | int (i : Int)
  | str (s : Str)
  | tup (ds : List D)
  | lst (ds : List D)
  /-- a list that is read alone (the script, a list of the module's) -/
  | frl (ds : List D)
  | dic (ks : List Key) (ds : List D)
  | dit (ks : List (List Key)) (ds : List D)
  | obj (C : Str) (fs : List Str) (ds : List D)
/-- .. and what is one's own -/
inductive T where
  | imm (d : D)
  | lst (ts : List T)
  | dic (ks : List Key) (ts : List T)
  | dit (ks : List (List Key)) (ts : List T)
  | obj (C : Str) (fs : List Str) (ts : List T)
structure Ctx where
  K : PySem.W.Frag
  mg : Str → Option Value
mutual
/-- v stands for d in the heap M -/
def Rep (G : Ctx) (M : Hp) : D → V → Prop
  | .any, _ => True
  | .non, v => v = .non
  | .bl b, v => v = .bl b
  | .int i, v => v = .int i
  | .str s, v => v = .str s
  | .tup ds, v => ∃ a vs, v = .ref a ∧ SqT G.K M a vs ∧ Reps G M ds vs
  | .lst ds, v => ∃ a vs, v = .ref a ∧ M a = some (.lst vs) ∧ Reps G M ds vs
  | .frl ds, v => ∃ a vs, v = .ref a ∧ SqL G.K M a vs ∧ Reps G M ds vs
  | .dic ks ds, v => ∃ a kvs, v = .ref a ∧ M a = some (.dK kvs) ∧ kvs.map (·.1) = ks ∧ Reps G M ds (kvs.map (·.2))
  | .dit ks ds, v => ∃ a kvs, v = .ref a ∧ M a = some (.dT kvs) ∧ kvs.map (·.1) = ks ∧ Reps G M ds (kvs.map (·.2))
  | .obj C fs ds, v => ∃ a c dx kvs, v = .ref a ∧ G.mg C = some (.ref c) ∧ M a = some (.ins c dx kvs) ∧ kvs.map (·.1) = fs ∧ Reps G M ds (kvs.map (·.2))
def Reps (G : Ctx) (M : Hp) : List D → List V → Prop
  | [], vs => vs = []
  | d :: ds, vs => ∃ v r, vs = v :: r ∧ Rep G M d v ∧ Reps G M ds r
end
mutual
/-- v is the tree t: its own addresses are as, what is shared stands in M -/
def Own (G : Ctx) (M H : Hp) : T → V → List Addr → Prop
  | .imm d, v, as => as = [] ∧ Rep G M d v
  | .lst ts, v, as => ∃ a vs r, v = .ref a ∧ as = a :: r ∧ H a = some (.lst vs) ∧ Owns G M H ts vs r
  | .dic ks ts, v, as => ∃ a kvs r, v = .ref a ∧ as = a :: r ∧ H a = some (.dK kvs) ∧ kvs.map (·.1) = ks ∧ Owns G M H ts (kvs.map (·.2)) r
  | .dit ks ts, v, as => ∃ a kvs r, v = .ref a ∧ as = a :: r ∧ H a = some (.dT kvs) ∧ kvs.map (·.1) = ks ∧ Owns G M H ts (kvs.map (·.2)) r
  | .obj C fs ts, v, as => ∃ a c dx kvs r, v = .ref a ∧ as = a :: r ∧ G.mg C = some (.ref c) ∧ H a = some (.ins c dx kvs) ∧ kvs.map (·.1) = fs ∧ Owns G M H ts (kvs.map (·.2)) r
def Owns (G : Ctx) (M H : Hp) : List T → List V → List Addr → Prop
  | [], vs, as => vs = [] ∧ as = []
  | t :: ts, vs, as => ∃ v r a1 a2, vs = v :: r ∧ as = a1 ++ a2 ∧ Own G M H t v a1 ∧ Owns G M H ts r a2
end
section
variable {G : Ctx} {M M' H H' : Hp}
theorem same_sqt {a : Addr} {xs : List V} {K : PySem.W.Frag} (e : Same M M') (h : SqT K M a xs) : SqT K M' a xs := by
  rcases h with (h | ⟨o, h⟩) | h
  · exact .inl (.inl (e _ _ h))
  · exact .inl (.inr ⟨o, e _ _ h⟩)
  · exact .inr h
mutual
theorem Rep.mono (e : Same M M') : ∀ (d : D) (v : V), Rep G M d v → Rep G M' d v
  | .any, v, h => h
  | .non, v, h => h
  | .bl b, v, h => h
  | .int i, v, h => h
  | .str s, v, h => h
  | .tup ds, v, ⟨a, vs, h1, h2, h3⟩ => ⟨a, vs, h1, same_sqt e h2, Reps.mono e ds vs h3⟩
  | .lst ds, v, ⟨a, vs, h1, h2, h3⟩ => ⟨a, vs, h1, e _ _ h2, Reps.mono e ds vs h3⟩
  | .frl ds, v, ⟨a, vs, h1, h2, h3⟩ => ⟨a, vs, h1, e.seq h2, Reps.mono e ds vs h3⟩
  | .dic ks ds, v, ⟨a, vs, h1, h2, h4, h3⟩ => ⟨a, vs, h1, e _ _ h2, h4, Reps.mono e ds _ h3⟩
  | .dit ks ds, v, ⟨a, vs, h1, h2, h4, h3⟩ => ⟨a, vs, h1, e _ _ h2, h4, Reps.mono e ds _ h3⟩
  | .obj C fs ds, v, ⟨a, c, dx, vs, h1, h5, h2, h4, h3⟩ => ⟨a, c, dx, vs, h1, h5, e _ _ h2, h4, Reps.mono e ds _ h3⟩
theorem Reps.mono (e : Same M M') : ∀ (ds : List D) (vs : List V), Reps G M ds vs → Reps G M' ds vs
  | [], vs, h => h
  | d :: ds, vs, ⟨v, r, h1, h2, h3⟩ => ⟨v, r, h1, Rep.mono e d v h2, Reps.mono e ds r h3⟩
end
mutual
theorem Own.keep (e : Same M M') : ∀ (t : T) (v : V) (as : List Addr), (∀ a ∈ as, ∀ o, H a = some o → H' a = some o) → Own G M H t v as → Own G M' H' t v as
  | .imm d, v, as, f, ⟨h1, h2⟩ => ⟨h1, Rep.mono e d v h2⟩
  | .lst ts, v, as, f, ⟨a, vs, r, h1, h2, h3, h4⟩ => by
    subst h2
    exact ⟨a, vs, r, h1, rfl, f _ List.mem_cons_self _ h3, Owns.keep e ts _ _ (fun b hb => f b (List.mem_cons_of_mem _ hb)) h4⟩
  | .dic ks ts, v, as, f, ⟨a, vs, r, h1, h2, h3, h5, h4⟩ => by
    subst h2
    exact ⟨a, vs, r, h1, rfl, f _ List.mem_cons_self _ h3, h5, Owns.keep e ts _ _ (fun b hb => f b (List.mem_cons_of_mem _ hb)) h4⟩
  | .dit ks ts, v, as, f, ⟨a, vs, r, h1, h2, h3, h5, h4⟩ => by
    subst h2
    exact ⟨a, vs, r, h1, rfl, f _ List.mem_cons_self _ h3, h5, Owns.keep e ts _ _ (fun b hb => f b (List.mem_cons_of_mem _ hb)) h4⟩
  | .obj C fs ts, v, as, f, ⟨a, c, dx, vs, r, h1, h2, h6, h3, h5, h4⟩ => by
    subst h2
    exact ⟨a, c, dx, vs, r, h1, rfl, h6, f _ List.mem_cons_self _ h3, h5, Owns.keep e ts _ _ (fun b hb => f b (List.mem_cons_of_mem _ hb)) h4⟩
theorem Owns.keep (e : Same M M') : ∀ (ts : List T) (vs : List V) (as : List Addr), (∀ a ∈ as, ∀ o, H a = some o → H' a = some o) → Owns G M H ts vs as → Owns G M' H' ts vs as
  | [], vs, as, f, h => h
  | t :: ts, vs, as, f, ⟨v, r, a1, a2, h1, h2, h3, h4⟩ => by
    subst h2
    exact ⟨v, r, a1, a2, h1, rfl, Own.keep e t v a1 (fun b hb => f b (List.mem_append_left _ hb)) h3, Owns.keep e ts r a2 (fun b hb => f b (List.mem_append_right _ hb)) h4⟩
end
mutual
theorem Own.there : ∀ (t : T) (v : V) (as : List Addr), Own G M H t v as → ∀ a ∈ as, H a ≠ none
  | .imm d, v, as, ⟨h1, h2⟩, b, hb => by rw [h1] at hb; cases hb
  | .lst ts, v, as, ⟨a, vs, r, h1, h2, h3, h4⟩, b, hb => by
    subst h2
    rcases List.mem_cons.mp hb with z | z
    · rw [z, h3]; exact fun q => nomatch q
    · exact Owns.there ts _ _ h4 b z
  | .dic ks ts, v, as, ⟨a, vs, r, h1, h2, h3, h5, h4⟩, b, hb => by
    subst h2
    rcases List.mem_cons.mp hb with z | z
    · rw [z, h3]; exact fun q => nomatch q
    · exact Owns.there ts _ _ h4 b z
  | .dit ks ts, v, as, ⟨a, vs, r, h1, h2, h3, h5, h4⟩, b, hb => by
    subst h2
    rcases List.mem_cons.mp hb with z | z
    · rw [z, h3]; exact fun q => nomatch q
    · exact Owns.there ts _ _ h4 b z
  | .obj C fs ts, v, as, ⟨a, c, dx, vs, r, h1, h2, h6, h3, h5, h4⟩, b, hb => by
    subst h2
    rcases List.mem_cons.mp hb with z | z
    · rw [z, h3]; exact fun q => nomatch q
    · exact Owns.there ts _ _ h4 b z
theorem Owns.there : ∀ (ts : List T) (vs : List V) (as : List Addr), Owns G M H ts vs as → ∀ a ∈ as, H a ≠ none
  | [], vs, as, ⟨h1, h2⟩, b, hb => by rw [h2] at hb; cases hb
  | t :: ts, vs, as, ⟨v, r, a1, a2, h1, h2, h3, h4⟩, b, hb => by
    subst h2
    rcases List.mem_append.mp hb with z | z
    · exact Own.there t v a1 h3 b z
    · exact Owns.there ts r a2 h4 b z
end
mutual
/-- frozen -/
def fz : T → D
  | .imm d => d
  | .lst ts => .lst (fzs ts)
  | .dic ks ts => .dic ks (fzs ts)
  | .dit ks ts => .dit ks (fzs ts)
  | .obj C fs ts => .obj C fs (fzs ts)
def fzs : List T → List D
  | [] => []
  | t :: ts => fz t :: fzs ts
end
theorem fzs_map {α : Type} (e : α → T) (xs : List α) : fzs (xs.map e) = xs.map fun x => fz (e x) := by
  induction xs with
  | nil => rfl
  | cons x r ih => show fz (e x) :: fzs (r.map e) = _; rw [ih]; rfl
mutual
theorem Own.freeze (e : Same M M') : ∀ (t : T) (v : V) (as : List Addr), (∀ a ∈ as, ∀ o, H a = some o → M' a = some o) → Own G M H t v as → Rep G M' (fz t) v
  | .imm d, v, as, f, ⟨h1, h2⟩ => Rep.mono e d v h2
  | .lst ts, v, as, f, ⟨a, vs, r, h1, h2, h3, h4⟩ => by
    subst h2
    exact ⟨a, vs, h1, f _ List.mem_cons_self _ h3, Owns.freeze e ts _ _ (fun b hb => f b (List.mem_cons_of_mem _ hb)) h4⟩
  | .dic ks ts, v, as, f, ⟨a, vs, r, h1, h2, h3, h5, h4⟩ => by
    subst h2
    exact ⟨a, vs, h1, f _ List.mem_cons_self _ h3, h5, Owns.freeze e ts _ _ (fun b hb => f b (List.mem_cons_of_mem _ hb)) h4⟩
  | .dit ks ts, v, as, f, ⟨a, vs, r, h1, h2, h3, h5, h4⟩ => by
    subst h2
    exact ⟨a, vs, h1, f _ List.mem_cons_self _ h3, h5, Owns.freeze e ts _ _ (fun b hb => f b (List.mem_cons_of_mem _ hb)) h4⟩
  | .obj C fs ts, v, as, f, ⟨a, c, dx, vs, r, h1, h2, h6, h3, h5, h4⟩ => by
    subst h2
    exact ⟨a, c, dx, vs, h1, h6, f _ List.mem_cons_self _ h3, h5, Owns.freeze e ts _ _ (fun b hb => f b (List.mem_cons_of_mem _ hb)) h4⟩
theorem Owns.freeze (e : Same M M') : ∀ (ts : List T) (vs : List V) (as : List Addr), (∀ a ∈ as, ∀ o, H a = some o → M' a = some o) → Owns G M H ts vs as → Reps G M' (fzs ts) vs
  | [], vs, as, f, h => h.1
  | t :: ts, vs, as, f, ⟨v, r, a1, a2, h1, h2, h3, h4⟩ => by
    subst h2
    exact ⟨v, r, h1, Own.freeze e t v a1 (fun b hb => f b (List.mem_append_left _ hb)) h3, Owns.freeze e ts r a2 (fun b hb => f b (List.mem_append_right _ hb)) h4⟩
end
end
/-! ### lists of data by places -/
section
variable {G : Ctx} {M H : Hp}
theorem Reps.len : ∀ {ds : List D} {vs : List V}, Reps G M ds vs → vs.length = ds.length
  | [], vs, h => by rw [show vs = [] from h]; rfl
  | d :: ds, vs, ⟨v, r, h1, h2, h3⟩ => by rw [h1, List.length_cons, List.length_cons, Reps.len h3]
theorem Reps.get : ∀ {ds : List D} {vs : List V} {i : Nat} {d : D}, Reps G M ds vs → ds[i]? = some d → ∃ v, vs[i]? = some v ∧ Rep G M d v
  | [], vs, i, d, h, e => by simp at e
  | d :: ds, vs, 0, x, ⟨v, r, h1, h2, h3⟩, e => by
    have z : d = x := Option.some.inj e
    subst z; subst h1
    exact ⟨v, rfl, h2⟩
  | d :: ds, vs, i + 1, x, ⟨v, r, h1, h2, h3⟩, e => by
    subst h1
    exact Reps.get (i := i) h3 e
theorem Reps.app : ∀ {ds es : List D} {vs ws : List V}, Reps G M ds vs → Reps G M es ws → Reps G M (ds ++ es) (vs ++ ws)
  | [], es, vs, ws, h, k => by rw [show vs = [] from h]; exact k
  | d :: ds, es, vs, ws, ⟨v, r, h1, h2, h3⟩, k => ⟨v, r ++ ws, by rw [h1]; rfl, h2, Reps.app h3 k⟩
theorem Reps.drop : ∀ {ds : List D} {vs : List V} (n : Nat), Reps G M ds vs → Reps G M (ds.drop n) (vs.drop n)
  | ds, vs, 0, h => h
  | [], vs, n + 1, h => by rw [show vs = [] from h]; exact rfl
  | d :: ds, vs, n + 1, ⟨v, r, h1, h2, h3⟩ => by subst h1; exact Reps.drop n h3
theorem Reps.take : ∀ {ds : List D} {vs : List V} (n : Nat), Reps G M ds vs → Reps G M (ds.take n) (vs.take n)
  | ds, vs, 0, h => rfl
  | [], vs, n + 1, h => by rw [show vs = [] from h]; exact rfl
  | d :: ds, vs, n + 1, ⟨v, r, h1, h2, h3⟩ => by subst h1; exact ⟨v, r.take n, rfl, h2, Reps.take n h3⟩
theorem Owns.len : ∀ {ts : List T} {vs : List V} {as : List Addr}, Owns G M H ts vs as → vs.length = ts.length
  | [], vs, as, h => by rw [h.1]; rfl
  | t :: ts, vs, as, ⟨v, r, a1, a2, h1, h2, h3, h4⟩ => by rw [h1, List.length_cons, List.length_cons, Owns.len h4]
theorem Owns.get : ∀ {ts : List T} {vs : List V} {as : List Addr} {i : Nat} {t : T}, Owns G M H ts vs as → ts[i]? = some t → ∃ v a, vs[i]? = some v ∧ Own G M H t v a ∧ ∀ b ∈ a, b ∈ as
  | [], vs, as, i, t, h, e => by simp at e
  | t :: ts, vs, as, 0, x, ⟨v, r, a1, a2, h1, h2, h3, h4⟩, e => by
    have z : t = x := Option.some.inj e
    subst z; subst h1; subst h2
    exact ⟨v, a1, rfl, h3, fun b hb => List.mem_append_left _ hb⟩
  | t :: ts, vs, as, i + 1, x, ⟨v, r, a1, a2, h1, h2, h3, h4⟩, e => by
    subst h1; subst h2
    obtain ⟨w, a, q1, q2, q3⟩ := Owns.get (i := i) h4 e
    exact ⟨w, a, q1, q2, fun b hb => List.mem_append_right _ (q3 b hb)⟩
theorem Owns.app : ∀ {ts us : List T} {vs ws : List V} {as bs : List Addr}, Owns G M H ts vs as → Owns G M H us ws bs → Owns G M H (ts ++ us) (vs ++ ws) (as ++ bs)
  | [], us, vs, ws, as, bs, h, k => by rw [h.1, h.2]; exact k
  | t :: ts, us, vs, ws, as, bs, ⟨v, r, a1, a2, h1, h2, h3, h4⟩, k => ⟨v, r ++ ws, a1, a2 ++ bs, by rw [h1]; rfl, by rw [h2, List.append_assoc], h3, Owns.app h4 k⟩
theorem Owns.imm : ∀ {ds : List D} {vs : List V}, Reps G M ds vs → Owns G M H (ds.map .imm) vs []
  | [], vs, h => ⟨h, rfl⟩
  | d :: ds, vs, ⟨v, r, h1, h2, h3⟩ => ⟨v, r, [], [], h1, rfl, ⟨rfl, h2⟩, Owns.imm h3⟩
theorem Owns.of_imm : ∀ {ds : List D} {vs : List V} {as : List Addr}, Owns G M H (ds.map .imm) vs as → Reps G M ds vs ∧ as = []
  | [], vs, as, h => ⟨h.1, h.2⟩
  | d :: ds, vs, as, ⟨v, r, a1, a2, h1, h2, h3, h4⟩ => by
    obtain ⟨q1, q2⟩ := Owns.of_imm h4
    exact ⟨⟨v, r, h1, h3.2, q1⟩, by rw [h2, h3.1, q2]; rfl⟩
end
end Cn
/-! Cn1: the state of a body, judgements -/
namespace Cn
open PySem PySem.Spec L2
/-- a slot: unknown, a tree, a tree whose value is known -/
inductive Sl where
  | un
  | ow (t : T)
  | pn (v : V) (t : T)
def Sat (G : Ctx) (M H : Hp) : List Sl → St → List Addr → Prop
  | [], σ, as => σ = [] ∧ as = []
  | .un :: Γ, σ, as => ∃ x r, σ = x :: r ∧ Sat G M H Γ r as
  | .ow t :: Γ, σ, as => ∃ v r a1 a2, σ = some v :: r ∧ as = a1 ++ a2 ∧ Own G M H t v a1 ∧ Sat G M H Γ r a2
  | .pn w t :: Γ, σ, as => ∃ r a1 a2, σ = some w :: r ∧ as = a1 ++ a2 ∧ Own G M H t w a1 ∧ Sat G M H Γ r a2
structure Fr0 (F M0 M H : Hp) (as : List Addr) : Prop where
  fh : Same F H
  mm : Same M0 M
  mh : Same M H
  nw : ∀ a, M a ≠ none → M0 a ≠ none ∨ F a = none
  nd : as.Nodup
  fa : ∀ a ∈ as, F a = none
  ma : ∀ a ∈ as, M a = none
/-- the state: F what must stay, M0 what was shared at the entry, M what is shared -/
def S (G : Ctx) (F M0 M H : Hp) (σ : St) (Γ : List Sl) : Prop := ∃ as, Fr0 F M0 M H as ∧ Sat G M H Γ σ as
/-- the heap has grown -/
structure Gr (M H M' H' : Hp) : Prop where
  hh : Same H H'
  mm : Same M M'
  mh : Same M' H'
  nw : ∀ a, M' a ≠ none → M a ≠ none ∨ H a = none
theorem Gr.refl {M H : Hp} (h : Same M H) : Gr M H M H := ⟨.refl _, .refl _, h, fun _ z => .inl z⟩
theorem Gr.trans {M H M1 H1 M2 H2 : Hp} (a : Gr M H M1 H1) (b : Gr M1 H1 M2 H2) : Gr M H M2 H2 :=
  ⟨a.hh.trans b.hh, a.mm.trans b.mm, b.mh, fun x z => by
    rcases b.nw x z with q | q
    · exact a.nw x q
    · exact .inr (a.hh.free q)⟩
theorem Same.of_some {M H : Hp} (h : Same M H) {a : Addr} (z : M a ≠ none) : H a ≠ none := by
  cases e : M a with
  | none => exact absurd e z
  | some o => rw [h a o e]; exact fun q => nomatch q
section
variable {G : Ctx} {F M0 M M' H H' : Hp}
theorem Sat.keep (e : Same M M') : ∀ (Γ : List Sl) (σ : St) (as : List Addr), (∀ a ∈ as, ∀ o, H a = some o → H' a = some o) → Sat G M H Γ σ as → Sat G M' H' Γ σ as
  | [], σ, as, f, h => h
  | .un :: Γ, σ, as, f, ⟨x, r, h1, h2⟩ => ⟨x, r, h1, Sat.keep e Γ r as f h2⟩
  | .ow t :: Γ, σ, as, f, ⟨v, r, a1, a2, h1, h2, h3, h4⟩ => by
    subst h2
    exact ⟨v, r, a1, a2, h1, rfl, Own.keep e t v a1 (fun b hb => f b (List.mem_append_left _ hb)) h3, Sat.keep e Γ r a2 (fun b hb => f b (List.mem_append_right _ hb)) h4⟩
  | .pn w t :: Γ, σ, as, f, ⟨r, a1, a2, h1, h2, h3, h4⟩ => by
    subst h2
    exact ⟨r, a1, a2, h1, rfl, Own.keep e t w a1 (fun b hb => f b (List.mem_append_left _ hb)) h3, Sat.keep e Γ r a2 (fun b hb => f b (List.mem_append_right _ hb)) h4⟩
theorem Sat.there : ∀ (Γ : List Sl) (σ : St) (as : List Addr), Sat G M H Γ σ as → ∀ a ∈ as, H a ≠ none
  | [], σ, as, h, b, hb => by rw [h.2] at hb; cases hb
  | .un :: Γ, σ, as, ⟨x, r, h1, h2⟩, b, hb => Sat.there Γ r as h2 b hb
  | .ow t :: Γ, σ, as, ⟨v, r, a1, a2, h1, h2, h3, h4⟩, b, hb => by
    subst h2
    rcases List.mem_append.mp hb with z | z
    · exact Own.there t v a1 h3 b z
    · exact Sat.there Γ r a2 h4 b z
  | .pn w t :: Γ, σ, as, ⟨r, a1, a2, h1, h2, h3, h4⟩, b, hb => by
    subst h2
    rcases List.mem_append.mp hb with z | z
    · exact Own.there t w a1 h3 b z
    · exact Sat.there Γ r a2 h4 b z
theorem Fr0.grow {as : List Addr} (f : Fr0 F M0 M H as) (th : ∀ a ∈ as, H a ≠ none) (g : Gr M H M' H') : Fr0 F M0 M' H' as where
  fh := f.fh.trans g.hh
  mm := f.mm.trans g.mm
  mh := g.mh
  nw := fun a z => by
    rcases g.nw a z with q | q
    · exact f.nw a q
    · exact .inr (f.fh.free q)
  nd := f.nd
  fa := f.fa
  ma := fun a ha => by
    cases e : M' a with
    | none => rfl
    | some o =>
      rcases g.nw a (by rw [e]; exact fun q => nomatch q) with q | q
      · exact absurd (f.ma a ha) q
      · exact absurd q (th a ha)
theorem S.grow {σ : St} {Γ : List Sl} (h : S G F M0 M H σ Γ) (g : Gr M H M' H') : S G F M0 M' H' σ Γ := by
  obtain ⟨as, f, s⟩ := h
  exact ⟨as, f.grow (Sat.there Γ σ as s) g, Sat.keep g.mm Γ σ as (fun a _ o e => g.hh a o e) s⟩
theorem S.mh {σ : St} {Γ : List Sl} (h : S G F M0 M H σ Γ) : Same M H := let ⟨_, f, _⟩ := h; f.mh
theorem S.fh {σ : St} {Γ : List Sl} (h : S G F M0 M H σ Γ) : Same F H := let ⟨_, f, _⟩ := h; f.fh
/-- a slot that is read -/
theorem Sat.get : ∀ {Γ : List Sl} {σ : St} {as : List Addr} {i : Nat} {t : T}, Sat G M H Γ σ as → Γ[i]? = some (.ow t) → ∃ v a, σ[i]? = some (some v) ∧ Own G M H t v a ∧ ∀ b ∈ a, b ∈ as
  | [], σ, as, i, t, h, e => by simp at e
  | .un :: Γ, σ, as, 0, t, h, e => nomatch (Option.some.inj e)
  | .un :: Γ, σ, as, i + 1, t, ⟨x, r, h1, h2⟩, e => by
    subst h1
    exact Sat.get (i := i) h2 e
  | .ow t' :: Γ, σ, as, 0, t, ⟨v, r, a1, a2, h1, h2, h3, h4⟩, e => by
    have z : t' = t := Sl.ow.inj (Option.some.inj e)
    subst z; subst h1; subst h2
    exact ⟨v, a1, rfl, h3, fun b hb => List.mem_append_left _ hb⟩
  | .ow t' :: Γ, σ, as, i + 1, t, ⟨v, r, a1, a2, h1, h2, h3, h4⟩, e => by
    subst h1; subst h2
    obtain ⟨w, a, q1, q2, q3⟩ := Sat.get (i := i) h4 e
    exact ⟨w, a, q1, q2, fun b hb => List.mem_append_right _ (q3 b hb)⟩
  | .pn w t' :: Γ, σ, as, 0, t, h, e => nomatch (Option.some.inj e)
  | .pn w t' :: Γ, σ, as, i + 1, t, ⟨r, a1, a2, h1, h2, h3, h4⟩, e => by
    subst h1; subst h2
    obtain ⟨w, a, q1, q2, q3⟩ := Sat.get (i := i) h4 e
    exact ⟨w, a, q1, q2, fun b hb => List.mem_append_right _ (q3 b hb)⟩
theorem Sat.getP : ∀ {Γ : List Sl} {σ : St} {as : List Addr} {i : Nat} {w : V} {t : T}, Sat G M H Γ σ as → Γ[i]? = some (.pn w t) → σ[i]? = some (some w) ∧ ∃ a, Own G M H t w a ∧ ∀ b ∈ a, b ∈ as
  | [], σ, as, i, w, t, h, e => by simp at e
  | .un :: Γ, σ, as, 0, w, t, h, e => nomatch (Option.some.inj e)
  | .un :: Γ, σ, as, i + 1, w, t, ⟨x, r, h1, h2⟩, e => by
    subst h1
    exact Sat.getP (i := i) h2 e
  | .ow t' :: Γ, σ, as, 0, w, t, h, e => nomatch (Option.some.inj e)
  | .ow t' :: Γ, σ, as, i + 1, w, t, ⟨v, r, a1, a2, h1, h2, h3, h4⟩, e => by
    subst h1; subst h2
    obtain ⟨q0, a, q2, q3⟩ := Sat.getP (i := i) h4 e
    exact ⟨q0, a, q2, fun b hb => List.mem_append_right _ (q3 b hb)⟩
  | .pn w' t' :: Γ, σ, as, 0, w, t, ⟨r, a1, a2, h1, h2, h3, h4⟩, e => by
    obtain ⟨z1, z2⟩ := Sl.pn.inj (Option.some.inj e)
    subst z1; subst z2; subst h1; subst h2
    exact ⟨rfl, a1, h3, fun b hb => List.mem_append_left _ hb⟩
  | .pn w' t' :: Γ, σ, as, i + 1, w, t, ⟨r, a1, a2, h1, h2, h3, h4⟩, e => by
    subst h1; subst h2
    obtain ⟨q0, a, q2, q3⟩ := Sat.getP (i := i) h4 e
    exact ⟨q0, a, q2, fun b hb => List.mem_append_right _ (q3 b hb)⟩
/-- a slot is stored: what it owned is let go; n: the new addresses -/
theorem Sat.put : ∀ {Γ : List Sl} {σ : St} {as n : List Addr} {i : Nat} {t : T} {v : V}, Sat G M H Γ σ as → i < Γ.length → Own G M H t v n → ∃ bs l r, Sat G M H (Γ.set i (.ow t)) (σ.set i (some v)) bs ∧ bs = l ++ n ++ r ∧ (l ++ r).Sublist as
  | [], σ, as, n, i, t, v, h, hi, o => absurd hi (Nat.not_lt_zero _)
  | .un :: Γ, σ, as, n, 0, t, v, ⟨x, r, h1, h2⟩, hi, o => by
    subst h1
    exact ⟨n ++ as, [], as, ⟨v, r, n, as, rfl, rfl, o, h2⟩, rfl, by simp⟩
  | .ow t' :: Γ, σ, as, n, 0, t, v, ⟨w, r, a1, a2, h1, h2, h3, h4⟩, hi, o => by
    subst h1; subst h2
    exact ⟨n ++ a2, [], a2, ⟨v, r, n, a2, rfl, rfl, o, h4⟩, rfl, by simp⟩
  | .pn w t' :: Γ, σ, as, n, 0, t, v, ⟨r, a1, a2, h1, h2, h3, h4⟩, hi, o => by
    subst h1; subst h2
    exact ⟨n ++ a2, [], a2, ⟨v, r, n, a2, rfl, rfl, o, h4⟩, rfl, by simp⟩
  | .un :: Γ, σ, as, n, i + 1, t, v, ⟨x, r, h1, h2⟩, hi, o => by
    subst h1
    obtain ⟨bs, l, r', s, e, sub⟩ := Sat.put (i := i) h2 (Nat.lt_of_succ_lt_succ hi) o
    exact ⟨bs, l, r', ⟨x, _, rfl, s⟩, e, sub⟩
  | .ow t' :: Γ, σ, as, n, i + 1, t, v, ⟨w, r, a1, a2, h1, h2, h3, h4⟩, hi, o => by
    subst h1; subst h2
    obtain ⟨bs, l, r', s, e, sub⟩ := Sat.put (i := i) h4 (Nat.lt_of_succ_lt_succ hi) o
    subst e
    exact ⟨a1 ++ (l ++ n ++ r'), a1 ++ l, r', ⟨w, _, a1, _, rfl, rfl, h3, s⟩, by simp, by rw [List.append_assoc]; exact List.Sublist.append_left sub a1⟩
  | .pn w t' :: Γ, σ, as, n, i + 1, t, v, ⟨r, a1, a2, h1, h2, h3, h4⟩, hi, o => by
    subst h1; subst h2
    obtain ⟨bs, l, r', s, e, sub⟩ := Sat.put (i := i) h4 (Nat.lt_of_succ_lt_succ hi) o
    subst e
    exact ⟨a1 ++ (l ++ n ++ r'), a1 ++ l, r', ⟨_, a1, _, rfl, rfl, h3, s⟩, by simp, by rw [List.append_assoc]; exact List.Sublist.append_left sub a1⟩
/-- weaken a slot -/
theorem Sat.drop : ∀ {Γ : List Sl} {σ : St} {as : List Addr} {i : Nat}, Sat G M H Γ σ as → ∃ bs, Sat G M H (Γ.set i .un) σ bs ∧ bs.Sublist as
  | [], σ, as, i, h => ⟨as, h, .refl _⟩
  | .un :: Γ, σ, as, 0, ⟨x, r, h1, h2⟩ => ⟨as, ⟨x, r, h1, h2⟩, .refl _⟩
  | .ow t' :: Γ, σ, as, 0, ⟨w, r, a1, a2, h1, h2, h3, h4⟩ => ⟨a2, ⟨some w, r, h1, h4⟩, by rw [h2]; exact List.sublist_append_right _ _⟩
  | .pn w t' :: Γ, σ, as, 0, ⟨r, a1, a2, h1, h2, h3, h4⟩ => ⟨a2, ⟨some w, r, h1, h4⟩, by rw [h2]; exact List.sublist_append_right _ _⟩
  | .un :: Γ, σ, as, i + 1, ⟨x, r, h1, h2⟩ => by
    obtain ⟨bs, s, sub⟩ := Sat.drop (i := i) h2
    exact ⟨bs, ⟨x, r, h1, s⟩, sub⟩
  | .ow t' :: Γ, σ, as, i + 1, ⟨w, r, a1, a2, h1, h2, h3, h4⟩ => by
    obtain ⟨bs, s, sub⟩ := Sat.drop (i := i) h4
    exact ⟨a1 ++ bs, ⟨w, r, a1, bs, h1, rfl, h3, s⟩, by rw [h2]; exact List.Sublist.append_left sub a1⟩
  | .pn w t' :: Γ, σ, as, i + 1, ⟨r, a1, a2, h1, h2, h3, h4⟩ => by
    obtain ⟨bs, s, sub⟩ := Sat.drop (i := i) h4
    exact ⟨a1 ++ bs, ⟨r, a1, bs, h1, rfl, h3, s⟩, by rw [h2]; exact List.Sublist.append_left sub a1⟩
theorem Fr0.sub {as bs : List Addr} (f : Fr0 F M0 M H as) (s : bs.Sublist as) : Fr0 F M0 M H bs :=
  ⟨f.fh, f.mm, f.mh, f.nw, f.nd.sublist s, fun a h => f.fa a (s.subset h), fun a h => f.ma a (s.subset h)⟩
/-- fresh addresses beside the ones that are owned -/
theorem Fr0.add {as n l r : List Addr} (f : Fr0 F M0 M H as) (s : (l ++ r).Sublist as) (nn : n.Nodup) (nf : ∀ a ∈ n, F a = none) (nm : ∀ a ∈ n, M a = none) (dj : ∀ a ∈ n, a ∉ as) : Fr0 F M0 M H (l ++ n ++ r) where
  fh := f.fh
  mm := f.mm
  mh := f.mh
  nw := f.nw
  nd := by
    have h := f.nd.sublist s
    have dl : ∀ a ∈ l, a ∈ as := fun a z => s.subset (List.mem_append_left _ z)
    have dr : ∀ a ∈ r, a ∈ as := fun a z => s.subset (List.mem_append_right _ z)
    rw [List.nodup_append] at h
    rw [List.append_assoc, List.nodup_append]
    refine ⟨h.1, ?_, fun a ha b hb e => ?_⟩
    · rw [List.nodup_append]
      exact ⟨nn, h.2.1, fun a ha b hb e => dj a ha (by rw [e]; exact dr b hb)⟩
    · rcases List.mem_append.mp hb with z | z
      · exact dj b z (by rw [← e]; exact dl a ha)
      · exact h.2.2 a ha b z e
  fa := fun a h => by
    rcases List.mem_append.mp h with z | z
    · rcases List.mem_append.mp z with z | z
      · exact f.fa a (s.subset (List.mem_append_left _ z))
      · exact nf a z
    · exact f.fa a (s.subset (List.mem_append_right _ z))
  ma := fun a h => by
    rcases List.mem_append.mp h with z | z
    · rcases List.mem_append.mp z with z | z
      · exact f.ma a (s.subset (List.mem_append_left _ z))
      · exact nm a z
    · exact f.ma a (s.subset (List.mem_append_right _ z))
end
/-- what is wanted where an exception of the class c leaves -/
abbrev _root_.L2.Cx.G (X : Cx) : Ctx := ⟨X.K, X.mg⟩
def Er (G : Ctx) (W : WX) (c : Str) (σ : St) (H : Hp) : Prop := ∀ a, G.mg c = some (.ref a) → W (.ref a) none σ H
/-! the semantics' own readings -/
def wE (X : Cx) (e : Expr) : TE := fun σ H Q => ∀ pins s, Inv X pins σ H s → wpAny (model X.prog X.w) X.A (eval e X.env) (EP X pins σ Q) X.xe s
def wT (X : Cx) (e : Expr) : TT := fun σ H Q => ∀ pins s, Inv X pins σ H s → wpAny (model X.prog X.w) X.A (isTrue e X.env (eval e X.env)) (TP X pins σ Q) X.xe s
def wW (X : Cx) (e : Expr) : TT := fun σ H Q => ∀ whole pins s, Inv X pins σ H s → wpAny (model X.prog X.w) X.A (isTrue e X.env whole) (TP X pins σ Q) X.xe s
def wA (X : Cx) (es : List Expr) : TA := fun σ H Q => ∀ pos pins s, Inv X pins σ H s → wpAny (model X.prog X.w) X.A (spliced (backTo pos (starEach es X.env))) (AP X pins σ Q) X.xe s
def wS (X : Cx) (st : Stmt) : TS := fun D σ H => ∀ pins s, Inv X pins σ H s → wpAny (model X.prog X.w) X.A (exec st X.env) (SP X pins D) X.xe s
def wSs (X : Cx) (st : List Stmt) : TS := fun D σ H => ∀ pins s, Inv X pins σ H s → wpAny (model X.prog X.w) X.A (execs st X.env) (SP X pins D) X.xe s
def wI (X : Cx) (tg e : Expr) : TI := fun σ H R => ∀ pins s, Inv X pins σ H s → wpAny (model X.prog X.w) X.A (eval e X.env) (fun v s1 => wpAny (model X.prog X.w) X.A (pyIter v) (PIE X pins σ tg R) X.xe s1) X.xe s
def wG (X : Cx) (tg : Expr) : TG := fun v σ H Q => ∀ pins s u, Inv X pins σ H s → RelV v u → wpAny (model X.prog X.w) X.A (assign tg X.env u) (fun _ s' => ∃ σ' H', Inv X pins σ' H' s' ∧ Q σ' H') X.xe s
section
variable (X : Cx) (e tg : Expr) (es : List Expr) (st : Stmt) (ss : List Stmt)
theorem pe_w : PE X e (wE X e) := ⟨fun pins s σ H Q I h => h pins s I⟩
theorem pt_w : PT X e (wT X e) := ⟨fun pins s σ H Q I h => h pins s I⟩
theorem pw_w : PW X e (wW X e) := ⟨fun whole pins s σ H Q I h => h whole pins s I⟩
theorem pa_w : PA X es (wA X es) := ⟨fun pos pins s σ H Q I h => h pos pins s I⟩
theorem ps_w : PS X st (wS X st) := ⟨fun pins s σ H Q I h => h pins s I⟩
theorem pss_w : PSs X ss (wSs X ss) := ⟨fun pins s σ H Q I h => h pins s I⟩
theorem pi_w : PI X tg e (wI X tg e) := ⟨fun pins s σ H Q I h => h pins s I⟩
theorem pg_w : PG X tg (wG X tg) := ⟨fun pins s σ H v u Q I r h => h pins s u I r⟩
end
section
variable {X : Cx} {Γ : List Sl} {e tg : Expr} {es : List Expr} {st : Stmt} {ss : List Stmt}
theorem dmk {Pre : Hp → Hp → Hp → Hp → St → VK → Prop} (h : ∃ te, PE X e te ∧ ∀ F M0 M H σ Q, S X.G F M0 M H σ Γ → Pre F M0 M H σ Q → te σ H Q) : ∀ F M0 M H σ Q, S X.G F M0 M H σ Γ → Pre F M0 M H σ Q → wE X e σ H Q := fun F M0 M H σ Q s p pins sh I => by
  obtain ⟨te, pe, q⟩ := h
  exact pe.run pins sh σ H Q I (q F M0 M H σ Q s p)
theorem tmk {Pre : Hp → Hp → Hp → Hp → St → (Bool → Hp → Prop) → Prop} (h : ∃ te, PT X e te ∧ ∀ F M0 M H σ Q, S X.G F M0 M H σ Γ → Pre F M0 M H σ Q → te σ H Q) : ∀ F M0 M H σ Q, S X.G F M0 M H σ Γ → Pre F M0 M H σ Q → wT X e σ H Q := fun F M0 M H σ Q s p pins sh I => by
  obtain ⟨te, pe, q⟩ := h
  exact pe.run pins sh σ H Q I (q F M0 M H σ Q s p)
theorem wmk {Pre : Hp → Hp → Hp → Hp → St → (Bool → Hp → Prop) → Prop} (h : ∃ te, PW X e te ∧ ∀ F M0 M H σ Q, S X.G F M0 M H σ Γ → Pre F M0 M H σ Q → te σ H Q) : ∀ F M0 M H σ Q, S X.G F M0 M H σ Γ → Pre F M0 M H σ Q → wW X e σ H Q := fun F M0 M H σ Q s p wh pins sh I => by
  obtain ⟨te, pe, q⟩ := h
  exact pe.run wh pins sh σ H Q I (q F M0 M H σ Q s p)
theorem amk {Pre : Hp → Hp → Hp → Hp → St → (List V → Hp → Prop) → Prop} (h : ∃ te, PA X es te ∧ ∀ F M0 M H σ Q, S X.G F M0 M H σ Γ → Pre F M0 M H σ Q → te σ H Q) : ∀ F M0 M H σ Q, S X.G F M0 M H σ Γ → Pre F M0 M H σ Q → wA X es σ H Q := fun F M0 M H σ Q s p pos pins sh I => by
  obtain ⟨te, pe, q⟩ := h
  exact pe.run pos pins sh σ H Q I (q F M0 M H σ Q s p)
theorem smk {Pre : Hp → Hp → Hp → Hp → St → Ends → Prop} (h : ∃ te, PS X st te ∧ ∀ F M0 M H σ Q, S X.G F M0 M H σ Γ → Pre F M0 M H σ Q → te Q σ H) : ∀ F M0 M H σ Q, S X.G F M0 M H σ Γ → Pre F M0 M H σ Q → wS X st Q σ H := fun F M0 M H σ Q s p pins sh I => by
  obtain ⟨te, pe, q⟩ := h
  exact pe.run pins sh σ H Q I (q F M0 M H σ Q s p)
theorem bmk {Pre : Hp → Hp → Hp → Hp → St → Ends → Prop} (h : ∃ te, PSs X ss te ∧ ∀ F M0 M H σ Q, S X.G F M0 M H σ Γ → Pre F M0 M H σ Q → te Q σ H) : ∀ F M0 M H σ Q, S X.G F M0 M H σ Γ → Pre F M0 M H σ Q → wSs X ss Q σ H := fun F M0 M H σ Q s p pins sh I => by
  obtain ⟨te, pe, q⟩ := h
  exact pe.run pins sh σ H Q I (q F M0 M H σ Q s p)
end
/-- an expression whose value is shared data -/
def DD (X : Cx) (W : WX) (Γ : List Sl) (e : Expr) {α : Type} (emb : α → D) (m : R α) : Prop :=
  ∀ F M0 M H σ Q, S X.G F M0 M H σ Γ → Po m (fun x => ∀ v M' H', Gr M H M' H' → Rep X.G M' (emb x) v → Q v H') (fun c => ∀ M' H', Gr M H M' H' → Er X.G W c σ H') → wE X e σ H Q
/-- .. a new tree -/
def DF (X : Cx) (W : WX) (Γ : List Sl) (e : Expr) {α : Type} (emb : α → T) (m : R α) : Prop :=
  ∀ F M0 M H σ Q, S X.G F M0 M H σ Γ → Po m (fun x => ∀ v M' H' as, Gr M H M' H' → Own X.G M' H' (emb x) v as → as.Nodup → (∀ a ∈ as, H a = none ∧ M' a = none) → Q v H') (fun c => ∀ M' H', Gr M H M' H' → Er X.G W c σ H') → wE X e σ H Q
/-- .. a tree that is only looked at -/
def DB (X : Cx) (W : WX) (Γ : List Sl) (e : Expr) {α : Type} (emb : α → T) (m : R α) : Prop :=
  ∀ F M0 M H σ Q, S X.G F M0 M H σ Γ → Po m (fun x => ∀ v M' H' as, Gr M H M' H' → Own X.G M' H' (emb x) v as → Q v H') (fun c => ∀ M' H', Gr M H M' H' → Er X.G W c σ H') → wE X e σ H Q
/-- a test -/
def DT (X : Cx) (W : WX) (Γ : List Sl) (e : Expr) (m : R Bool) : Prop :=
  ∀ F M0 M H σ Q, S X.G F M0 M H σ Γ → Po m (fun x => ∀ M' H', Gr M H M' H' → Q x H') (fun c => ∀ M' H', Gr M H M' H' → Er X.G W c σ H') → wT X e σ H Q
def DW (X : Cx) (W : WX) (Γ : List Sl) (e : Expr) (m : R Bool) : Prop :=
  ∀ F M0 M H σ Q, S X.G F M0 M H σ Γ → Po m (fun x => ∀ M' H', Gr M H M' H' → Q x H') (fun c => ∀ M' H', Gr M H M' H' → Er X.G W c σ H') → wW X e σ H Q
/-- arguments -/
def DA (X : Cx) (W : WX) (Γ : List Sl) (es : List Expr) {α : Type} (emb : α → List D) (m : R α) : Prop :=
  ∀ F M0 M H σ Q, S X.G F M0 M H σ Γ → Po m (fun x => ∀ vs M' H', Gr M H M' H' → Reps X.G M' (emb x) vs → Q vs H') (fun c => ∀ M' H', Gr M H M' H' → Er X.G W c σ H') → wA X es σ H Q
/-- Γe knows no more than Γ -/
def Wk : List Sl → List Sl → Prop
  | [], [] => True
  | .un :: Γe, _ :: Γ => Wk Γe Γ
  | .ow t :: Γe, .ow t' :: Γ => t = t' ∧ Wk Γe Γ
  | .pn v t :: Γe, .pn v' t' :: Γ => v = v' ∧ t = t' ∧ Wk Γe Γ
  | .ow t :: Γe, .pn _ t' :: Γ => t = t' ∧ Wk Γe Γ
  | _, _ => False
theorem Sat.wk {G : Ctx} {M H : Hp} : ∀ {Γe Γ : List Sl} {σ : St} {as : List Addr}, Wk Γe Γ → Sat G M H Γ σ as → ∃ bs, Sat G M H Γe σ bs ∧ bs.Sublist as
  | [], [], σ, as, _, h => ⟨as, h, .refl _⟩
  | .un :: Γe, .un :: Γ, σ, as, w, ⟨x, r, h1, h2⟩ => by
    obtain ⟨bs, s, sub⟩ := Sat.wk (Γe := Γe) w h2
    exact ⟨bs, ⟨x, r, h1, s⟩, sub⟩
  | .un :: Γe, .ow t :: Γ, σ, as, w, ⟨v, r, a1, a2, h1, h2, h3, h4⟩ => by
    obtain ⟨bs, s, sub⟩ := Sat.wk (Γe := Γe) w h4
    exact ⟨bs, ⟨some v, r, h1, s⟩, by rw [h2]; exact sub.trans (List.sublist_append_right _ _)⟩
  | .un :: Γe, .pn v t :: Γ, σ, as, w, ⟨r, a1, a2, h1, h2, h3, h4⟩ => by
    obtain ⟨bs, s, sub⟩ := Sat.wk (Γe := Γe) w h4
    exact ⟨bs, ⟨some v, r, h1, s⟩, by rw [h2]; exact sub.trans (List.sublist_append_right _ _)⟩
  | .ow t :: Γe, .ow t' :: Γ, σ, as, ⟨e, w⟩, ⟨v, r, a1, a2, h1, h2, h3, h4⟩ => by
    obtain ⟨bs, s, sub⟩ := Sat.wk (Γe := Γe) w h4
    exact ⟨a1 ++ bs, ⟨v, r, a1, bs, h1, rfl, by rw [e]; exact h3, s⟩, by rw [h2]; exact List.Sublist.append_left sub a1⟩
  | .ow t :: Γe, .pn v t' :: Γ, σ, as, ⟨e, w⟩, ⟨r, a1, a2, h1, h2, h3, h4⟩ => by
    obtain ⟨bs, s, sub⟩ := Sat.wk (Γe := Γe) w h4
    exact ⟨a1 ++ bs, ⟨v, r, a1, bs, h1, rfl, by rw [e]; exact h3, s⟩, by rw [h2]; exact List.Sublist.append_left sub a1⟩
  | .pn v t :: Γe, .pn v' t' :: Γ, σ, as, ⟨e0, e, w⟩, ⟨r, a1, a2, h1, h2, h3, h4⟩ => by
    obtain ⟨bs, s, sub⟩ := Sat.wk (Γe := Γe) w h4
    exact ⟨a1 ++ bs, ⟨r, a1, bs, by rw [e0]; exact h1, rfl, by rw [e, e0]; exact h3, s⟩, by rw [h2]; exact List.Sublist.append_left sub a1⟩
theorem S.wk {G : Ctx} {F M0 M H : Hp} {σ : St} {Γe Γ : List Sl} (w : Wk Γe Γ) (h : S G F M0 M H σ Γ) : S G F M0 M H σ Γe := by
  obtain ⟨as, f, s⟩ := h
  obtain ⟨bs, s', sub⟩ := Sat.wk w s
  exact ⟨bs, f.sub sub, s'⟩
end Cn
/-! Cn2: expressions -/
namespace Cn
open PySem PySem.Spec L2
section
variable {X : Cx} {W : WX} {Γ : List Sl} {a b e : Expr} {es : List Expr} {α β γ : Type} {pos : Pos}
/-! ### from one kind to another -/
theorem db_of_dd {emb : α → D} {m : R α} (h : DD X W Γ e emb m) : DB X W Γ e (fun x => .imm (emb x)) m := by
  have p := pe_w X e; have q := h
  exact dmk ⟨_, p, fun F M0 M H σ Q s po => q F M0 M H σ Q s (po.imp (fun x _ k v M' H' g r => k v M' H' [] g ⟨rfl, r⟩) fun _ z => z)⟩
theorem df_of_dd {emb : α → D} {m : R α} (h : DD X W Γ e emb m) : DF X W Γ e (fun x => .imm (emb x)) m := by
  have p := pe_w X e; have q := h
  exact dmk ⟨_, p, fun F M0 M H σ Q s po => q F M0 M H σ Q s (po.imp (fun x _ k v M' H' g r => k v M' H' [] g ⟨rfl, r⟩ List.nodup_nil (fun _ z => nomatch z)) fun _ z => z)⟩
theorem db_of_df {emb : α → T} {m : R α} (h : DF X W Γ e emb m) : DB X W Γ e emb m := by
  have p := pe_w X e; have q := h
  exact dmk ⟨_, p, fun F M0 M H σ Q s po => q F M0 M H σ Q s (po.imp (fun x _ k v M' H' as g o _ _ => k v M' H' as g o) fun _ z => z)⟩
/-- fresh addresses are given away -/
theorem gr_freeze {M H M1 H1 : Hp} {as : List Addr} (g : Gr M H M1 H1) (th : ∀ a ∈ as, H1 a ≠ none) (fr : ∀ a ∈ as, H a = none ∧ M1 a = none) :
    ∃ M2, Gr M H M2 H1 ∧ Same M1 M2 ∧ ∀ a ∈ as, ∀ o, H1 a = some o → M2 a = some o := by
  refine ⟨fun a => if a ∈ as then H1 a else M1 a, ⟨g.hh, fun b o e => ?_, fun b o e => ?_, fun b z => ?_⟩, fun b o e => ?_, fun b hb o e => ?_⟩
  · show (if b ∈ as then H1 b else M1 b) = some o
    by_cases hb : b ∈ as
    · have := (fr b hb).2
      rw [g.mm b o e] at this; cases this
    · rw [if_neg hb]; exact g.mm b o e
  · have e' : (if b ∈ as then H1 b else M1 b) = some o := e
    by_cases hb : b ∈ as
    · rw [if_pos hb] at e'; exact e'
    · rw [if_neg hb] at e'; exact g.mh b o e'
  · have z' : (if b ∈ as then H1 b else M1 b) ≠ none := z
    by_cases hb : b ∈ as
    · exact .inr (fr b hb).1
    · rw [if_neg hb] at z'; exact g.nw b z'
  · show (if b ∈ as then H1 b else M1 b) = some o
    by_cases hb : b ∈ as
    · have := (fr b hb).2
      rw [e] at this; cases this
    · rw [if_neg hb]; exact e
  · show (if b ∈ as then H1 b else M1 b) = some o
    rw [if_pos hb]; exact e
theorem dd_of_df {emb : α → T} {emb' : α → D} {m : R α} (h : DF X W Γ e emb m) (he : ∀ x, fz (emb x) = emb' x) : DD X W Γ e emb' m := by
  have p := pe_w X e; have q := h
  refine dmk ⟨_, p, fun F M0 M H σ Q s po => q F M0 M H σ Q s (po.imp (fun x _ k v M' H' as g o nd fr => ?_) fun _ z => z)⟩
  obtain ⟨M2, g2, s2, k2⟩ := gr_freeze g (Own.there _ _ _ o) fr
  refine k v M2 H' g2 ?_
  rw [← he]
  exact Own.freeze s2 _ _ _ k2 o
theorem dd_imm {emb : α → D} {m : R α} (h : DF X W Γ e (fun x => .imm (emb x)) m) : DD X W Γ e emb m := dd_of_df h fun _ => rfl
theorem fz_list {ε : α → D} (xs : List α) : fz (.lst (xs.map fun x => .imm (ε x))) = .lst (xs.map ε) := by
  show D.lst (fzs _) = _
  rw [fzs_map]
  rfl
theorem dd_list {ε : β → D} {m : R (List β)} (h : DF X W Γ e (fun xs => .lst (xs.map fun x => .imm (ε x))) m) : DD X W Γ e (fun xs => .lst (xs.map ε)) m := dd_of_df h fun xs => fz_list xs
/-! ### names and constants -/
theorem dd_var {emb : α → D} {x : α} {n : Str} (i : Nat) (h : Γ[i]? = some (.ow (.imm (emb x)))) (hN : X.N[i]? = some n := by rfl) (hv : Vis X.env.scope n := by first | exact Or.inl rfl | exact Or.inr (Or.inl rfl) | exact Or.inr (Or.inr rfl))
    (hd : (n == ("__debug__" : Str)) = false := by decide) (hcd : (n == ("__classdict__" : Str)) = false := by decide) : DD X W Γ (.Name n pos) emb (.ok x) := dmk
  ⟨_, pe_var hN hv hd hcd, fun F M0 M H σ Q s po => by
    obtain ⟨as, f, sa⟩ := s
    obtain ⟨v, a, h1, h2, h3⟩ := Sat.get sa h
    exact ⟨v, h1, po v M H (.refl f.mh) h2.2⟩⟩
theorem db_var {emb : α → T} {x : α} {n : Str} (i : Nat) (h : Γ[i]? = some (.ow (emb x))) (hN : X.N[i]? = some n := by rfl) (hv : Vis X.env.scope n := by first | exact Or.inl rfl | exact Or.inr (Or.inl rfl) | exact Or.inr (Or.inr rfl))
    (hd : (n == ("__debug__" : Str)) = false := by decide) (hcd : (n == ("__classdict__" : Str)) = false := by decide) : DB X W Γ (.Name n pos) emb (.ok x) := dmk
  ⟨_, pe_var hN hv hd hcd, fun F M0 M H σ Q s po => by
    obtain ⟨as, f, sa⟩ := s
    obtain ⟨v, a, h1, h2, h3⟩ := Sat.get sa h
    exact ⟨v, h1, po v M H a (.refl f.mh) h2⟩⟩
theorem dd_c {v : V} {d : α → D} {x : α} (p : PE X e (tC v)) (r : ∀ M, Rep X.G M (d x) v) : DD X W Γ e d (.ok x) := dmk
  ⟨_, p, fun F M0 M H σ Q s po => po v M H (.refl s.mh) (r M)⟩
theorem dd_int {i : Int} {j} : DD X W Γ (.Constant (.int i) j pos) D.int (.ok i) := dd_c pe_int fun _ => rfl
theorem dd_bl {i : Bool} {j} : DD X W Γ (.Constant (.bool i) j pos) D.bl (.ok i) := dd_c pe_bl fun _ => rfl
theorem dd_str {i : Str} {j} : DD X W Γ (.Constant (.str i) j pos) D.str (.ok i) := dd_c pe_str fun _ => rfl
theorem dd_non {j} : DD X W Γ (.Constant .none j pos) (fun _ : Unit => D.non) (.ok ()) := dd_c pe_non fun _ => rfl
theorem dd_gint {i : Int} {t : Tok} {n : Str} (hm : X.mg n = some (.int i t)) (hg : Gl X n := by rfl) (hd : (n == ("__debug__" : Str)) = false := by decide) : DD X W Γ (.Name n pos) D.int (.ok i) := dd_c (pe_glob (v := .int i) hg hm ⟨t, rfl⟩ hd) fun _ => rfl
/-! ### two operands -/
def ofO {γ : Type} : Option γ → R γ
  | none => .bad
  | some z => .ok z
theorem Po.ofO {γ : Type} {o : Option γ} {Q : γ → Prop} {E : Str → Prop} (h : Po (ofO o) Q E) : ∃ z, o = some z ∧ Q z := by
  cases o with
  | none => exact h.elim
  | some z => exact ⟨z, rfl, h⟩
/-- what is wanted of a value that stands for z: for shared data, for a new tree -/
abbrev WD (G : Ctx) (M H : Hp) (d : D) (Q : VK) : Prop := ∀ v M' H', Gr M H M' H' → Rep G M' d v → Q v H'
abbrev WF (G : Ctx) (M H : Hp) (t : T) (Q : VK) : Prop := ∀ v M' H' as, Gr M H M' H' → Own G M' H' t v as → as.Nodup → (∀ a ∈ as, H a = none ∧ M' a = none) → Q v H'
/-- what an operator's rule makes of data -/
def Op2 (G : Ctx) (r : R2) (ea : α → D) (eb : β → D) (er : γ → D) (f : α → β → Option γ) : Prop :=
  ∀ x y z (M H : Hp) v w (Q : VK), Same M H → Rep G M (ea x) v → Rep G M (eb y) w → f x y = some z → WD G M H (er z) Q → r v w H Q
/-- .. of trees that are looked at; a new tree -/
def Op2F (G : Ctx) (r : R2) (ea : α → T) (eb : β → T) (er : γ → T) (f : α → β → Option γ) : Prop :=
  ∀ x y z (M H : Hp) v w as bs (Q : VK), Same M H → Own G M H (ea x) v as → Own G M H (eb y) w bs → f x y = some z → WF G M H (er z) Q → r v w H Q
def Op2B (G : Ctx) (r : R2) (ea : α → T) (eb : β → T) (er : γ → D) (f : α → β → Option γ) : Prop :=
  ∀ x y z (M H : Hp) v w as bs (Q : VK), Same M H → Own G M H (ea x) v as → Own G M H (eb y) w bs → f x y = some z → WD G M H (er z) Q → r v w H Q
theorem two_dd {ta tb : TE} {r : R2} {ea : α → D} {eb : β → D} {er : γ → D} {f : α → β → Option γ} {ma : R α} {mb : R β} (hr : Op2 X.G r ea eb er f) {F M0 M H : Hp} {σ : St} {Q : VK}
    (qa : ∀ F M0 M H σ Q, S X.G F M0 M H σ Γ → Po ma (fun x => WD X.G M H (ea x) Q) (fun c => ∀ M' H', Gr M H M' H' → Er X.G W c σ H') → ta σ H Q)
    (qb : ∀ F M0 M H σ Q, S X.G F M0 M H σ Γ → Po mb (fun x => WD X.G M H (eb x) Q) (fun c => ∀ M' H', Gr M H M' H' → Er X.G W c σ H') → tb σ H Q)
    (s : S X.G F M0 M H σ Γ) (po : Po (ma >>= fun x => mb >>= fun y => ofO (f x y)) (fun x => WD X.G M H (er x) Q) (fun c => ∀ M' H', Gr M H M' H' → Er X.G W c σ H')) :
    tOp r ta tb σ H Q := by
  refine qa F M0 M H σ _ s (po.bind.imp (fun x _ k v M1 H1 g1 r1 => ?_) fun _ z => z)
  refine qb F M0 M1 H1 σ _ (s.grow g1) (k.bind.imp (fun y _ k w M2 H2 g2 r2 => ?_) fun c z M' H' g => z M' H' (g1.trans g))
  obtain ⟨z, e, k⟩ := k.ofO
  exact hr x y z M2 H2 v w Q g2.mh (Rep.mono g2.mm _ _ r1) r2 e fun v' M' H' g q => k v' M' H' ((g1.trans g2).trans g) q
theorem two_db {ta tb : TE} {r : R2} {ea : α → T} {eb : β → T} {er : γ → D} {f : α → β → Option γ} {ma : R α} {mb : R β} (hr : Op2B X.G r ea eb er f) {F M0 M H : Hp} {σ : St} {Q : VK}
    (qa : ∀ F M0 M H σ Q, S X.G F M0 M H σ Γ → Po ma (fun x => ∀ v M' H' as, Gr M H M' H' → Own X.G M' H' (ea x) v as → Q v H') (fun c => ∀ M' H', Gr M H M' H' → Er X.G W c σ H') → ta σ H Q)
    (qb : ∀ F M0 M H σ Q, S X.G F M0 M H σ Γ → Po mb (fun x => ∀ v M' H' as, Gr M H M' H' → Own X.G M' H' (eb x) v as → Q v H') (fun c => ∀ M' H', Gr M H M' H' → Er X.G W c σ H') → tb σ H Q)
    (s : S X.G F M0 M H σ Γ) (po : Po (ma >>= fun x => mb >>= fun y => ofO (f x y)) (fun x => WD X.G M H (er x) Q) (fun c => ∀ M' H', Gr M H M' H' → Er X.G W c σ H')) :
    tOp r ta tb σ H Q := by
  refine qa F M0 M H σ _ s (po.bind.imp (fun x _ k v M1 H1 as g1 r1 => ?_) fun _ z => z)
  refine qb F M0 M1 H1 σ _ (s.grow g1) (k.bind.imp (fun y _ k w M2 H2 bs g2 r2 => ?_) fun c z M' H' g => z M' H' (g1.trans g))
  obtain ⟨z, e, k⟩ := k.ofO
  exact hr x y z M2 H2 v w as bs Q g2.mh (Own.keep g2.mm _ _ _ (fun a _ o q => g2.hh a o q) r1) r2 e fun v' M' H' g q => k v' M' H' ((g1.trans g2).trans g) q
theorem two_df {ta tb : TE} {r : R2} {ea : α → T} {eb : β → T} {er : γ → T} {f : α → β → Option γ} {ma : R α} {mb : R β} (hr : Op2F X.G r ea eb er f) {F M0 M H : Hp} {σ : St} {Q : VK}
    (qa : ∀ F M0 M H σ Q, S X.G F M0 M H σ Γ → Po ma (fun x => ∀ v M' H' as, Gr M H M' H' → Own X.G M' H' (ea x) v as → Q v H') (fun c => ∀ M' H', Gr M H M' H' → Er X.G W c σ H') → ta σ H Q)
    (qb : ∀ F M0 M H σ Q, S X.G F M0 M H σ Γ → Po mb (fun x => ∀ v M' H' as, Gr M H M' H' → Own X.G M' H' (eb x) v as → Q v H') (fun c => ∀ M' H', Gr M H M' H' → Er X.G W c σ H') → tb σ H Q)
    (s : S X.G F M0 M H σ Γ) (po : Po (ma >>= fun x => mb >>= fun y => ofO (f x y)) (fun x => WF X.G M H (er x) Q) (fun c => ∀ M' H', Gr M H M' H' → Er X.G W c σ H')) :
    tOp r ta tb σ H Q := by
  refine qa F M0 M H σ _ s (po.bind.imp (fun x _ k v M1 H1 as g1 r1 => ?_) fun _ z => z)
  refine qb F M0 M1 H1 σ _ (s.grow g1) (k.bind.imp (fun y _ k w M2 H2 bs g2 r2 => ?_) fun c z M' H' g => z M' H' (g1.trans g))
  obtain ⟨z, e, k⟩ := k.ofO
  exact hr x y z M2 H2 v w as bs Q g2.mh (Own.keep g2.mm _ _ _ (fun a _ o q => g2.hh a o q) r1) r2 e fun v' M' H' cs g q nd fr => k v' M' H' cs ((g1.trans g2).trans g) q nd fun a ha => ⟨(g1.hh.trans g2.hh).free (fr a ha).1, (fr a ha).2⟩
section
variable {r : R2} {op : Operator} {cop : CmpOp}
theorem dd_op {ea : α → D} {eb : β → D} {er : γ → D} {f : α → β → Option γ} {ma : R α} {mb : R β} (hr : Op2 X.G r ea eb er f) (ho : OpR X (binaryOp op) r) (ha : DD X W Γ a ea ma) (hb : DD X W Γ b eb mb) :
    DD X W Γ (.BinOp a op b pos) er (ma >>= fun x => mb >>= fun y => ofO (f x y)) := by
  have pa := pe_w X a; have qa := ha
  have pb := pe_w X b; have qb := hb
  exact dmk ⟨_, pe_op ho pa pb, fun F M0 M H σ Q s po => two_dd hr qa qb s po⟩
theorem df_op {ea : α → T} {eb : β → T} {er : γ → T} {f : α → β → Option γ} {ma : R α} {mb : R β} (hr : Op2F X.G r ea eb er f) (ho : OpR X (binaryOp op) r) (ha : DB X W Γ a ea ma) (hb : DB X W Γ b eb mb) :
    DF X W Γ (.BinOp a op b pos) er (ma >>= fun x => mb >>= fun y => ofO (f x y)) := by
  have pa := pe_w X a; have qa := ha
  have pb := pe_w X b; have qb := hb
  exact dmk ⟨_, pe_op ho pa pb, fun F M0 M H σ Q s po => two_df hr qa qb s po⟩
theorem dd_cmp {ea : α → D} {eb : β → D} {f : α → β → Option Bool} {ma : R α} {mb : R β} (hr : Op2 X.G r ea eb D.bl f) (ho : OpR X (compareOp cop) r) (hm : behindInMarks cop b = false) (ha : DD X W Γ a ea ma) (hb : DD X W Γ b eb mb) :
    DD X W Γ (.Compare a [cop] [b] pos) D.bl (ma >>= fun x => mb >>= fun y => ofO (f x y)) := by
  have pa := pe_w X a; have qa := ha
  have pb := pe_w X b; have qb := hb
  exact dmk ⟨_, pe_cmpR ho pa pb hm, fun F M0 M H σ Q s po => two_dd hr qa qb s po⟩
theorem dt_cmp {ea : α → D} {eb : β → D} {f : α → β → Option Bool} {ma : R α} {mb : R β} (hr : Op2 X.G r ea eb D.bl f) (ho : OpR X (compareOp cop) r) (hm : behindInMarks cop b = false) (ha : DD X W Γ a ea ma) (hb : DD X W Γ b eb mb) :
    DT X W Γ (.Compare a [cop] [b] pos) (ma >>= fun x => mb >>= fun y => ofO (f x y)) := by
  have pa := pe_w X a; have qa := ha
  have pb := pe_w X b; have qb := hb
  exact tmk ⟨_, pt_cmpR ho pa pb hm, fun F M0 M H σ Q s po => two_dd hr qa qb s (po.imp (fun x _ k v M' H' g q => ⟨x, q, k M' H' g⟩) fun _ z => z)⟩
theorem db_cmp {ea : α → T} {eb : β → T} {f : α → β → Option Bool} {ma : R α} {mb : R β} (hr : Op2B X.G r ea eb D.bl f) (ho : OpR X (compareOp cop) r) (hm : behindInMarks cop b = false) (ha : DB X W Γ a ea ma) (hb : DB X W Γ b eb mb) :
    DD X W Γ (.Compare a [cop] [b] pos) D.bl (ma >>= fun x => mb >>= fun y => ofO (f x y)) := by
  have pa := pe_w X a; have qa := ha
  have pb := pe_w X b; have qb := hb
  exact dmk ⟨_, pe_cmpR ho pa pb hm, fun F M0 M H σ Q s po => two_db hr qa qb s po⟩
theorem dt_cmpB {ea : α → T} {eb : β → T} {f : α → β → Option Bool} {ma : R α} {mb : R β} (hr : Op2B X.G r ea eb D.bl f) (ho : OpR X (compareOp cop) r) (hm : behindInMarks cop b = false) (ha : DB X W Γ a ea ma) (hb : DB X W Γ b eb mb) :
    DT X W Γ (.Compare a [cop] [b] pos) (ma >>= fun x => mb >>= fun y => ofO (f x y)) := by
  have pa := pe_w X a; have qa := ha
  have pb := pe_w X b; have qb := hb
  exact tmk ⟨_, pt_cmpR ho pa pb hm, fun F M0 M H σ Q s po => two_db hr qa qb s (po.imp (fun x _ k v M' H' g q => ⟨x, q, k M' H' g⟩) fun _ z => z)⟩
end
/-! ### ints -/
theorem o2_I0 {G : Ctx} {g : Int → Int → Int} : Op2 G (rI0 fun i j => .int (g i j)) D.int D.int D.int fun i j => some (g i j) := fun x y z M H v w Q mh hv hw e k =>
  ⟨x, y, hv, hw, k _ M H (.refl mh) (by rw [← Option.some.inj e]; rfl)⟩
theorem o2_B0 {G : Ctx} {g : Int → Int → Bool} : Op2 G (rI0 fun i j => .bl (g i j)) D.int D.int D.bl fun i j => some (g i j) := fun x y z M H v w Q mh hv hw e k =>
  ⟨x, y, hv, hw, k _ M H (.refl mh) (by rw [← Option.some.inj e]; rfl)⟩
theorem o2_I {G : Ctx} {C : Int → Int → Prop} {h : ∀ i j, Decidable (C i j)} {g : Int → Int → Int} : Op2 G (rI C fun i j => .int (g i j)) D.int D.int D.int fun i j => @ite _ (C i j) (h i j) (some (g i j)) none := fun x y z M H v w Q mh hv hw e k => by
  have e : (@ite _ (C x y) (h x y) (some (g x y)) none) = some z := e
  by_cases c : C x y
  · rw [if_pos c] at e
    exact ⟨x, y, hv, hw, c, k _ M H (.refl mh) (by rw [← Option.some.inj e]; rfl)⟩
  · rw [if_neg c] at e; cases e
/-- the condition is known of the operand that is written there -/
theorem o2_IP {G : Ctx} {C : Int → Int → Prop} {P : Int → Int → Prop} {g : Int → Int → Int} (h : ∀ i j, P i j → C i j) : ∀ x y z (M H : Hp) v w (Q : VK), Same M H → P x y → Rep G M (D.int x) v → Rep G M (D.int y) w → g x y = z → WD G M H (D.int z) Q → (rI C fun i j => .int (g i j)) v w H Q := fun x y z M H v w Q mh p hv hw e k =>
  ⟨x, y, hv, hw, h _ _ p, k _ M H (.refl mh) (by rw [← e]; rfl)⟩
section
variable {ma mb : R Int}
theorem dd_add (ha : DD X W Γ a D.int ma) (hb : DD X W Γ b D.int mb) : DD X W Γ (.BinOp a .Add b pos) D.int (ma >>= fun x => mb >>= fun y => .ok (x + y)) := dd_op o2_I0 op_add ha hb
theorem dd_sub (ha : DD X W Γ a D.int ma) (hb : DD X W Γ b D.int mb) : DD X W Γ (.BinOp a .Sub b pos) D.int (ma >>= fun x => mb >>= fun y => .ok (x - y)) := dd_op o2_I0 op_sub ha hb
theorem dd_and (ha : DD X W Γ a D.int ma) (hb : DD X W Γ b D.int mb) : DD X W Γ (.BinOp a .BitAnd b pos) D.int (ma >>= fun x => mb >>= fun y => .ok (Builtin.bitAnd x y)) := dd_op o2_I0 op_and ha hb
theorem dd_or (ha : DD X W Γ a D.int ma) (hb : DD X W Γ b D.int mb) : DD X W Γ (.BinOp a .BitOr b pos) D.int (ma >>= fun x => mb >>= fun y => .ok (Builtin.bitOr x y)) := dd_op o2_I0 op_or ha hb
theorem dd_xor (ha : DD X W Γ a D.int ma) (hb : DD X W Γ b D.int mb) : DD X W Γ (.BinOp a .BitXor b pos) D.int (ma >>= fun x => mb >>= fun y => .ok (Builtin.bitXor x y)) := dd_op o2_I0 op_xor ha hb
instance decMul (i j : Int) : Decidable (CMul i j) := by unfold CMul; infer_instance
instance decPow (i j : Int) : Decidable (CPow i j) := by unfold CPow; infer_instance
instance decDiv (i j : Int) : Decidable (CDiv i j) := by unfold CDiv; infer_instance
noncomputable def mulO (i j : Int) : Option Int := @ite _ (CMul i j) (Classical.propDecidable _) (some (i * j)) none
noncomputable def powO (i j : Int) : Option Int := @ite _ (CPow i j) (Classical.propDecidable _) (some (i ^ j.toNat)) none
noncomputable def shlO (i j : Int) : Option Int := @ite _ (CPow i j) (Classical.propDecidable _) (some (i * 2 ^ j.toNat)) none
noncomputable def shrO (i j : Int) : Option Int := @ite _ (0 ≤ j) (Classical.propDecidable _) (some (i / 2 ^ j.toNat)) none
noncomputable def divO (i j : Int) : Option Int := @ite _ (CDiv i j) (Classical.propDecidable _) (some (i / j)) none
noncomputable def modO (i j : Int) : Option Int := @ite _ (0 < j) (Classical.propDecidable _) (some (i % j)) none
theorem dd_mul (ha : DD X W Γ a D.int ma) (hb : DD X W Γ b D.int mb) : DD X W Γ (.BinOp a .Mult b pos) D.int (ma >>= fun x => mb >>= fun y => ofO (mulO x y)) := dd_op o2_I op_mul ha hb
theorem dd_pow (ha : DD X W Γ a D.int ma) (hb : DD X W Γ b D.int mb) : DD X W Γ (.BinOp a .Pow b pos) D.int (ma >>= fun x => mb >>= fun y => ofO (powO x y)) := dd_op o2_I op_pow ha hb
theorem dd_shl (ha : DD X W Γ a D.int ma) (hb : DD X W Γ b D.int mb) : DD X W Γ (.BinOp a .LShift b pos) D.int (ma >>= fun x => mb >>= fun y => ofO (shlO x y)) := dd_op o2_I op_shl ha hb
theorem dd_shr (ha : DD X W Γ a D.int ma) (hb : DD X W Γ b D.int mb) : DD X W Γ (.BinOp a .RShift b pos) D.int (ma >>= fun x => mb >>= fun y => ofO (shrO x y)) := dd_op o2_I op_shr ha hb
theorem dd_div (ha : DD X W Γ a D.int ma) (hb : DD X W Γ b D.int mb) : DD X W Γ (.BinOp a .FloorDiv b pos) D.int (ma >>= fun x => mb >>= fun y => ofO (divO x y)) := dd_op o2_I op_fdiv ha hb
theorem dd_mod (ha : DD X W Γ a D.int ma) (hb : DD X W Γ b D.int mb) : DD X W Γ (.BinOp a .Mod b pos) D.int (ma >>= fun x => mb >>= fun y => ofO (modO x y)) := dd_op o2_I op_mod ha hb
theorem mulO_r {x y : Int} (h : -(2 ^ 64) < y ∧ y < 2 ^ 64) : mulO x y = some (x * y) := if_pos (.inr h)
theorem mulO_l {x y : Int} (h : -(2 ^ 64) < x ∧ x < 2 ^ 64) : mulO x y = some (x * y) := if_pos (.inl h)
theorem divO_c {x y : Int} (h : 0 < y ∧ y < 1073741824) : divO x y = some (x / y) := if_pos h
theorem modO_c {x y : Int} (h : 0 < y) : modO x y = some (x % y) := if_pos h
theorem shrO_c {x y : Int} (h : 0 ≤ y) : shrO x y = some (x / 2 ^ y.toNat) := if_pos h
/-- a written operand on the right | on the left -/
theorem op_right {op : Operator} {f : Int → Int → Option Int} {g : Int → Int → Int} {y : Int} (h : DD X W Γ (.BinOp a op b pos) D.int (ma >>= fun x => (R.ok y) >>= fun y => ofO (f x y))) (e : ∀ x, f x y = some (g x y)) : DD X W Γ (.BinOp a op b pos) D.int (ma >>= fun x => .ok (g x y)) := by
  have z : (ma >>= fun x => (R.ok y) >>= fun y => ofO (f x y)) = (ma >>= fun x => R.ok (g x y)) := by
    congr 1; funext x
    show ofO (f x y) = _
    rw [e]; rfl
  rw [← z]; exact h
theorem dd_mulC {y : Int} (ha : DD X W Γ a D.int ma) (hb : DD X W Γ b D.int (.ok y)) (h : -(2 ^ 64) < y ∧ y < 2 ^ 64) : DD X W Γ (.BinOp a .Mult b pos) D.int (ma >>= fun x => .ok (x * y)) := op_right (g := fun x y => x * y) (dd_mul ha hb) fun _ => mulO_r h
theorem dd_divC {y : Int} (ha : DD X W Γ a D.int ma) (hb : DD X W Γ b D.int (.ok y)) (h : 0 < y ∧ y < 1073741824) : DD X W Γ (.BinOp a .FloorDiv b pos) D.int (ma >>= fun x => .ok (x / y)) := op_right (g := fun x y => x / y) (dd_div ha hb) fun _ => divO_c h
theorem dd_modC {y : Int} (ha : DD X W Γ a D.int ma) (hb : DD X W Γ b D.int (.ok y)) (h : 0 < y) : DD X W Γ (.BinOp a .Mod b pos) D.int (ma >>= fun x => .ok (x % y)) := op_right (g := fun x y => x % y) (dd_mod ha hb) fun _ => modO_c h
theorem dd_shrC {y : Int} (ha : DD X W Γ a D.int ma) (hb : DD X W Γ b D.int (.ok y)) (h : 0 ≤ y) : DD X W Γ (.BinOp a .RShift b pos) D.int (ma >>= fun x => .ok (x / 2 ^ y.toNat)) := op_right (g := fun x y => x / 2 ^ y.toNat) (dd_shr ha hb) fun _ => shrO_c h
theorem dd_powC {x y z : Int} (ha : DD X W Γ a D.int (.ok x)) (hb : DD X W Γ b D.int (.ok y)) (h : powO x y = some z) : DD X W Γ (.BinOp a .Pow b pos) D.int (.ok z) := by
  have q := dd_pow (pos := pos) ha hb
  have e : ((R.ok x) >>= fun x => (R.ok y) >>= fun y => ofO (powO x y)) = R.ok z := by
    show ofO (powO x y) = _
    rw [h]; rfl
  rw [e] at q; exact q
/-! comparisons of ints: f is decide of it -/
variable {cop : CmpOp} {r : R2}
theorem dd_lt (ha : DD X W Γ a D.int ma) (hb : DD X W Γ b D.int mb) : DD X W Γ (.Compare a [.Lt] [b] pos) D.bl (ma >>= fun x => mb >>= fun y => .ok (decide (x < y))) := dd_cmp o2_B0 op_lt (nomark _) ha hb
theorem dd_le (ha : DD X W Γ a D.int ma) (hb : DD X W Γ b D.int mb) : DD X W Γ (.Compare a [.LtE] [b] pos) D.bl (ma >>= fun x => mb >>= fun y => .ok (decide (x ≤ y))) := dd_cmp o2_B0 op_le (nomark _) ha hb
theorem dd_gt (ha : DD X W Γ a D.int ma) (hb : DD X W Γ b D.int mb) : DD X W Γ (.Compare a [.Gt] [b] pos) D.bl (ma >>= fun x => mb >>= fun y => .ok (decide (y < x))) := dd_cmp o2_B0 op_gt (nomark _) ha hb
theorem dd_ge (ha : DD X W Γ a D.int ma) (hb : DD X W Γ b D.int mb) : DD X W Γ (.Compare a [.GtE] [b] pos) D.bl (ma >>= fun x => mb >>= fun y => .ok (decide (y ≤ x))) := dd_cmp o2_B0 op_ge (nomark _) ha hb
theorem dt_lt (ha : DD X W Γ a D.int ma) (hb : DD X W Γ b D.int mb) : DT X W Γ (.Compare a [.Lt] [b] pos) (ma >>= fun x => mb >>= fun y => .ok (decide (x < y))) := dt_cmp o2_B0 op_lt (nomark _) ha hb
theorem dt_le (ha : DD X W Γ a D.int ma) (hb : DD X W Γ b D.int mb) : DT X W Γ (.Compare a [.LtE] [b] pos) (ma >>= fun x => mb >>= fun y => .ok (decide (x ≤ y))) := dt_cmp o2_B0 op_le (nomark _) ha hb
theorem dt_gt (ha : DD X W Γ a D.int ma) (hb : DD X W Γ b D.int mb) : DT X W Γ (.Compare a [.Gt] [b] pos) (ma >>= fun x => mb >>= fun y => .ok (decide (y < x))) := dt_cmp o2_B0 op_gt (nomark _) ha hb
theorem dt_ge (ha : DD X W Γ a D.int ma) (hb : DD X W Γ b D.int mb) : DT X W Γ (.Compare a [.GtE] [b] pos) (ma >>= fun x => mb >>= fun y => .ok (decide (y ≤ x))) := dt_cmp o2_B0 op_ge (nomark _) ha hb
theorem o2_eqI {G : Ctx} : Op2 G rEq D.int D.int D.bl fun i j => some (decide (i = j)) := fun x y z M H v w Q mh hv hw e k => by
  rw [show v = .int x from hv, show w = .int y from hw]
  refine ⟨rfl, k _ M H (.refl mh) ?_⟩
  rw [← Option.some.inj e]
  show V.bl _ = V.bl _
  congr 1
  simp
theorem o2_neI {G : Ctx} : Op2 G rNe D.int D.int D.bl fun i j => some (!decide (i = j)) := fun x y z M H v w Q mh hv hw e k => by
  rw [show v = .int x from hv, show w = .int y from hw]
  refine ⟨rfl, k _ M H (.refl mh) ?_⟩
  rw [← Option.some.inj e]
  show V.bl _ = V.bl _
  congr 1
  simp
theorem o2_eqS {G : Ctx} : Op2 G rEq D.str D.str D.bl fun i j => some (decide (i = j)) := fun x y z M H v w Q mh hv hw e k => by
  rw [show v = .str x from hv, show w = .str y from hw]
  refine ⟨rfl, k _ M H (.refl mh) ?_⟩
  rw [← Option.some.inj e]
  show V.bl _ = V.bl _
  congr 1
  simp
theorem o2_neS {G : Ctx} : Op2 G rNe D.str D.str D.bl fun i j => some (!decide (i = j)) := fun x y z M H v w Q mh hv hw e k => by
  rw [show v = .str x from hv, show w = .str y from hw]
  refine ⟨rfl, k _ M H (.refl mh) ?_⟩
  rw [← Option.some.inj e]
  show V.bl _ = V.bl _
  congr 1
  simp
theorem dd_eqI (ha : DD X W Γ a D.int ma) (hb : DD X W Γ b D.int mb) : DD X W Γ (.Compare a [.Eq] [b] pos) D.bl (ma >>= fun x => mb >>= fun y => .ok (decide (x = y))) := dd_cmp o2_eqI op_eq (nomark _) ha hb
theorem dd_neI (ha : DD X W Γ a D.int ma) (hb : DD X W Γ b D.int mb) : DD X W Γ (.Compare a [.NotEq] [b] pos) D.bl (ma >>= fun x => mb >>= fun y => .ok (!decide (x = y))) := dd_cmp o2_neI op_ne (nomark _) ha hb
theorem dt_eqI (ha : DD X W Γ a D.int ma) (hb : DD X W Γ b D.int mb) : DT X W Γ (.Compare a [.Eq] [b] pos) (ma >>= fun x => mb >>= fun y => .ok (decide (x = y))) := dt_cmp o2_eqI op_eq (nomark _) ha hb
theorem dt_neI (ha : DD X W Γ a D.int ma) (hb : DD X W Γ b D.int mb) : DT X W Γ (.Compare a [.NotEq] [b] pos) (ma >>= fun x => mb >>= fun y => .ok (!decide (x = y))) := dt_cmp o2_neI op_ne (nomark _) ha hb
theorem dd_eqS {ma mb : R Str} (ha : DD X W Γ a D.str ma) (hb : DD X W Γ b D.str mb) : DD X W Γ (.Compare a [.Eq] [b] pos) D.bl (ma >>= fun x => mb >>= fun y => .ok (decide (x = y))) := dd_cmp o2_eqS op_eq (nomark _) ha hb
theorem dd_neS {ma mb : R Str} (ha : DD X W Γ a D.str ma) (hb : DD X W Γ b D.str mb) : DD X W Γ (.Compare a [.NotEq] [b] pos) D.bl (ma >>= fun x => mb >>= fun y => .ok (!decide (x = y))) := dd_cmp o2_neS op_ne (nomark _) ha hb
theorem dt_eqS {ma mb : R Str} (ha : DD X W Γ a D.str ma) (hb : DD X W Γ b D.str mb) : DT X W Γ (.Compare a [.Eq] [b] pos) (ma >>= fun x => mb >>= fun y => .ok (decide (x = y))) := dt_cmp o2_eqS op_eq (nomark _) ha hb
theorem dt_neS {ma mb : R Str} (ha : DD X W Γ a D.str ma) (hb : DD X W Γ b D.str mb) : DT X W Γ (.Compare a [.NotEq] [b] pos) (ma >>= fun x => mb >>= fun y => .ok (!decide (x = y))) := dt_cmp o2_neS op_ne (nomark _) ha hb
/-! ### one operand -/
theorem dd_neg (ha : DD X W Γ a D.int ma) : DD X W Γ (.UnaryOp .USub a pos) D.int (ma >>= fun x => .ok (-x)) := by
  have pa := pe_w X a; have qa := ha
  exact dmk ⟨_, pe_un un_neg pa, fun F M0 M H σ Q s po => qa F M0 M H σ _ s (po.bind.imp (fun x _ k v M1 H1 g1 r1 => ⟨x, r1, k _ M1 H1 g1 rfl⟩) fun _ z => z)⟩
end
/-! ### tests -/
theorem dt_bl {m : R Bool} (h : DD X W Γ e D.bl m) (he : ∀ whole, isTrue e X.env whole = (do let v ← whole; standAt e.pos; holding [v] (truthy v)) := by intro _; rfl) : DT X W Γ e m := by
  have p := pe_w X e; have q := h
  exact tmk ⟨_, pt_val p he, fun F M0 M H σ Q s po => q F M0 M H σ _ s (po.imp (fun x _ k v M' H' g r => ⟨x, r, k M' H' g⟩) fun _ z => z)⟩
/-- how data counts as a test -/
def tru : T → Option Bool
  | .imm .non => some false
  | .imm (.bl b) => some b
  | .imm (.int i) => some (i != 0)
  | .imm (.str s) => if s.length ≤ sizeLine then some ((s.length : Int) != 0) else none
  | .imm (.lst ds) => some !ds.isEmpty
  | .imm (.frl ds) => some !ds.isEmpty
  | .imm (.tup ds) => some !ds.isEmpty
  | .lst ts => some !ts.isEmpty
  | _ => none
theorem empty_of_len {α β : Type} {xs : List α} {ys : List β} (h : xs.length = ys.length) : xs.isEmpty = ys.isEmpty := by
  cases xs <;> cases ys <;> simp_all
theorem tru_of {G : Ctx} {M H : Hp} {t : T} {v : V} {as : List Addr} {k : Bool} (mh : Same M H) (o : Own G M H t v as) (h : tru t = some k) : TruV G.K v H k := by
  cases t with
  | imm d =>
    obtain ⟨_, o⟩ := o
    cases d with
    | any => cases h
    | non =>
      rw [show v = .non from o]
      exact (Option.some.inj h).symm
    | bl b =>
      rw [show v = .bl b from o]
      exact (Option.some.inj h).symm
    | int i =>
      rw [show v = .int i from o]
      exact (Option.some.inj h).symm
    | str s =>
      rw [show v = .str s from o]
      have h' : (if s.length ≤ sizeLine then some ((s.length : Int) != 0) else none) = some k := h
      by_cases c : s.length ≤ sizeLine
      · rw [if_pos c] at h'
        exact ⟨c, (Option.some.inj h').symm⟩
      · rw [if_neg c] at h'; cases h'
    | tup ds =>
      obtain ⟨a, vs, e, h2, h3⟩ := o
      rw [e]
      refine .inr (.inl ⟨vs, same_sqt mh h2, ?_⟩)
      rw [← Option.some.inj h, empty_of_len h3.len]
    | lst ds =>
      obtain ⟨a, vs, e, h2, h3⟩ := o
      rw [e]
      refine .inl ⟨vs, .of (mh _ _ h2), ?_⟩
      rw [← Option.some.inj h, empty_of_len h3.len]
    | frl ds =>
      obtain ⟨a, vs, e, h2, h3⟩ := o
      rw [e]
      refine .inl ⟨vs, mh.seq h2, ?_⟩
      rw [← Option.some.inj h, empty_of_len h3.len]
    | dic _ _ => cases h
    | dit _ _ => cases h
    | obj _ _ _ => cases h
  | lst ts =>
    obtain ⟨a, vs, r, e, e2, h2, h3⟩ := o
    rw [e]
    refine .inl ⟨vs, .of h2, ?_⟩
    rw [← Option.some.inj h, empty_of_len h3.len]
  | dic _ _ => cases h
  | dit _ _ => cases h
  | obj _ _ _ => cases h
/-- an expression of any kind as a test -/
theorem dt_tru {emb : α → T} {m : R α} (h : DB X W Γ e emb m) (he : ∀ whole, isTrue e X.env whole = (do let v ← whole; standAt e.pos; holding [v] (truthy v)) := by intro _; rfl) : DT X W Γ e (m >>= fun x => ofO (tru (emb x))) := by
  have p := pe_w X e; have q := h
  refine tmk ⟨_, pt_truth p he, fun F M0 M H σ Q s po => q F M0 M H σ _ s (po.bind.imp (fun x _ k v M' H' as g o => ?_) fun _ z => z)⟩
  obtain ⟨b, e, k⟩ := k.ofO
  exact ⟨b, tru_of g.mh o e, k M' H' g⟩
theorem dt_int {m : R Int} (h : DD X W Γ e D.int m) (he : ∀ whole, isTrue e X.env whole = (do let v ← whole; standAt e.pos; holding [v] (truthy v)) := by intro _; rfl) : DT X W Γ e (m >>= fun x => .ok (x != 0)) := dt_tru (db_of_dd h) he
theorem dt_lst {emb : α → T} {m : R (List α)} (h : DB X W Γ e (fun xs => .lst (xs.map emb)) m) (he : ∀ whole, isTrue e X.env whole = (do let v ← whole; standAt e.pos; holding [v] (truthy v)) := by intro _; rfl) : DT X W Γ e (m >>= fun x => .ok !x.isEmpty) := by
  have q := dt_tru h he
  have z : (fun x : List α => ofO (tru (T.lst (x.map emb)))) = fun x => R.ok !x.isEmpty := by
    funext x
    show R.ok _ = R.ok _
    rw [List.isEmpty_map]
  rw [z] at q; exact q
theorem dw_one {op : BoolOp} {m : R Bool} (h : DT X W Γ e m) (ho : op = .And ∨ op = .Or) : DW X W Γ (.BoolOp op [e] pos) m := by
  have p := pt_w X e; have q := h
  rcases ho with rfl | rfl
  · exact wmk ⟨_, pw_and1 p, q⟩
  · exact wmk ⟨_, pw_or1 p, q⟩
theorem dw_and {m n : R Bool} {rest : List Expr} (h : DT X W Γ a m) (k : DW X W Γ (.BoolOp .And (b :: rest) pos) n) : DW X W Γ (.BoolOp .And (a :: b :: rest) pos) (m >>= fun x => if x then n else .ok false) := by
  have p := pt_w X a; have q := h
  have p' := pw_w X (.BoolOp .And (b :: rest) pos); have q' := k
  refine wmk ⟨_, pw_and p p', fun F M0 M H σ Q s po => q F M0 M H σ _ s (po.bind.imp (fun x _ k M' H' g => ?_) fun _ z => z)⟩
  cases x with
  | true => exact q' F M0 M' H' σ _ (s.grow g) (k.imp (fun y _ z M2 H2 g2 => z M2 H2 (g.trans g2)) fun c z M2 H2 g2 => z M2 H2 (g.trans g2))
  | false => exact k M' H' g
theorem dw_or {m n : R Bool} {rest : List Expr} (h : DT X W Γ a m) (k : DW X W Γ (.BoolOp .Or (b :: rest) pos) n) : DW X W Γ (.BoolOp .Or (a :: b :: rest) pos) (m >>= fun x => if x then .ok true else n) := by
  have p := pt_w X a; have q := h
  have p' := pw_w X (.BoolOp .Or (b :: rest) pos); have q' := k
  refine wmk ⟨_, pw_or p p', fun F M0 M H σ Q s po => q F M0 M H σ _ s (po.bind.imp (fun x _ k M' H' g => ?_) fun _ z => z)⟩
  cases x with
  | false => exact q' F M0 M' H' σ _ (s.grow g) (k.imp (fun y _ z M2 H2 g2 => z M2 H2 (g.trans g2)) fun c z M2 H2 g2 => z M2 H2 (g.trans g2))
  | true => exact k M' H' g
theorem dt_dw {m : R Bool} (h : DW X W Γ e m) : DT X W Γ e m := by
  have p := pw_w X e; have q := h
  exact tmk ⟨_, p.pt, q⟩
theorem dt_not {m : R Bool} (h : DT X W Γ e m) : DT X W Γ (.UnaryOp .Not e pos) (m >>= fun x => .ok !x) := by
  have p := pt_w X e; have q := h
  exact tmk ⟨_, pt_not p, fun F M0 M H σ Q s po => q F M0 M H σ _ s (po.bind.imp (fun x _ k M' H' g => k M' H' g) fun _ z => z)⟩
/-- and, or, not of bools as values -/
theorem dd_one {op : BoolOp} {m : R Bool} (h : DD X W Γ e D.bl m) : DD X W Γ (.BoolOp op [e] pos) D.bl m := by
  have p := pe_w X e; have q := h
  exact dmk ⟨_, pe_one p, q⟩
theorem dd_andB {m n : R Bool} {rest : List Expr} (h : DD X W Γ a D.bl m) (k : DD X W Γ (.BoolOp .And (b :: rest) pos) D.bl n) : DD X W Γ (.BoolOp .And (a :: b :: rest) pos) D.bl (m >>= fun x => if x then n else .ok false) := by
  have p := pe_w X a; have q := h
  have p' := pe_w X (.BoolOp .And (b :: rest) pos); have q' := k
  refine dmk ⟨_, pe_and p p', fun F M0 M H σ Q s po => q F M0 M H σ _ s (po.bind.imp (fun x _ k v M' H' g r => ⟨x, r, ?_⟩) fun _ z => z)⟩
  cases x with
  | true => exact q' F M0 M' H' σ _ (s.grow g) (k.imp (fun y _ z v M2 H2 g2 => z v M2 H2 (g.trans g2)) fun c z M2 H2 g2 => z M2 H2 (g.trans g2))
  | false => exact k _ M' H' g rfl
theorem dd_orB {m n : R Bool} {rest : List Expr} (h : DD X W Γ a D.bl m) (k : DD X W Γ (.BoolOp .Or (b :: rest) pos) D.bl n) : DD X W Γ (.BoolOp .Or (a :: b :: rest) pos) D.bl (m >>= fun x => if x then .ok true else n) := by
  have p := pe_w X a; have q := h
  have p' := pe_w X (.BoolOp .Or (b :: rest) pos); have q' := k
  refine dmk ⟨_, pe_or p p', fun F M0 M H σ Q s po => q F M0 M H σ _ s (po.bind.imp (fun x _ k v M' H' g r => ⟨x, r, ?_⟩) fun _ z => z)⟩
  cases x with
  | false => exact q' F M0 M' H' σ _ (s.grow g) (k.imp (fun y _ z v M2 H2 g2 => z v M2 H2 (g.trans g2)) fun c z M2 H2 g2 => z M2 H2 (g.trans g2))
  | true => exact k _ M' H' g rfl
theorem dd_notB {m : R Bool} (h : DD X W Γ e D.bl m) : DD X W Γ (.UnaryOp .Not e pos) D.bl (m >>= fun x => .ok !x) := by
  have p := pe_w X e; have q := h
  exact dmk ⟨_, pe_not p, fun F M0 M H σ Q s po => q F M0 M H σ _ s (po.bind.imp (fun x _ k v M' H' g r => ⟨x, r, k _ M' H' g rfl⟩) fun _ z => z)⟩
theorem df_if {c : Expr} {mc : R Bool} {emb : α → T} {m n : R α} (hc : DT X W Γ c mc) (ha : DF X W Γ a emb m) (hb : DF X W Γ b emb n) : DF X W Γ (.IfExp c a b pos) emb (mc >>= fun x => if x then m else n) := by
  have pc := pt_w X c; have qc := hc
  have pa := pe_w X a; have qa := ha
  have pb := pe_w X b; have qb := hb
  refine dmk ⟨_, pe_ifExp pc pa pb, fun F M0 M H σ Q s po => qc F M0 M H σ _ s (po.bind.imp (fun x _ k M' H' g => ?_) fun _ z => z)⟩
  cases x with
  | true => exact qa F M0 M' H' σ _ (s.grow g) (k.imp (fun y _ z v M2 H2 as g2 o nd fr => z v M2 H2 as (g.trans g2) o nd fun a ha => ⟨g.hh.free (fr a ha).1, (fr a ha).2⟩) fun c z M2 H2 g2 => z M2 H2 (g.trans g2))
  | false => exact qb F M0 M' H' σ _ (s.grow g) (k.imp (fun y _ z v M2 H2 as g2 o nd fr => z v M2 H2 as (g.trans g2) o nd fun a ha => ⟨g.hh.free (fr a ha).1, (fr a ha).2⟩) fun c z M2 H2 g2 => z M2 H2 (g.trans g2))
theorem dd_if {c : Expr} {mc : R Bool} {emb : α → D} {m n : R α} (hc : DT X W Γ c mc) (ha : DD X W Γ a emb m) (hb : DD X W Γ b emb n) : DD X W Γ (.IfExp c a b pos) emb (mc >>= fun x => if x then m else n) := dd_imm (df_if hc (df_of_dd ha) (df_of_dd hb))
/-! ### arguments, calls -/
theorem da_nil : DA X W Γ [] (fun _ : Unit => []) (.ok ()) := amk ⟨_, pa_nil, fun F M0 M H σ Q s po => po [] M H (.refl s.mh) rfl⟩
theorem da_cons {ea : α → D} {es' : β → List D} {m : R α} {n : R β} (h : DD X W Γ e ea m) (k : DA X W Γ es es' n) (hs : starEach (e :: es) X.env = (false, eval e X.env) :: starEach es X.env := by rfl) :
    DA X W Γ (e :: es) (fun p : α × β => ea p.1 :: es' p.2) (m >>= fun x => n >>= fun y => .ok (x, y)) := by
  have p := pe_w X e; have q := h
  have p' := pa_w X es; have q' := k
  refine amk ⟨_, pa_cons p p' hs, fun F M0 M H σ Q s po => q F M0 M H σ _ s (po.bind.imp (fun x _ k v M1 H1 g r => ?_) fun _ z => z)⟩
  exact q' F M0 M1 H1 σ _ (s.grow g) (k.bind.imp (fun y _ z vs M2 H2 g2 r2 => z _ M2 H2 (g.trans g2) ⟨v, vs, rfl, Rep.mono g2.mm _ _ r, r2⟩) fun c z M2 H2 g2 => z M2 H2 (g.trans g2))
/-- a def that changes nothing: what it is given stands for a, it hands back what stands for f a, or raises -/
def SpF (G : Ctx) {α ρ : Type} (args : α → List D) (er : ρ → T) (f : α → R ρ) : Sp := fun vs H Q E => ∃ (a : α) (M : Hp), Same M H ∧ Reps G M (args a) vs ∧
  Po (f a) (fun r => WF G M H (er r) Q) (fun c => ∀ M' H', Gr M H M' H' → ∀ C, G.mg c = some (.ref C) → E (.ref C) none H')
section
variable {k : Nat} {f : Addr} {fd : FuncData} {ps : List Str} {n : Str} {p : Pos} {ρ : Type}
theorem df_call {args : α → List D} {er : ρ → T} {g : α → R ρ} {m : R α} (Fk : FnOk X.prog X.w X.K X.mg X.base (L2.CX X.prog X.w) k f fd ps (SpF X.G args er g)) (hr : Room k X.A) (hm : X.mg n = some (.ref f)) (hk : PySem.W.keepIn X.K (.ref f) = true) (hb : Binds X.K fd ps [])
    (tk : Takes X W) (ha : DA X W Γ (e :: es) args m) (hg : Gl X n := by rfl) (hdb : (n == ("__debug__" : Str)) = false := by decide) (he : starEach (e :: es) X.env = (false, eval e X.env) :: starEach es X.env := by rfl) (hpl : (backTo pos (starEach es X.env)).any (·.1) = false := by rfl) :
    DF X W Γ (.Call (.Name n p) (e :: es) [] pos) er (m >>= g) := by
  have pa := pa_w X (e :: es); have qa := ha
  refine dmk ⟨_, pe_callS Fk hr hg hm hk hb (fun σ => passAt tk σ) pa hdb he hpl, fun F M0 M H σ Q s po => ?_⟩
  refine qa F M0 M H σ _ s (po.bind.imp (fun x _ k vs M1 H1 g1 r1 => ?_) fun _ z => z)
  exact ⟨x, M1, g1.mh, r1, k.imp (fun r _ z v M2 H2 as g2 o nd fr => z v M2 H2 as (g1.trans g2) o nd fun a ha => ⟨g1.hh.free (fr a ha).1, (fr a ha).2⟩) fun c z M2 H2 g2 => z M2 H2 (g1.trans g2)⟩
end
end
end Cn
/-! Cn3: statements -/
namespace Cn
open PySem PySem.Spec L2
/-- the ways in which a block may end with an outcome -/
structure Kd where
  nx : Option (List Sl) := none
  rt : Option (T × List Sl) := none
  bk : Option (List Sl) := none
  ct : Option (List Sl) := none
abbrev Kd.n (Γ : List Sl) : Kd := { nx := some Γ }
abbrev Kd.r (t : T) (Γ : List Sl) : Kd := { rt := some (t, Γ) }
/-- .. but the falling through -/
abbrev Kd.ex (k : Kd) : Kd := { k with nx := none }
abbrev Kd.rr (k : Kd) : Kd := { rt := k.rt }
structure Kn (G : Ctx) (F M0 : Hp) (D : Ends) (k : Kd) : Prop where
  nx : ∀ Γ, k.nx = some Γ → ∀ M H σ, S G F M0 M H σ Γ → D.nx σ H
  rt : ∀ t Γ, k.rt = some (t, Γ) → ∀ M H σ v, S G F M0 M H (some v :: σ) (.ow t :: Γ) → D.rt v H
  bk : ∀ Γ, k.bk = some Γ → ∀ M H σ, S G F M0 M H σ Γ → D.bk σ H
  ct : ∀ Γ, k.ct = some Γ → ∀ M H σ, S G F M0 M H σ Γ → D.ct σ H
/-- a block; Γe: what is known where an exception leaves -/
def Bk (X : Cx) (W : WX) (Γe Γ : List Sl) (ss : List Stmt) {ω : Type} (κ : ω → Kd) (m : R ω) : Prop :=
  ∀ F M0 M H σ D, S X.G F M0 M H σ Γ → Po m (fun o => Kn X.G F M0 D (κ o)) (fun c => ∀ M' H' σ', S X.G F M0 M' H' σ' Γe → Er X.G W c σ' H') → wSs X ss D σ H
def St1 (X : Cx) (W : WX) (Γe Γ : List Sl) (s : Stmt) {ω : Type} (κ : ω → Kd) (m : R ω) : Prop :=
  ∀ F M0 M H σ D, S X.G F M0 M H σ Γ → Po m (fun o => Kn X.G F M0 D (κ o)) (fun c => ∀ M' H' σ', S X.G F M0 M' H' σ' Γe → Er X.G W c σ' H') → wS X s D σ H
/-! ### the state, stored to -/
section
variable {G : Ctx} {F M0 M M' H H' : Hp} {σ : St} {Γ : List Sl}
theorem S.put {t : T} {v : V} {n : List Addr} {i : Nat} (s : S G F M0 M H σ Γ) (g : Gr M H M' H') (o : Own G M' H' t v n) (nd : n.Nodup) (fr : ∀ a ∈ n, H a = none ∧ M' a = none) (hi : i < Γ.length) : S G F M0 M' H' (σ.set i (some v)) (Γ.set i (.ow t)) := by
  obtain ⟨as, f, sa⟩ := s
  have th := Sat.there Γ σ as sa
  have sa' := Sat.keep g.mm Γ σ as (fun a _ o e => g.hh a o e) sa
  obtain ⟨bs, l, r, sb, e, sub⟩ := Sat.put sa' hi o
  refine ⟨bs, ?_, sb⟩
  rw [e]
  exact (f.grow th g).add sub nd (fun a ha => f.fh.free (fr a ha).1) (fun a ha => (fr a ha).2) fun a ha z => th a z (fr a ha).1
theorem S.cons {t : T} {v : V} {n : List Addr} (s : S G F M0 M H σ Γ) (g : Gr M H M' H') (o : Own G M' H' t v n) (nd : n.Nodup) (fr : ∀ a ∈ n, H a = none ∧ M' a = none) : S G F M0 M' H' (some v :: σ) (.ow t :: Γ) := by
  obtain ⟨as, f, sa⟩ := s
  have th := Sat.there Γ σ as sa
  have sa' := Sat.keep g.mm Γ σ as (fun a _ o e => g.hh a o e) sa
  refine ⟨n ++ as, ?_, ⟨v, σ, n, as, rfl, rfl, o, sa'⟩⟩
  exact (f.grow th g).add (l := []) (by simp) nd (fun a ha => f.fh.free (fr a ha).1) (fun a ha => (fr a ha).2) fun a ha z => th a z (fr a ha).1
/-- the slot's tree alone, the others around it -/
theorem Sat.focus : ∀ {Γ : List Sl} {σ : St} {as : List Addr} {i : Nat} {t : T}, Sat G M H Γ σ as → Γ[i]? = some (.ow t) →
    ∃ v l a r, σ[i]? = some (some v) ∧ as = l ++ a ++ r ∧ Own G M H t v a ∧ ∀ M' H' t' a', Same M M' → (∀ b ∈ l ++ r, ∀ o, H b = some o → H' b = some o) → Own G M' H' t' v a' → Sat G M' H' (Γ.set i (.ow t')) σ (l ++ a' ++ r)
  | [], σ, as, i, t, h, e => by simp at e
  | .un :: Γ, σ, as, 0, t, h, e => nomatch (Option.some.inj e)
  | .un :: Γ, σ, as, i + 1, t, ⟨x, r, h1, h2⟩, e => by
    subst h1
    obtain ⟨v, l, a, r', q1, q2, q3, q4⟩ := Sat.focus (i := i) h2 e
    exact ⟨v, l, a, r', q1, q2, q3, fun M' H' t' a' m k o => ⟨x, r, rfl, q4 M' H' t' a' m k o⟩⟩
  | .ow t0 :: Γ, σ, as, 0, t, ⟨v, r, a1, a2, h1, h2, h3, h4⟩, e => by
    have z : t0 = t := Sl.ow.inj (Option.some.inj e)
    subst z; subst h1
    refine ⟨v, [], a1, a2, rfl, h2, h3, fun M' H' t' a' m k o => ⟨v, r, a', a2, rfl, rfl, o, Sat.keep m Γ r a2 (fun b hb => k b (by simpa using hb)) h4⟩⟩
  | .ow t0 :: Γ, σ, as, i + 1, t, ⟨v, r, a1, a2, h1, h2, h3, h4⟩, e => by
    subst h1; subst h2
    obtain ⟨w, l, a, r', q1, q2, q3, q4⟩ := Sat.focus (i := i) h4 e
    subst q2
    refine ⟨w, a1 ++ l, a, r', q1, by simp, q3, fun M' H' t' a' m k o => ⟨v, r, a1, l ++ a' ++ r', rfl, by simp, Own.keep m t0 v a1 (fun b hb => k b (by simp [hb])) h3, q4 M' H' t' a' m (fun b hb => k b ?_) o⟩⟩
    rw [List.append_assoc]; exact List.mem_append_right _ hb
  | .pn w0 t0 :: Γ, σ, as, 0, t, h, e => nomatch (Option.some.inj e)
  | .pn w0 t0 :: Γ, σ, as, i + 1, t, ⟨r, a1, a2, h1, h2, h3, h4⟩, e => by
    subst h1; subst h2
    obtain ⟨w, l, a, r', q1, q2, q3, q4⟩ := Sat.focus (i := i) h4 e
    subst q2
    refine ⟨w, a1 ++ l, a, r', q1, by simp, q3, fun M' H' t' a' m k o => ⟨r, a1, l ++ a' ++ r', rfl, by simp, Own.keep m t0 w0 a1 (fun b hb => k b (by simp [hb])) h3, q4 M' H' t' a' m (fun b hb => k b ?_) o⟩⟩
    rw [List.append_assoc]; exact List.mem_append_right _ hb
theorem Fr0.upd {as : List Addr} {p : Addr} {o : HO} (f : Fr0 F M0 M H as) (hp : p ∈ as) : Fr0 F M0 M (upd H p o) as where
  fh := fun b u e => by rw [upd_ne (ne_of_none e (f.fa p hp))]; exact f.fh b u e
  mm := f.mm
  mh := fun b u e => by rw [upd_ne (ne_of_none e (f.ma p hp))]; exact f.mh b u e
  nw := f.nw
  nd := f.nd
  fa := f.fa
  ma := f.ma
/-- a list of the slot's own is changed in its items; n: what comes to it -/
theorem S.listed {i : Nat} {ts ts' : List T} (s : S G F M0 M H σ Γ) (h : Γ[i]? = some (.ow (.lst ts))) :
    ∃ a vs, σ[i]? = some (some (.ref a)) ∧ H a = some (.lst vs) ∧ vs.length = ts.length ∧ (∃ as, Owns G M H ts vs as) ∧
      ∀ M' H' vs' n, Gr M H M' H' → (∀ as K', (∀ b ∈ as, b ≠ a) → Owns G M H ts vs as → Owns G M' K' ts vs as → (∀ b o, b ≠ a → H' b = some o → K' b = some o) → ∃ as', Owns G M' K' ts' vs' as' ∧ as'.Sublist (as ++ n)) → n.Nodup → (∀ b ∈ n, H b = none ∧ M' b = none) →
        S G F M0 M' (upd H' a (.lst vs')) σ (Γ.set i (.ow (.lst ts'))) := by
  obtain ⟨as, f, sa⟩ := s
  obtain ⟨v, l, a0, r, q1, q2, q3, q4⟩ := Sat.focus sa h
  obtain ⟨a, vs, r0, e1, e2, e3, e4⟩ := q3
  subst e1; subst e2
  refine ⟨a, vs, q1, e3, Owns.len e4, ⟨r0, e4⟩, fun M' H' vs' n g ho nn fr => ?_⟩
  have th := Sat.there Γ σ as sa
  have f1 := f.grow th g
  have hnd := f.nd
  rw [q2] at hnd
  have hp : a ∈ as := by rw [q2]; simp
  have nr : ∀ b ∈ r0, b ≠ a := fun b hb z => by
    subst z
    rw [List.nodup_append] at hnd
    have := hnd.1
    rw [List.nodup_append] at this
    have := this.2.1
    rw [List.nodup_cons] at this
    exact this.1 hb
  have no : ∀ b ∈ l ++ r, b ≠ a := fun b hb z => by
    subst z
    rw [List.nodup_append] at hnd
    rcases List.mem_append.mp hb with w | w
    · have q := hnd.1
      rw [List.nodup_append] at q
      exact q.2.2 b w b List.mem_cons_self rfl
    · exact hnd.2.2 b (by simp) b w rfl
  obtain ⟨as', o', sub⟩ := ho r0 (upd H' a (.lst vs')) nr e4 (Owns.keep g.mm ts vs r0 (fun b hb o e => by rw [upd_ne (nr b hb)]; exact g.hh b o e) e4)  (fun b o hb e => by rw [upd_ne hb]; exact e)
  have f2 := (f1.upd (o := .lst vs') hp).add (l := l ++ (a :: r0)) (n := n) (r := r) (by rw [q2]; exact .refl _) nn (fun b hb => f.fh.free (fr b hb).1) (fun b hb => (fr b hb).2) fun b hb z => th b z (fr b hb).1
  refine ⟨l ++ (a :: as') ++ r, f2.sub ?_, q4 M' _ _ _ g.mm (fun b hb o e => by rw [upd_ne (no b hb)]; exact g.hh b o e) ⟨a, vs', as', rfl, rfl, upd_same, o'⟩⟩
  refine List.Sublist.append ?_ (.refl _)
  rw [List.append_assoc]
  refine List.Sublist.append (.refl _) ?_
  rw [List.cons_append]
  exact List.Sublist.cons₂ a sub
theorem S.base_in {M1 : Hp} (s : S G F M0 M H σ Γ) (h1 : Same M1 M) (h0 : Same M0 M1) : S G F M1 M H σ Γ := by
  obtain ⟨as, f, sa⟩ := s
  exact ⟨as, ⟨f.fh, h1, f.mh, fun a z => by
    rcases f.nw a z with q | q
    · exact .inl (Same.of_some h0 q)
    · exact .inr q, f.nd, f.fa, f.ma⟩, sa⟩
theorem S.base_out {M1 : Hp} (s : S G F M1 M H σ Γ) (h0 : Same M0 M1) (nw : ∀ a, M1 a ≠ none → M0 a ≠ none ∨ F a = none) : S G F M0 M H σ Γ := by
  obtain ⟨as, f, sa⟩ := s
  exact ⟨as, ⟨f.fh, h0.trans f.mm, f.mh, fun a z => by
    rcases f.nw a z with q | q
    · exact nw a q
    · exact .inr q, f.nd, f.fa, f.ma⟩, sa⟩
theorem S.rel (s : S G F M0 M H σ Γ) : Same M0 M ∧ ∀ a, M a ≠ none → M0 a ≠ none ∨ F a = none := by
  obtain ⟨as, f, sa⟩ := s
  exact ⟨f.mm, f.nw⟩
theorem Kn.base {M1 : Hp} {D : Ends} {k : Kd} (h : Kn G F M0 D k) (h0 : Same M0 M1) (nw : ∀ a, M1 a ≠ none → M0 a ≠ none ∨ F a = none) : Kn G F M1 D k :=
  ⟨fun Γ e M H σ s => h.nx Γ e M H σ (s.base_out h0 nw), fun t Γ e M H σ v s => h.rt t Γ e M H σ v (s.base_out h0 nw), fun Γ e M H σ s => h.bk Γ e M H σ (s.base_out h0 nw), fun Γ e M H σ s => h.ct Γ e M H σ (s.base_out h0 nw)⟩
/-- fresh data is shared from now on -/
theorem S.len (s : S G F M0 M H σ Γ) : σ.length = Γ.length := by
  obtain ⟨as, f, sa⟩ := s
  have : ∀ (Γ : List Sl) (σ : St) (as : List Addr), Sat G M H Γ σ as → σ.length = Γ.length := by
    intro Γ
    induction Γ with
    | nil => intro σ as h; rw [h.1]; rfl
    | cons x Γ ih =>
      intro σ as h
      cases x with
      | un => obtain ⟨x, r, h1, h2⟩ := h; rw [h1, List.length_cons, List.length_cons, ih _ _ h2]
      | ow t => obtain ⟨v, r, a1, a2, h1, h2, h3, h4⟩ := h; rw [h1, List.length_cons, List.length_cons, ih _ _ h4]
      | pn w t => obtain ⟨r, a1, a2, h1, h2, h3, h4⟩ := h; rw [h1, List.length_cons, List.length_cons, ih _ _ h4]
  exact this Γ σ as sa
end
/-! ### blocks -/
section
variable {X : Cx} {W : WX} {Γe Γ : List Sl} {a b e c : Expr} {es : List Expr} {α β γ ω ω1 : Type} {pos : Pos} {s : Stmt} {rest A B : List Stmt}
theorem bk_nil {κ : ω → Kd} {o : ω} {Γ' : List Sl} (hk : (κ o).nx = some Γ') (hw : Wk Γ' Γ) : Bk X W Γe Γ [] κ (.ok o) :=
  bmk ⟨_, pss_nil, fun F M0 M H σ D s po => po.nx Γ' hk M H σ (s.wk hw)⟩
theorem bk_one {κ : ω → Kd} {m : R ω} (h : St1 X W Γe Γ s κ m) : Bk X W Γe Γ [s] κ m := bmk ⟨_, pss_one (ps_w X s), h⟩
/-- a statement that falls through, and the rest -/
theorem bk_cons {Γ1 : ω1 → List Sl} {κ : ω → Kd} {m : R ω1} {k : ω1 → R ω} (h1 : St1 X W Γe Γ s (fun o => .n (Γ1 o)) m) (h2 : ∀ o, Bk X W Γe (Γ1 o) rest κ (k o)) : Bk X W Γe Γ (s :: rest) κ (m >>= k) :=
  bmk ⟨_, pss_cons (ps_w X s) (pss_w X rest), fun F M0 M H σ D s po => h1 F M0 M H σ _ s (po.bind.imp (fun o _ q => ⟨fun Γ e M H σ s => by
    have e' : Γ1 o = Γ := Option.some.inj e
    subst e'
    exact h2 o F M0 M H σ D s q, fun t Γ e => (nomatch e), fun Γ e => (nomatch e), fun Γ e => (nomatch e)⟩) fun _ z => z)⟩
/-- a statement that falls through or leaves -/
def sumK {S O T : Type} (f : S → R T) (g : O → R T) : S ⊕ O → R T
  | .inl a => f a
  | .inr o => g o
def kSum {S O : Type} (f : S → Kd) (g : O → Kd) : S ⊕ O → Kd
  | .inl a => f a
  | .inr o => g o
theorem bk_consX {Γ1 : ω1 → List Sl} {κ : ω → Kd} {m : R (ω1 ⊕ ω)} {k : ω1 → R ω} (h1 : St1 X W Γe Γ s (kSum (fun o => .n (Γ1 o)) fun o => (κ o).ex) m) (h2 : ∀ o, Bk X W Γe (Γ1 o) rest κ (k o)) : Bk X W Γe Γ (s :: rest) κ (m >>= sumK k .ok) :=
  bmk ⟨_, pss_cons (ps_w X s) (pss_w X rest), fun F M0 M H σ D s po => h1 F M0 M H σ _ s (po.bind.imp (fun o _ q => by
    cases o with
    | inl o =>
      refine ⟨fun Γ e M H σ s => ?_, fun t Γ e => (nomatch e), fun Γ e => (nomatch e), fun Γ e => (nomatch e)⟩
      have e' : Γ1 o = Γ := Option.some.inj e
      subst e'
      exact h2 o F M0 M H σ D s q
    | inr o => exact ⟨fun Γ e => (nomatch e), fun t Γ e => Kn.rt q t Γ e, fun Γ e => Kn.bk q Γ e, fun Γ e => Kn.ct q Γ e⟩) fun _ z => z)⟩
theorem st_map {κ : ω → Kd} {κ' : ω1 → Kd} {m : R ω} {g : ω → ω1} (h : St1 X W Γe Γ s κ m) (e : ∀ o, κ' (g o) = κ o) : St1 X W Γe Γ s κ' (m >>= fun o => .ok (g o)) := fun F M0 M H σ D st po =>
  h F M0 M H σ D st (po.bind.imp (fun o _ (q : Kn _ _ _ _ (κ' (g o))) => by rw [← e]; exact q) fun _ z => z)
theorem bk_map {ss : List Stmt} {κ : ω → Kd} {κ' : ω1 → Kd} {m : R ω} {g : ω → ω1} (h : Bk X W Γe Γ ss κ m) (e : ∀ o, Kd.rt (κ' (g o)) = (κ o).rt ∧ ((κ o).nx = none ∨ (κ' (g o)).nx = (κ o).nx) ∧ ((κ o).bk = none ∨ (κ' (g o)).bk = (κ o).bk) ∧ ((κ o).ct = none ∨ (κ' (g o)).ct = (κ o).ct)) : Bk X W Γe Γ ss κ' (m >>= fun o => .ok (g o)) := fun F M0 M H σ D st po =>
  h F M0 M H σ D st (po.bind.imp (fun o _ (q : Kn _ _ _ _ (κ' (g o))) => by
    obtain ⟨e1, e2, e3, e4⟩ := e o
    refine ⟨fun Γ z => ?_, fun t Γ z => q.rt t Γ (by rw [e1]; exact z), fun Γ z => ?_, fun Γ z => ?_⟩
    · rcases e2 with y | y
      · rw [y] at z; cases z
      · exact q.nx Γ (by rw [y]; exact z)
    · rcases e3 with y | y
      · rw [y] at z; cases z
      · exact q.bk Γ (by rw [y]; exact z)
    · rcases e4 with y | y
      · rw [y] at z; cases z
      · exact q.ct Γ (by rw [y]; exact z)) fun _ z => z)
theorem er_wk {F M0 M H : Hp} {σ : St} (st : S X.G F M0 M H σ Γ) (hw : Wk Γe Γ) {c : Str} (z : ∀ M' H' σ', S X.G F M0 M' H' σ' Γe → Er X.G W c σ' H') : ∀ M' H', Gr M H M' H' → Er X.G W c σ H' := fun M' H' g => z M' H' σ ((st.grow g).wk hw)
/-! small statements -/
theorem st_pass {κ : Unit → Kd} (hk : (κ ()).nx = some Γ) : St1 X W Γe Γ (.Pass pos) κ (.ok ()) := smk ⟨_, ps_pass, fun F M0 M H σ D s po => po.nx Γ hk M H σ s⟩
theorem bk_cont {κ : ω → Kd} {o : ω} {Γ' : List Sl} (hk : (κ o).ct = some Γ') (hw : Wk Γ' Γ) : Bk X W Γe Γ (.Continue pos :: rest) κ (.ok o) :=
  bmk ⟨_, pss_cons ps_continue (pss_w X rest), fun F M0 M H σ D s po => po.ct Γ' hk M H σ (s.wk hw)⟩
theorem bk_break {κ : ω → Kd} {o : ω} {Γ' : List Sl} (hk : (κ o).bk = some Γ') (hw : Wk Γ' Γ) : Bk X W Γe Γ (.Break pos :: rest) κ (.ok o) :=
  bmk ⟨_, pss_cons ps_break (pss_w X rest), fun F M0 M H σ D s po => po.bk Γ' hk M H σ (s.wk hw)⟩
theorem S.wkc {G : Ctx} {F M0 M H : Hp} {σ : St} {v : V} {t : T} {Γr : List Sl} (st : S G F M0 M H (some v :: σ) (.ow t :: Γ)) (hr : Wk Γr Γ) : S G F M0 M H (some v :: σ) (.ow t :: Γr) := S.wk (Γe := .ow t :: Γr) (Γ := .ow t :: Γ) ⟨rfl, hr⟩ st
theorem bk_ret {emb : α → T} {m : R α} {κ : ω → Kd} {g : α → ω} {Γr : List Sl} (he : DF X W Γ e emb m) (hk : ∀ x, (κ (g x)).rt = some (emb x, Γr)) (hr : Wk Γr Γ) (hw : Wk Γe Γ) : Bk X W Γe Γ (.Return (some e) pos :: rest) κ (m >>= fun x => .ok (g x)) :=
  bmk ⟨_, pss_cons (ps_ret (pe_w X e)) (pss_w X rest), fun F M0 M H σ D s po => he F M0 M H σ _ s (po.bind.imp (fun x _ q v M' H' n gr o nd fr => by
    exact Kn.rt q _ _ (hk x) M' H' σ v ((s.cons gr o nd fr).wkc hr)) fun c z => er_wk s hw z)⟩
theorem bk_retN {κ : ω → Kd} {o : ω} {Γr : List Sl} (hk : (κ o).rt = some (.imm .non, Γr)) (hr : Wk Γr Γ) : Bk X W Γe Γ (.Return none pos :: rest) κ (.ok o) :=
  bmk ⟨_, pss_cons ps_retN (pss_w X rest), fun F M0 M H σ D s po => po.rt _ _ hk M H σ .non ((s.cons (t := .imm .non) (v := .non) (n := []) (.refl s.mh) ⟨rfl, rfl⟩ List.nodup_nil fun _ z => nomatch z).wkc hr)⟩
/-- return x, where x is the def's own tree -/
theorem Sat.move {G : Ctx} {M H : Hp} : ∀ {Γ : List Sl} {σ : St} {as : List Addr} {i : Nat} {t : T}, Sat G M H Γ σ as → Γ[i]? = some (.ow t) → ∃ v bs, σ[i]? = some (some v) ∧ Sat G M H (.ow t :: Γ.set i .un) (some v :: σ) bs ∧ List.Perm bs as
  | [], σ, as, i, t, h, e => by simp at e
  | .un :: Γ, σ, as, 0, t, h, e => nomatch (Option.some.inj e)
  | .un :: Γ, σ, as, i + 1, t, ⟨x, r, h1, h2⟩, e => by
    subst h1
    obtain ⟨v, bs, q1, ⟨v', r', a1, a2, z1, z2, z3, z4⟩, q3⟩ := Sat.move (i := i) h2 e
    obtain ⟨zv, zr⟩ := List.cons.inj z1
    cases zv; subst zr
    exact ⟨v, bs, q1, ⟨v, _, a1, a2, rfl, z2, z3, ⟨x, r, rfl, z4⟩⟩, q3⟩
  | .ow t0 :: Γ, σ, as, 0, t, ⟨v, r, a1, a2, h1, h2, h3, h4⟩, e => by
    have z : t0 = t := Sl.ow.inj (Option.some.inj e)
    subst z; subst h1; subst h2
    exact ⟨v, a1 ++ a2, rfl, ⟨v, _, a1, a2, rfl, rfl, h3, ⟨some v, r, rfl, h4⟩⟩, .refl _⟩
  | .ow t0 :: Γ, σ, as, i + 1, t, ⟨w, r, b1, b2, h1, h2, h3, h4⟩, e => by
    subst h1; subst h2
    obtain ⟨v, bs, q1, ⟨v', r', a1, a2, z1, z2, z3, z4⟩, q3⟩ := Sat.move (i := i) h4 e
    obtain ⟨zv, zr⟩ := List.cons.inj z1
    cases zv; subst zr; subst z2
    refine ⟨v, a1 ++ (b1 ++ a2), q1, ⟨v, _, a1, b1 ++ a2, rfl, rfl, z3, ⟨w, r, b1, a2, rfl, rfl, h3, z4⟩⟩, ?_⟩
    rw [← List.append_assoc]
    exact (List.perm_append_comm.append_right a2).trans (by rw [List.append_assoc]; exact List.Perm.append_left b1 q3)
  | .pn w0 t0 :: Γ, σ, as, 0, t, h, e => nomatch (Option.some.inj e)
  | .pn w t0 :: Γ, σ, as, i + 1, t, ⟨r, b1, b2, h1, h2, h3, h4⟩, e => by
    subst h1; subst h2
    obtain ⟨v, bs, q1, ⟨v', r', a1, a2, z1, z2, z3, z4⟩, q3⟩ := Sat.move (i := i) h4 e
    obtain ⟨zv, zr⟩ := List.cons.inj z1
    cases zv; subst zr; subst z2
    refine ⟨v, a1 ++ (b1 ++ a2), q1, ⟨v, _, a1, b1 ++ a2, rfl, rfl, z3, ⟨r, b1, a2, rfl, rfl, h3, z4⟩⟩, ?_⟩
    rw [← List.append_assoc]
    exact (List.perm_append_comm.append_right a2).trans (by rw [List.append_assoc]; exact List.Perm.append_left b1 q3)
theorem Fr0.perm {F M0 M H : Hp} {as bs : List Addr} (f : Fr0 F M0 M H as) (p : List.Perm bs as) : Fr0 F M0 M H bs := ⟨f.fh, f.mm, f.mh, f.nw, p.symm.nodup f.nd, fun a h => f.fa a (p.mem_iff.mp h), fun a h => f.ma a (p.mem_iff.mp h)⟩
theorem bk_retV {n : Str} {p : Pos} {t : T} {κ : ω → Kd} {o : ω} {Γr : List Sl} (i : Nat) (h : Γ[i]? = some (.ow t)) (hk : (κ o).rt = some (t, Γr)) (hr : Wk Γr (Γ.set i .un)) (hN : X.N[i]? = some n := by rfl) (hv : Vis X.env.scope n := by first | exact Or.inl rfl | exact Or.inr (Or.inl rfl) | exact Or.inr (Or.inr rfl))
    (hd : (n == ("__debug__" : Str)) = false := by decide) (hcd : (n == ("__classdict__" : Str)) = false := by decide) : Bk X W Γe Γ (.Return (some (.Name n p)) pos :: rest) κ (.ok o) :=
  bmk ⟨_, pss_cons (ps_ret (pe_var hN hv hd hcd)) (pss_w X rest), fun F M0 M H σ D s po => by
    obtain ⟨as, f, sa⟩ := s
    obtain ⟨v, bs, q1, q2, q3⟩ := Sat.move sa h
    exact ⟨v, q1, po.rt _ _ hk M H σ v (S.wkc ⟨bs, f.perm q3, q2⟩ hr)⟩⟩
theorem st_set {n : Str} {p : Pos} {emb : α → T} {m : R α} (i : Nat) (he : DF X W Γ e emb m) (hw : Wk Γe Γ) (hl : Nat.blt i Γ.length = true := by rfl) (hN : X.N.Nodup) (hi : X.N[i]? = some n := by rfl) (hx : Loc X.env.scope n := by first | exact Or.inl rfl | exact Or.inr rfl)
    (hs : swapsWith e (some (.Name n p)) pos.line X.env = pure false := by rfl) (hf : X.fn n = true ∨ X.env.scope.names.lookup n = some .local := by first | exact .inl rfl | exact .inr rfl) : St1 X W Γe Γ (.Assign [.Name n p] e pos) (fun x => .n (Γ.set i (.ow (emb x)))) m :=
  smk ⟨_, ps_set hN hi hx (pe_w X e) hs hf, fun F M0 M H σ D s po => he F M0 M H σ _ s (po.imp (fun x _ q v M' H' k g o nd fr => Kn.nx q _ rfl M' H' _ (s.put g o nd fr (Nat.le_of_ble_eq_true hl))) fun c z => er_wk s hw z)⟩
theorem st_expr {emb : α → T} {m : R α} (he : DB X W Γ e emb m) (hw : Wk Γe Γ) (hs : swapsWith e none pos.line X.env = pure false := by rfl) : St1 X W Γe Γ (.Expr e pos) (fun _ => .n Γ) m :=
  smk ⟨_, ps_expr (pe_w X e) hs, fun F M0 M H σ D s po => he F M0 M H σ _ s (po.imp (fun x _ q v M' H' k g o => Kn.nx q _ rfl M' H' _ (s.grow g)) fun c z => er_wk s hw z)⟩
theorem st_if {κ : ω → Kd} {mc : R Bool} {ma mb : R ω} (hc : DT X W Γ c mc) (ha : Bk X W Γe Γ A κ ma) (hb : Bk X W Γe Γ B κ mb) (hw : Wk Γe Γ) : St1 X W Γe Γ (.If c A B pos) κ (mc >>= fun x => if x then ma else mb) :=
  smk ⟨_, ps_if (pt_w X c) (pss_w X A) (pss_w X B), fun F M0 M H σ D s po => hc F M0 M H σ _ s (po.bind.imp (fun x _ q M' H' g => by
    cases x with
    | true => exact ha F M0 M' H' σ D (s.grow g) q
    | false => exact hb F M0 M' H' σ D (s.grow g) q) fun c z => er_wk s hw z)⟩
/-- if c: A, which leaves; else B, then the rest -/
theorem bk_ifX {κ : ω → Kd} {mc : R Bool} {ma mb : R ω} (hc : DT X W Γ c mc) (ha : Bk X W Γe Γ A (fun o => (κ o).ex) ma) (hb : Bk X W Γe Γ rest κ mb) (hw : Wk Γe Γ) : Bk X W Γe Γ (.If c A [] pos :: rest) κ (mc >>= fun x => if x then ma else mb) :=
  bmk ⟨_, pss_cons (ps_if (pt_w X c) (pss_w X A) pss_nil) (pss_w X rest), fun F M0 M H σ D s po => hc F M0 M H σ _ s (po.bind.imp (fun x _ q M' H' g => by
    cases x with
    | true => exact ha F M0 M' H' σ _ (s.grow g) (q.imp (fun o _ q => ⟨fun Γ e => (nomatch e), fun t Γ e => Kn.rt q t Γ e, fun Γ e => Kn.bk q Γ e, fun Γ e => Kn.ct q Γ e⟩) fun _ z => z)
    | false => exact hb F M0 M' H' σ D (s.grow g) q) fun c z => er_wk s hw z)⟩
/-- .. with an else that falls through -/
theorem bk_ifXE {κ : ω → Kd} {mc : R Bool} {ma mb : R ω} {B : List Stmt} (hc : DT X W Γ c mc) (ha : Bk X W Γe Γ A (fun o => (κ o).ex) ma) (hb : Bk X W Γe Γ (B ++ rest) κ mb) (hw : Wk Γe Γ) (hB : ∀ (D : Ends) σ H, wSs X (B ++ rest) D σ H → wSs X B { D with nx := wSs X rest D } σ H) :
    Bk X W Γe Γ (.If c A B pos :: rest) κ (mc >>= fun x => if x then ma else mb) :=
  bmk ⟨_, pss_cons (ps_if (pt_w X c) (pss_w X A) (pss_w X B)) (pss_w X rest), fun F M0 M H σ D s po => hc F M0 M H σ _ s (po.bind.imp (fun x _ q M' H' g => by
    cases x with
    | true => exact ha F M0 M' H' σ _ (s.grow g) (q.imp (fun o _ q => ⟨fun Γ e => (nomatch e), fun t Γ e => Kn.rt q t Γ e, fun Γ e => Kn.bk q Γ e, fun Γ e => Kn.ct q Γ e⟩) fun _ z => z)
    | false => exact hB D σ H' (hb F M0 M' H' σ D (s.grow g) q)) fun c z => er_wk s hw z)⟩
end
end Cn
/-! Cn4: loops, defs, exceptions -/
namespace Cn
open PySem PySem.Spec L2
/-! ### what a loop walks -/
/-- the iterator yields what stands for ds -/
def ItD (G : Ctx) (J : It) (ds : List D) (M1 : Hp) : Prop := ∀ M H i, Same M1 M → Same M H →
  (∀ d, ds[i]? = some d → J.go i H ∧ ∀ x H', J.yld i H x H' → ∃ M', Gr M H M' H' ∧ Rep G M' d x) ∧ (ds.length ≤ i → J.stop i H)
def DI (X : Cx) (W : WX) (Γ : List Sl) (tg e : Expr) {α : Type} (emb : α → List D) (m : R α) : Prop :=
  ∀ F M0 M H σ Q, S X.G F M0 M H σ Γ → Po m (fun x => ∀ J M' H', Gr M H M' H' → ItD X.G J (emb x) M' → Q J H') (fun c => ∀ M' H', Gr M H M' H' → Er X.G W c σ H') → wI X tg e σ H Q
theorem imk {X : Cx} {Γ : List Sl} {tg e : Expr} {Pre : Hp → Hp → Hp → Hp → St → (It → Hp → Prop) → Prop} (h : ∃ te, PI X tg e te ∧ ∀ F M0 M H σ Q, S X.G F M0 M H σ Γ → Pre F M0 M H σ Q → te σ H Q) : ∀ F M0 M H σ Q, S X.G F M0 M H σ Γ → Pre F M0 M H σ Q → wI X tg e σ H Q := fun F M0 M H σ Q s p pins sh I => by
  obtain ⟨te, pe, q⟩ := h
  exact pe.run pins sh σ H Q I (q F M0 M H σ Q s p)
section
variable {X : Cx} {W : WX} {Γe Γ : List Sl} {a b e c tg : Expr} {es : List Expr} {α β γ ω ω1 : Type} {pos : Pos}
theorem di_frl {ei : α → D} {m : R (List α)} (h : DD X W Γ e (fun xs => .frl (xs.map ei)) m) : DI X W Γ tg e (fun xs => xs.map ei) m :=
  imk ⟨_, pi_list (pe_w X e), fun F M0 M H σ Q s po => h F M0 M H σ _ s (po.imp (fun x _ q v M1 H1 g r => by
    obtain ⟨p, vs, rfl, hq, rs⟩ := r
    refine ⟨p, rfl, ⟨vs, g.mh.seq hq⟩, q _ M1 H1 g fun M H i hm hh => ⟨fun d hd => ?_, fun hi => ⟨vs, hh.seq (hm.seq hq), by rw [rs.len]; exact hi⟩⟩⟩
    obtain ⟨w, e1, r1⟩ := rs.get hd
    have hs := hh.seq (hm.seq hq)
    refine ⟨⟨vs, w, hs, e1⟩, fun x H' y => ?_⟩
    obtain ⟨e2, y⟩ := y
    subst e2
    have e3 : w = x := Option.some.inj (e1.symm.trans (y vs hs))
    subst e3
    exact ⟨M, .refl hh, Rep.mono hm _ _ r1⟩) fun _ z => z)⟩
theorem di_list {ei : α → D} {m : R (List α)} (h : DD X W Γ e (fun xs => .lst (xs.map ei)) m) : DI X W Γ tg e (fun xs => xs.map ei) m :=
  imk ⟨_, pi_list (pe_w X e), fun F M0 M H σ Q s po => h F M0 M H σ _ s (po.imp (fun x _ q v M1 H1 g r => by
    obtain ⟨p, vs, rfl, hq, rs⟩ := r
    have hq : SqL X.K M1 p vs := .of hq
    refine ⟨p, rfl, ⟨vs, g.mh.seq hq⟩, q _ M1 H1 g fun M H i hm hh => ⟨fun d hd => ?_, fun hi => ⟨vs, hh.seq (hm.seq hq), by rw [rs.len]; exact hi⟩⟩⟩
    obtain ⟨w, e1, r1⟩ := rs.get hd
    have hs := hh.seq (hm.seq hq)
    refine ⟨⟨vs, w, hs, e1⟩, fun x H' y => ?_⟩
    obtain ⟨e2, y⟩ := y
    subst e2
    have e3 : w = x := Option.some.inj (e1.symm.trans (y vs hs))
    subst e3
    exact ⟨M, .refl hh, Rep.mono hm _ _ r1⟩) fun _ z => z)⟩
theorem di_tup {ei : α → D} {m : R (List α)} (h : DD X W Γ e (fun xs => .tup (xs.map ei)) m) : DI X W Γ tg e (fun xs => xs.map ei) m :=
  imk ⟨_, pi_tup (pe_w X e), fun F M0 M H σ Q s po => h F M0 M H σ _ s (po.imp (fun x _ q v M1 H1 g r => by
    obtain ⟨p, vs, rfl, hq, rs⟩ := r
    refine ⟨p, rfl, ⟨vs, same_sqt g.mh hq⟩, q _ M1 H1 g fun M H i hm hh => ⟨fun d hd => ?_, fun hi => ⟨vs, same_sqt hh (same_sqt hm hq), by rw [rs.len]; exact hi⟩⟩⟩
    obtain ⟨w, e1, r1⟩ := rs.get hd
    have hs := same_sqt hh (same_sqt hm hq)
    refine ⟨⟨vs, w, hs, e1⟩, fun x H' y => ?_⟩
    obtain ⟨e2, y⟩ := y
    subst e2
    have e3 : w = x := Option.some.inj (e1.symm.trans (y vs hs))
    subst e3
    exact ⟨M, .refl hh, Rep.mono hm _ _ r1⟩) fun _ z => z)⟩
/-- lo, lo + 1, .. below hi -/
def irange (lo hi : Int) : List Int := (List.range (hi - lo).toNat).map fun i : Nat => lo + (i : Int)
theorem irange_get {lo hi : Int} {i : Nat} {x : Int} (h : (irange lo hi)[i]? = some x) : i < (hi - lo).toNat ∧ x = lo + i := by
  unfold irange at h
  rw [List.getElem?_map] at h
  by_cases c : i < (hi - lo).toNat
  · rw [List.getElem?_range c] at h
    exact ⟨c, (Option.some.inj h).symm⟩
  · rw [List.getElem?_eq_none (by simpa using c)] at h; cases h
theorem irange_len {lo hi : Int} : (irange lo hi).length = (hi - lo).toNat := by unfold irange; simp
theorem it_range {G : Ctx} {lo hi : Int} {M1 : Hp} : ItD G (Itr lo (hi - lo).toNat) ((irange lo hi).map D.int) M1 := fun M H i hm hh => ⟨fun d hd => by
  rw [List.getElem?_map] at hd
  cases e : (irange lo hi)[i]? with
  | none => rw [e] at hd; cases hd
  | some x =>
    rw [e] at hd
    obtain ⟨h1, h2⟩ := irange_get e
    have hd' : D.int x = d := Option.some.inj hd
    subst hd'
    refine ⟨h1, fun y H' q => ?_⟩
    obtain ⟨e1, e2⟩ := q
    subst e1; subst e2
    exact ⟨M, .refl hh, by rw [h2]; rfl⟩, fun hi => by rw [List.length_map, irange_len] at hi; exact hi⟩
noncomputable def small (i : Int) : Bool := @decide (-(2 ^ 62) ≤ i ∧ i < 2 ^ 62) (Classical.propDecidable _)
noncomputable def rangeO (lo hi : Int) : Option (List Int) := if small lo && small hi then some (irange lo hi) else none
theorem small_iff {i : Int} : small i = true ↔ -(2 ^ 62) ≤ i ∧ i < 2 ^ 62 := @decide_eq_true_iff _ (Classical.propDecidable _)
theorem rangeO_some {lo hi : Int} {x : List Int} (h : rangeO lo hi = some x) : (-(2 ^ 62) ≤ lo ∧ lo < 2 ^ 62 ∧ -(2 ^ 62) ≤ hi ∧ hi < 2 ^ 62) ∧ x = irange lo hi := by
  unfold rangeO at h
  cases c : (small lo && small hi) with
  | false => rw [c] at h; cases h
  | true =>
    rw [c] at h
    rw [Bool.and_eq_true] at c
    obtain ⟨h1, h2⟩ := c
    have h1 := small_iff.mp h1
    have h2 := small_iff.mp h2
    exact ⟨⟨h1.1, h1.2, h2.1, h2.2⟩, (Option.some.inj h).symm⟩
theorem di_range1 {m : R Int} {p : Pos} (h : DD X W Γ a D.int m) (hm : X.mg "range" = none) (hg : Gl X "range" := by rfl) (hs : starEach [a] X.env = [(false, eval a X.env)] := by rfl) :
    DI X W Γ tg (.Call (.Name "range" p) [a] [] pos) (fun xs => xs.map D.int) (m >>= fun n => ofO (rangeO 0 n)) :=
  imk ⟨_, pi_range1 hg hm (pa_w X [a]) hs, fun F M0 M H σ Q s po => by
    have hA := da_cons h da_nil (hs := hs)
    refine hA F M0 M H σ _ s ?_
    have z : (m >>= fun x => (R.ok ()) >>= fun y => R.ok (x, y)) = m >>= fun x => R.ok (x, ()) := rfl
    rw [z]
    cases m with
    | bad => exact po
    | err c => exact po
    | ok n =>
      have po : Po (ofO (rangeO 0 n)) _ _ := po
      obtain ⟨xs, e, k⟩ := po.ofO
      obtain ⟨⟨_, _, h3, h4⟩, rfl⟩ := rangeO_some e
      intro vs M1 H1 g r
      obtain ⟨v, r', rfl, r1, r2⟩ := r
      rw [show r' = [] from r2, show v = .int n from r1]
      refine ⟨n, rfl, h3, h4, ?_⟩
      have q := k (Itr 0 (n - 0).toNat) M1 H1 g it_range
      rw [Int.sub_zero] at q
      exact q⟩
theorem di_range2 {m k : R Int} {p : Pos} (h : DD X W Γ a D.int m) (h' : DD X W Γ b D.int k) (hm : X.mg "range" = none) (hg : Gl X "range" := by rfl) (hs : starEach [a, b] X.env = [(false, eval a X.env), (false, eval b X.env)] := by rfl) (hs2 : starEach [b] X.env = [(false, eval b X.env)] := by rfl) :
    DI X W Γ tg (.Call (.Name "range" p) [a, b] [] pos) (fun xs => xs.map D.int) (m >>= fun lo => k >>= fun hi => ofO (rangeO lo hi)) :=
  imk ⟨_, pi_range2 hg hm (pa_w X [a, b]) hs hs2, fun F M0 M H σ Q s po => by
    have hA := da_cons h (da_cons h' da_nil (hs := hs2)) (hs := by rw [hs, hs2])
    refine hA F M0 M H σ _ s ?_
    cases m with
    | bad => exact po
    | err c => exact po
    | ok lo =>
      cases k with
      | bad => exact po
      | err c => exact po
      | ok hi =>
        have po : Po (ofO (rangeO lo hi)) _ _ := po
        obtain ⟨xs, e, k⟩ := po.ofO
        obtain ⟨hb, rfl⟩ := rangeO_some e
        intro vs M1 H1 g r
        obtain ⟨v, r', rfl, r1, w, r'', rfl, r2, r3⟩ := r
        rw [show r'' = [] from r3, show v = .int lo from r1, show w = .int hi from r2]
        exact ⟨lo, hi, rfl, hb, k _ M1 H1 g it_range⟩⟩
/-! ### targets -/
def DG (X : Cx) (Γ : List Sl) (tg : Expr) (put : List Sl) (d : D) : Prop := ∀ F M0 M H σ v Q, S X.G F M0 M H σ Γ → Rep X.G M d v → (∀ M' H' σ', Same M M' → S X.G F M0 M' H' σ' put → Q σ' H') → wG X tg v σ H Q
theorem dg_name {n : Str} {d : D} (i : Nat) (hN : X.N.Nodup) (hi : X.N[i]? = some n := by rfl) (hl : Nat.blt i Γ.length = true := by rfl) (hx : Loc X.env.scope n := by first | exact Or.inl rfl | exact Or.inr rfl) (hf : X.fn n = true ∨ X.env.scope.names.lookup n = some .local := by first | exact .inl rfl | exact .inr rfl) :
    DG X Γ (.Name n pos) (Γ.set i (.ow (.imm d))) d := fun F M0 M H σ v Q s r q pins sh u I rv => by
  have p := pg_name (pos := pos) hN hi hx hf
  exact p.run pins sh σ H v u Q I rv (q M H _ (.refl _) (s.put (.refl s.mh) (show Own X.G M H (.imm d) v [] from ⟨rfl, r⟩) List.nodup_nil (fun _ z => nomatch z) (Nat.le_of_ble_eq_true hl)))
/-! ### loops -/
inductive Lo (S ω : Type) where
  | nx (s : S)
  | bk (s : S)
  | ex (o : ω)
def forX {α S ω : Type} (f : α → S → R (Lo S ω)) : List α → S → R (S ⊕ ω)
  | [], s => .ok (.inl s)
  | x :: xs, s => f x s >>= fun o => match o with
    | .nx s => forX f xs s
    | .bk s => .ok (.inl s)
    | .ex o => .ok (.inr o)
/-- a loop that is left at its end alone -/
def forS {α S : Type} (f : α → S → R S) : List α → S → R S
  | [], s => .ok s
  | x :: xs, s => f x s >>= fun s => forS f xs s
theorem forX_S {α S ω : Type} {f : α → S → R S} : ∀ (xs : List α) (s : S), forX (ω := ω) (fun x s => f x s >>= fun s => .ok (.nx s)) xs s = forS f xs s >>= fun s => .ok (.inl s)
  | [], s => rfl
  | x :: xs, s => by
    show ((f x s >>= fun s => .ok (Lo.nx s)) >>= _) = (f x s >>= fun s => forS f xs s) >>= _
    cases f x s with
    | bad => rfl
    | err c => rfl
    | ok s => exact forX_S xs s
def kLo {S ω : Type} (Γs : S → List Sl) (κ : ω → Kd) : Lo S ω → Kd
  | .nx s => { nx := some (Γs s), ct := some (Γs s) }
  | .bk s => { bk := some (Γs s) }
  | .ex o => (κ o).rr
theorem st_for {σs : Type} {Γs : σs → List Sl} {ei : α → D} {mi : R (List α)} {mb : α → σs → R (Lo σs ω)} {κ : ω → Kd} {put : α → σs → List Sl} {iter : Expr} {body : List Stmt} (s0 : σs) (hp : PassesOwn (model X.prog X.w) X.A X.env X.xe) (hc : X.calm = true)
    (hi : DI X W Γ tg iter (fun xs => xs.map ei) mi) (hg : ∀ s x, DG X (Γs s) tg (put x s) (ei x)) (hb : ∀ s x, Bk X W Γe (put x s) body (kLo Γs κ) (mb x s)) (h0 : Wk (Γs s0) Γ) (hw : Wk Γe Γ)
    (hs : ∀ x, foldedSetIterable iter X.env x = pure x := by intro _; rfl) : St1 X W Γe Γ (.For tg iter body [] pos) (kSum (fun s => .n (Γs s)) fun o => (κ o).rr) (mi >>= fun xs => forX mb xs s0) :=
  smk ⟨_, ps_for hp hc (pi_w X iter tg) (pg_w X tg) (pss_w X body) hs, fun F M0 M H σ D st po => by
    refine hi F M0 M H σ _ st (po.bind.imp (fun xs _ k J M1 H1 g1 it => ?_) fun c z => er_wk st hw z)
    have st1 := (st.grow g1)
    obtain ⟨b1, b2⟩ := st1.rel
    refine ⟨fun i m σ H => m = xs.length - i ∧ i ≤ xs.length ∧ ∃ M s, S X.G F M1 M H σ (Γs s) ∧ Po (forX mb (xs.drop i) s) (fun o => Kn X.G F M0 D (kSum (fun s => .n (Γs s)) (fun o => (κ o).rr) o)) (fun c => ∀ M' H' σ', S X.G F M0 M' H' σ' Γe → Er X.G W c σ' H'),
      ⟨xs.length, by simp, Nat.zero_le _, M1, s0, (st1.wk h0).base_in (.refl _) b1, k⟩, ?_⟩
    rintro i m σ H ⟨rfl, hi, M2, s, s2, k⟩
    have hm : Same M1 M2 := s2.rel.1
    obtain ⟨h1, h2⟩ := it M2 H i hm s2.mh
    by_cases hlt : i < xs.length
    · have ex : xs[i]? = some xs[i] := List.getElem?_eq_getElem hlt
      have ed : (xs.map ei)[i]? = some (ei xs[i]) := by rw [List.getElem?_map, ex]; rfl
      obtain ⟨go, yl⟩ := h1 _ ed
      rw [List.drop_eq_getElem_cons hlt] at k
      have k := Po.bind (m := mb xs[i] s) k
      refine .inr ⟨go, fun σ' H' => ∃ M s, S X.G F M1 M H' σ' (Γs s) ∧ Po (forX mb (xs.drop (i + 1)) s) (fun o => Kn X.G F M0 D (kSum (fun s => .n (Γs s)) (fun o => (κ o).rr) o)) (fun c => ∀ M' H' σ', S X.G F M0 M' H' σ' Γe → Er X.G W c σ' H'),
        fun σ' H' ⟨M, s, q1, q2⟩ => ⟨xs.length - (i + 1), by omega, rfl, hlt, M, s, q1, q2⟩, fun x H' y => ?_⟩
      obtain ⟨M3, g3, r3⟩ := yl x H' y
      refine hg s xs[i] F M1 M3 H' σ x _ (s2.grow g3) r3 fun M4 H4 σ4 _ s4 => ?_
      refine hb s xs[i] F M1 M4 H4 σ4 _ s4 (k.imp (fun o _ k => ?_) fun c z M' H' σ' st => z M' H' σ' (st.base_out b1 b2))
      cases o with
      | nx s' =>
        have k : Po (forX mb (xs.drop (i + 1)) s') _ _ := k
        exact ⟨fun Γ e M H σ st => ⟨M, s', by cases e; exact st, k⟩, fun t Γ e => (nomatch e), fun Γ e => (nomatch e), fun Γ e M H σ st => ⟨M, s', by cases e; exact st, k⟩⟩
      | bk s' =>
        have k : Kn X.G F M0 D (.n (Γs s')) := k
        exact ⟨fun Γ e => (nomatch e), fun t Γ e => (nomatch e), fun Γ e M H σ st => k.nx Γ e M H σ (st.base_out b1 b2), fun Γ e => (nomatch e)⟩
      | ex o =>
        have k : Kn X.G F M0 D (κ o).rr := k
        exact ⟨fun Γ e => (nomatch e), fun t Γ e M H σ v st => k.rt t Γ e M H σ v (st.base_out b1 b2), fun Γ e => (nomatch e), fun Γ e => (nomatch e)⟩
    · have e : xs.drop i = [] := List.drop_eq_nil_of_le (by omega)
      rw [e] at k
      have k : Kn X.G F M0 D (.n (Γs s)) := k
      exact .inl ⟨h2 (by rw [List.length_map]; omega), k.nx _ rfl M2 H σ (s2.base_out b1 b2)⟩⟩
theorem st_forS {σs : Type} {Γs : σs → List Sl} {ei : α → D} {mi : R (List α)} {mb : α → σs → R σs} {put : α → σs → List Sl} {iter : Expr} {body : List Stmt} (s0 : σs) (hp : PassesOwn (model X.prog X.w) X.A X.env X.xe) (hc : X.calm = true)
    (hi : DI X W Γ tg iter (fun xs => xs.map ei) mi) (hg : ∀ s x, DG X (Γs s) tg (put x s) (ei x)) (hb : ∀ s x, Bk X W Γe (put x s) body (fun s => { nx := some (Γs s), ct := some (Γs s) }) (mb x s)) (h0 : Wk (Γs s0) Γ) (hw : Wk Γe Γ)
    (hs : ∀ x, foldedSetIterable iter X.env x = pure x := by intro _; rfl) : St1 X W Γe Γ (.For tg iter body [] pos) (fun s => .n (Γs s)) (mi >>= fun xs => forS mb xs s0) := fun F M0 M H σ D st po => by
  have h := st_for (κ := fun (o : Empty) => nomatch o) (pos := pos) (mb := fun x s => mb x s >>= fun s => .ok (.nx s)) s0 hp hc hi hg (fun s x => bk_map (κ' := kLo Γs _) (g := Lo.nx) (hb s x) fun o => ⟨rfl, .inr rfl, .inr rfl, .inr rfl⟩) h0 hw hs
  refine h F M0 M H σ D st ?_
  cases mi with
  | bad => exact po
  | err c => exact po
  | ok xs =>
    show Po (forX _ xs s0) _ _
    rw [forX_S]
    have po : Po (forS mb xs s0) _ _ := po
    revert po
    cases forS mb xs s0 with
    | bad => exact id
    | err c => exact id
    | ok s => exact id
def whileN {S ω : Type} (mc : S → R Bool) (mb : S → R (Lo S ω)) : Nat → S → R (S ⊕ ω)
  | 0, _ => .bad
  | n + 1, s => mc s >>= fun b => if b then (mb s >>= fun o => match o with
    | .nx s => whileN mc mb n s
    | .bk s => .ok (.inl s)
    | .ex o => .ok (.inr o)) else .ok (.inl s)
theorem whileN_succ {S ω : Type} {mc : S → R Bool} {mb : S → R (Lo S ω)} {n : Nat} {s : S} : whileN mc mb (n + 1) s = (mc s >>= fun b => if b then (mb s >>= fun o => match o with
    | .nx s => whileN mc mb n s
    | .bk s => .ok (.inl s)
    | .ex o => .ok (.inr o)) else .ok (.inl s)) := rfl
open Classical in
noncomputable def whileX {S ω : Type} (mc : S → R Bool) (mb : S → R (Lo S ω)) (s : S) : R (S ⊕ ω) := if h : ∃ n, whileN mc mb n s ≠ .bad then whileN mc mb h.choose s else .bad
theorem whileN_mono {S ω : Type} {mc : S → R Bool} {mb : S → R (Lo S ω)} : ∀ (n : Nat) (s : S), whileN mc mb n s ≠ .bad → whileN mc mb (n + 1) s = whileN mc mb n s
  | 0, s, h => absurd rfl h
  | n + 1, s, h => by
    have e1 : whileN mc mb (n + 1) s = (mc s >>= fun b => if b then (mb s >>= fun o => match o with
      | .nx s => whileN mc mb n s
      | .bk s => .ok (.inl s)
      | .ex o => .ok (.inr o)) else .ok (.inl s)) := rfl
    have e2 : whileN mc mb (n + 1 + 1) s = (mc s >>= fun b => if b then (mb s >>= fun o => match o with
      | .nx s => whileN mc mb (n + 1) s
      | .bk s => .ok (.inl s)
      | .ex o => .ok (.inr o)) else .ok (.inl s)) := rfl
    rw [e1] at h ⊢
    rw [e2]
    cases hc : mc s with
    | bad => rfl
    | err c => rfl
    | ok b =>
      cases b with
      | false => rfl
      | true =>
        rw [hc] at h
        cases hb : mb s with
        | bad => rfl
        | err c => rfl
        | ok o =>
          rw [hb] at h
          cases o with
          | nx s' => exact whileN_mono n s' h
          | bk s' => rfl
          | ex o => rfl
theorem whileN_ge {S ω : Type} {mc : S → R Bool} {mb : S → R (Lo S ω)} {n : Nat} {s : S} (h : whileN mc mb n s ≠ .bad) : ∀ k, whileN mc mb (n + k) s = whileN mc mb n s
  | 0 => rfl
  | k + 1 => by
    have ih := whileN_ge h k
    rw [← ih, ← Nat.add_assoc]
    exact whileN_mono _ _ (by rw [ih]; exact h)
theorem whileX_of {S ω : Type} {mc : S → R Bool} {mb : S → R (Lo S ω)} {n : Nat} {s : S} (h : whileN mc mb n s ≠ .bad) : whileX mc mb s = whileN mc mb n s := by
  unfold whileX
  have hx : ∃ n, whileN mc mb n s ≠ .bad := ⟨n, h⟩
  rw [dif_pos hx]
  rcases Nat.le_total n hx.choose with q | q
  · have := whileN_ge h (hx.choose - n)
    rw [show n + (hx.choose - n) = hx.choose by omega] at this
    exact this
  · have := whileN_ge hx.choose_spec (n - hx.choose)
    rw [show hx.choose + (n - hx.choose) = n by omega] at this
    exact this.symm
theorem whileX_ne {S ω : Type} {mc : S → R Bool} {mb : S → R (Lo S ω)} {s : S} (h : whileX mc mb s ≠ .bad) : ∃ n, whileN mc mb n s = whileX mc mb s := by
  by_cases hx : ∃ n, whileN mc mb n s ≠ .bad
  · obtain ⟨n, q⟩ := hx
    exact ⟨n, (whileX_of q).symm⟩
  · unfold whileX at h
    rw [dif_neg hx] at h
    exact absurd rfl h
theorem whileX_eq {S ω : Type} (mc : S → R Bool) (mb : S → R (Lo S ω)) (s : S) : whileX mc mb s = mc s >>= fun b => if b then (mb s >>= fun o => match o with
    | .nx s => whileX mc mb s
    | .bk s => .ok (.inl s)
    | .ex o => .ok (.inr o)) else .ok (.inl s) := by
  have key : ∀ n, whileN mc mb (n + 1) s = mc s >>= fun b => if b then (mb s >>= fun o => match o with
      | .nx s => whileN mc mb n s
      | .bk s => .ok (.inl s)
      | .ex o => .ok (.inr o)) else .ok (.inl s) := fun n => rfl
  cases hc : mc s with
  | bad =>
    show _ = R.bad
    by_cases hx : ∃ n, whileN mc mb n s ≠ .bad
    · obtain ⟨n, q⟩ := hx
      cases n with
      | zero => exact absurd rfl q
      | succ n => rw [key n, hc] at q; exact absurd rfl q
    · unfold whileX; rw [dif_neg hx]
  | err c =>
    have q : whileN mc mb (0 + 1) s = .err c := by rw [key 0, hc]; rfl
    rw [whileX_of (n := 0 + 1) (by rw [q]; exact fun z => nomatch z), q]; rfl
  | ok b =>
    cases b with
    | false =>
      have q : whileN mc mb (0 + 1) s = .ok (.inl s) := by rw [key 0, hc]; rfl
      rw [whileX_of (n := 0 + 1) (by rw [q]; exact fun z => nomatch z), q]; rfl
    | true =>
      show _ = (mb s >>= fun o => match o with
        | .nx s => whileX mc mb s
        | .bk s => .ok (.inl s)
        | .ex o => .ok (.inr o))
      have key2 : ∀ n, whileN mc mb (n + 1) s = mb s >>= fun o => match o with
          | .nx s => whileN mc mb n s
          | .bk s => .ok (.inl s)
          | .ex o => .ok (.inr o) := fun n => by rw [key n, hc]; rfl
      cases hb : mb s with
      | bad =>
        show _ = R.bad
        by_cases hx : ∃ n, whileN mc mb n s ≠ .bad
        · obtain ⟨n, q⟩ := hx
          cases n with
          | zero => exact absurd rfl q
          | succ n => rw [key2 n, hb] at q; exact absurd rfl q
        · unfold whileX; rw [dif_neg hx]
      | err c =>
        have q : whileN mc mb (0 + 1) s = .err c := by rw [key2 0, hb]; rfl
        rw [whileX_of (n := 0 + 1) (by rw [q]; exact fun z => nomatch z), q]; rfl
      | ok o =>
        cases o with
        | bk s' =>
          have q : whileN mc mb (0 + 1) s = .ok (.inl s') := by rw [key2 0, hb]; rfl
          rw [whileX_of (n := 0 + 1) (by rw [q]; exact fun z => nomatch z), q]; rfl
        | ex o =>
          have q : whileN mc mb (0 + 1) s = .ok (.inr o) := by rw [key2 0, hb]; rfl
          rw [whileX_of (n := 0 + 1) (by rw [q]; exact fun z => nomatch z), q]; rfl
        | nx s' =>
          show _ = whileX mc mb s'
          have key3 : ∀ n, whileN mc mb (n + 1) s = whileN mc mb n s' := fun n => by rw [key2 n, hb]; rfl
          by_cases hx : ∃ n, whileN mc mb n s' ≠ .bad
          · obtain ⟨n, q⟩ := hx
            rw [whileX_of q, whileX_of (n := n + 1) (by rw [key3]; exact q), key3]
          · have hy : ¬ ∃ n, whileN mc mb n s ≠ .bad := fun ⟨n, q⟩ => by
              cases n with
              | zero => exact q rfl
              | succ n => rw [key3] at q; exact hx ⟨n, q⟩
            unfold whileX
            rw [dif_neg hx, dif_neg hy]
theorem st_while {σs : Type} {Γs : σs → List Sl} {mc : σs → R Bool} {mb : σs → R (Lo σs ω)} {κ : ω → Kd} {body : List Stmt} (s0 : σs) (hp : PassesOwn (model X.prog X.w) X.A X.env X.xe)
    (hc : ∀ s, DT X W (Γs s) c (mc s)) (hb : ∀ s, Bk X W Γe (Γs s) body (kLo Γs κ) (mb s)) (h0 : Wk (Γs s0) Γ) (hw : ∀ s, Wk Γe (Γs s)) : St1 X W Γe Γ (.While c body [] pos) (kSum (fun s => .n (Γs s)) fun o => (κ o).rr) (whileX mc mb s0) :=
  smk ⟨_, ps_while hp (pt_w X c) (pss_w X body), fun F M0 M H σ D st po => by
    have hne : whileX mc mb s0 ≠ .bad := fun z => by rw [z] at po; exact po
    obtain ⟨n, en⟩ := whileX_ne hne
    rw [← en] at po
    refine ⟨fun m σ H => ∃ M s, S X.G F M0 M H σ (Γs s) ∧ Po (whileN mc mb m s) (fun o => Kn X.G F M0 D (kSum (fun s => .n (Γs s)) (fun o => (κ o).rr) o)) (fun c => ∀ M' H' σ', S X.G F M0 M' H' σ' Γe → Er X.G W c σ' H'),
      ⟨n, M, s0, st.wk h0, po⟩, ?_⟩
    rintro m σ H ⟨M2, s, s2, k⟩
    cases m with
    | zero => exact k.elim
    | succ m =>
      rw [whileN_succ] at k
      refine hc s F M0 M2 H σ _ s2 (k.bind.imp (fun b _ k M3 H3 g3 => ?_) fun c z => er_wk s2 (hw s) z)
      cases b with
      | false =>
        have k : Kn X.G F M0 D (.n (Γs s)) := k
        exact k.nx _ rfl M3 H3 σ (s2.grow g3)
      | true =>
        rw [if_pos rfl] at k
        refine ⟨fun σ' H' => ∃ M s, S X.G F M0 M H' σ' (Γs s) ∧ Po (whileN mc mb m s) (fun o => Kn X.G F M0 D (kSum (fun s => .n (Γs s)) (fun o => (κ o).rr) o)) (fun c => ∀ M' H' σ', S X.G F M0 M' H' σ' Γe → Er X.G W c σ' H'),
          fun σ' H' q => ⟨m, Nat.lt_succ_self m, q⟩, ?_⟩
        refine hb s F M0 M3 H3 σ _ (s2.grow g3) (k.bind.imp (fun o _ k => ?_) fun c z => z)
        cases o with
        | nx s' =>
          have k : Po (whileN mc mb m s') _ _ := k
          exact ⟨fun Γ e M H σ st => ⟨M, s', by cases e; exact st, k⟩, fun t Γ e => (nomatch e), fun Γ e => (nomatch e), fun Γ e M H σ st => ⟨M, s', by cases e; exact st, k⟩⟩
        | bk s' =>
          have k : Kn X.G F M0 D (.n (Γs s')) := k
          exact ⟨fun Γ e => (nomatch e), fun t Γ e => (nomatch e), fun Γ e M H σ st => k.nx Γ e M H σ st, fun Γ e => (nomatch e)⟩
        | ex o =>
          have k : Kn X.G F M0 D (κ o).rr := k
          exact ⟨fun Γ e => (nomatch e), fun t Γ e M H σ v st => k.rt t Γ e M H σ v st, fun Γ e => (nomatch e), fun Γ e => (nomatch e)⟩⟩
/-- a while that is left at its test alone -/
noncomputable def whileS {S : Type} (mc : S → R Bool) (mb : S → R S) (s : S) : R S := whileX (ω := Empty) mc (fun s => mb s >>= fun s => .ok (.nx s)) s >>= fun o => match o with
  | .inl s => .ok s
  | .inr o => nomatch o
theorem whileS_eq {S : Type} (mc : S → R Bool) (mb : S → R S) (s : S) : whileS mc mb s = mc s >>= fun b => if b then (mb s >>= fun s => whileS mc mb s) else .ok s := by
  unfold whileS
  rw [whileX_eq]
  cases mc s with
  | bad => rfl
  | err c => rfl
  | ok b =>
    cases b with
    | false => rfl
    | true =>
      show ((mb s >>= fun s => .ok (Lo.nx s)) >>= _) >>= _ = mb s >>= _
      cases mb s with
      | bad => rfl
      | err c => rfl
      | ok s => rfl
theorem st_whileS {σs : Type} {Γs : σs → List Sl} {mc : σs → R Bool} {mb : σs → R σs} {body : List Stmt} (s0 : σs) (hp : PassesOwn (model X.prog X.w) X.A X.env X.xe)
    (hc : ∀ s, DT X W (Γs s) c (mc s)) (hb : ∀ s, Bk X W Γe (Γs s) body (fun s => { nx := some (Γs s), ct := some (Γs s) }) (mb s)) (h0 : Wk (Γs s0) Γ) (hw : ∀ s, Wk Γe (Γs s)) : St1 X W Γe Γ (.While c body [] pos) (fun s => .n (Γs s)) (whileS mc mb s0) := fun F M0 M H σ D st po => by
  have h := st_while (κ := fun (o : Empty) => nomatch o) (pos := pos) (mb := fun s => mb s >>= fun s => .ok (.nx s)) s0 hp hc (fun s => bk_map (κ' := kLo Γs _) (g := Lo.nx) (hb s) fun o => ⟨rfl, .inr rfl, .inr rfl, .inr rfl⟩) h0 hw
  refine h F M0 M H σ D st ?_
  unfold whileS at po
  revert po
  cases whileX mc (fun s => mb s >>= fun s => R.ok (Lo.nx (ω := Empty) s)) s0 with
  | bad => exact id
  | err c => exact id
  | ok o =>
    cases o with
    | inl s => exact id
    | inr o => exact nomatch o
end
/-! ### a def -/
section
variable {P : Program} {w : World} {K : PySem.W.Frag} {mg : Str → Option Value} {base : Heap}
theorem Reps.sat {G : Ctx} {M H : Hp} : ∀ {ds : List D} {vs : List V}, Reps G M ds vs → Sat G M H (ds.map fun d => .ow (.imm d)) (vs.map some) []
  | [], vs, h => by rw [show vs = [] from h]; exact ⟨rfl, rfl⟩
  | d :: ds, vs, ⟨v, r, h1, h2, h3⟩ => ⟨v, r.map some, [], [], by rw [h1]; rfl, rfl, ⟨rfl, h2⟩, Reps.sat h3⟩
theorem Sat.app {G : Ctx} {M H : Hp} : ∀ {Γ Γ' : List Sl} {σ σ' : St} {as bs : List Addr}, Sat G M H Γ σ as → Sat G M H Γ' σ' bs → Sat G M H (Γ ++ Γ') (σ ++ σ') (as ++ bs)
  | [], Γ', σ, σ', as, bs, ⟨h1, h2⟩, k => by rw [h1, h2]; exact k
  | .un :: Γ, Γ', σ, σ', as, bs, ⟨x, r, h1, h2⟩, k => ⟨x, r ++ σ', by rw [h1]; rfl, Sat.app h2 k⟩
  | .ow t :: Γ, Γ', σ, σ', as, bs, ⟨v, r, a1, a2, h1, h2, h3, h4⟩, k => ⟨v, r ++ σ', a1, a2 ++ bs, by rw [h1]; rfl, by rw [h2, List.append_assoc], h3, Sat.app h4 k⟩
  | .pn v t :: Γ, Γ', σ, σ', as, bs, ⟨r, a1, a2, h1, h2, h3, h4⟩, k => ⟨r ++ σ', a1, a2 ++ bs, by rw [h1]; rfl, by rw [h2, List.append_assoc], h3, Sat.app h4 k⟩
theorem Sat.uns {G : Ctx} {M H : Hp} : ∀ (n : Nat), Sat G M H (List.replicate n .un) (List.replicate n none) []
  | 0 => ⟨rfl, rfl⟩
  | n + 1 => ⟨none, List.replicate n none, rfl, Sat.uns n⟩
/-- how a def's end is said: it hands back f a, or falls off its end with None -/
def kRet {ρ : Type} (er : ρ → T) (n : Nat) (r : ρ) : Kd := { rt := some (er r, List.replicate n .un) }
def kRetN {ρ : Type} (er : ρ → T) (n : Nat) (r : ρ) : Kd := { rt := some (er r, List.replicate n .un), nx := some (List.replicate n .un) }
/-- THE RULE of a def that changes nothing -/
theorem fn_pure {x qual : Str} {st : Stmt} {f : Addr} {fd : FuncData} {N ps : List Str} {k : Nat} {α ρ : Type} {args : α → List D} {er : ρ → T} {g : α → R ρ} (F : Fun K x qual st f fd) (Sc : FnScope N ps (defScope st))
    (hl : ∀ a, (args a).length = ps.length)
    (hb : ∀ (cdv : Value) (A : Around) (outer : List Env) (s : Shared) (H : Hp) (E : XK), Room k (A.deeper (PyProof.Rows.envOfC qual (defScope st) s.heap.objs.size f cdv)) → ∀ a,
      Bk (cxOf (L2.CX P w) P w K mg base N qual (defScope st) f cdv A outer s H E) (fun cls d _ H => E cls d H) (List.replicate N.length .un) ((args a).map (fun d => .ow (.imm d)) ++ List.replicate (N.length - ps.length) .un) (defBody st) (kRet er N.length) (g a)) :
    FnOk P w K mg base (L2.CX P w) (k + 1) f fd ps (SpF ⟨K, mg⟩ args er g) := by
  refine F.okX Sc (fun vs H Q E h => ?_) (fun cdv A outer s H vs Q E hr h => ?_)
  · obtain ⟨a, M, _, r, _⟩ := h
    rw [r.len, hl]
  · obtain ⟨a, M, mh, r, po⟩ := h
    refine ⟨_, pss_w _ _, hb cdv A outer s H E hr a H M M H _ _ ?_ ?_⟩
    · refine ⟨[], ⟨.refl _, .refl _, mh, fun _ z => .inl z, List.nodup_nil, (fun _ z => nomatch z), fun _ z => nomatch z⟩, ?_⟩
      have e : vs.length = ps.length := by rw [r.len, hl]
      unfold L2.start
      rw [e]
      exact Sat.app (as := []) (bs := []) r.sat (Sat.uns _)
    · refine po.imp (fun x _ q => ⟨fun Γ e => (nomatch e), fun t Γ e M' H' σ v st => ?_, fun Γ e => (nomatch e), fun Γ e => (nomatch e)⟩) fun c z M' H' σ' st C hC => z M' H' ⟨st.fh, st.rel.1, st.mh, st.rel.2⟩ C hC
      have e' : (er x, List.replicate N.length Sl.un) = (t, Γ) := Option.some.inj e
      obtain ⟨e1, e2⟩ := Prod.mk.inj e'
      subst e1; subst e2
      obtain ⟨as, f, ⟨v', r', a1, a2, z1, z2, z3, z4⟩⟩ := st
      obtain ⟨z5, z6⟩ := List.cons.inj z1
      cases z5
      subst z2
      have nd := f.nd
      rw [List.nodup_append] at nd
      exact q v M' H' a1 ⟨f.fh, f.mm, f.mh, f.nw⟩ z3 nd.1 fun b hb => ⟨f.fa b (List.mem_append_left _ hb), f.ma b (List.mem_append_left _ hb)⟩
end
end Cn
/-! Cn5: lists and tuples -/
namespace Cn
open PySem PySem.Spec L2
/-! ### lists that are read -/
def DL (X : Cx) (W : WX) (Γ : List Sl) (e : Expr) {α : Type} (emb : α → List D) (m : R α) : Prop :=
  ∀ F M0 M H σ Q, S X.G F M0 M H σ Γ → Po m (fun x => ∀ a vs M' H', Gr M H M' H' → SqL X.K H' a vs → Reps X.G M' (emb x) vs → Q (.ref a) H') (fun c => ∀ M' H', Gr M H M' H' → Er X.G W c σ H') → wE X e σ H Q
/-- .. a list of the program's run -/
def DLt (X : Cx) (W : WX) (Γ : List Sl) (e : Expr) {α : Type} (emb : α → List D) (m : R α) : Prop :=
  ∀ F M0 M H σ Q, S X.G F M0 M H σ Γ → Po m (fun x => ∀ a vs M' H', Gr M H M' H' → H' a = some (.lst vs) → Reps X.G M' (emb x) vs → Q (.ref a) H') (fun c => ∀ M' H', Gr M H M' H' → Er X.G W c σ H') → wE X e σ H Q
section
variable {X : Cx} {W : WX} {Γe Γ : List Sl} {a b e c tg : Expr} {es : List Expr} {α β γ ω ω1 : Type} {pos : Pos}
theorem dl_t {emb : α → List D} {m : R α} (h : DLt X W Γ e emb m) : DL X W Γ e emb m := fun F M0 M H σ Q s po => h F M0 M H σ Q s (po.imp (fun x _ k a vs M' H' g hl r => k a vs M' H' g (.of hl) r) fun _ z => z)
theorem dt_lst' {emb : α → List D} {m : R α} (h : DD X W Γ e (fun x => .lst (emb x)) m) : DLt X W Γ e emb m := fun F M0 M H σ Q s po => h F M0 M H σ Q s (po.imp (fun x _ k v M' H' g r => by
  obtain ⟨a, vs, rfl, h1, h2⟩ := r
  exact k a vs M' H' g (g.mh _ _ h1) h2) fun _ z => z)
theorem dlt_imm {ei : β → D} {m : R (List β)} (h : DD X W Γ e (fun xs => .lst (xs.map ei)) m) : DLt X W Γ e (fun xs => xs.map ei) m := dt_lst' h
theorem dl_frl {ei : β → D} {m : R (List β)} (h : DD X W Γ e (fun xs => .frl (xs.map ei)) m) : DL X W Γ e (fun xs => xs.map ei) m := fun F M0 M H σ Q s po => h F M0 M H σ Q s (po.imp (fun x _ k v M' H' g r => by
  obtain ⟨a, vs, rfl, h1, h2⟩ := r
  exact k a vs M' H' g (g.mh.seq h1) h2) fun _ z => z)
theorem dl_imm {ei : β → D} {m : R (List β)} (h : DD X W Γ e (fun xs => .lst (xs.map ei)) m) : DL X W Γ e (fun xs => xs.map ei) m := dl_t (dlt_imm h)
theorem map_imm {ε : β → D} (xs : List β) : (xs.map fun x => T.imm (ε x)) = (xs.map ε).map .imm := by rw [List.map_map]; rfl
theorem dlt_own {ei : β → D} {m : R (List β)} (h : DB X W Γ e (fun xs => .lst (xs.map fun x => .imm (ei x))) m) : DLt X W Γ e (fun xs => xs.map ei) m := fun F M0 M H σ Q s po => h F M0 M H σ Q s (po.imp (fun x _ k v M' H' as g o => by
  obtain ⟨a, vs, r, rfl, h1, h2, h3⟩ := o
  rw [map_imm] at h3
  exact k a vs M' H' g h2 (Owns.of_imm h3).1) fun _ z => z)
theorem dl_own {ei : β → D} {m : R (List β)} (h : DB X W Γ e (fun xs => .lst (xs.map fun x => .imm (ei x))) m) : DL X W Γ e (fun xs => xs.map ei) m := dl_t (dlt_own h)
/-! ### a new list, a new tuple -/
theorem new_list {G : Ctx} {M H M1 H1 : Hp} {ds : List D} {vs : List V} {Q : VK} (g : Gr M H M1 H1) (r : Reps G M1 ds vs) (k : WF G M H (.lst (ds.map .imm)) Q) : ∀ p, H1 p = none → Q (.ref p) (upd H1 p (.lst vs)) := fun p hp => by
  have hm : M1 p = none := by
    cases e : M1 p with
    | none => rfl
    | some o => rw [g.mh p o e] at hp; cases hp
  refine k (.ref p) M1 _ [p] ⟨fun b o e => ?_, g.mm, fun b o e => ?_, g.nw⟩ ⟨p, vs, [], rfl, rfl, upd_same, Owns.imm r⟩ (by simp) fun b hb => ?_
  · rw [upd_ne (ne_of_none (g.hh b o e) hp)]; exact g.hh b o e
  · rw [upd_ne (ne_of_none e hm)]; exact g.mh b o e
  · have e : b = p := by simpa using hb
    subst e
    exact ⟨g.hh.free hp, hm⟩
theorem new_tup {G : Ctx} {M H M1 H1 : Hp} {ds : List D} {vs : List V} {Q : VK} (g : Gr M H M1 H1) (r : Reps G M1 ds vs) (k : WD G M H (.tup ds) Q) : ∀ p, H1 p = none → Q (.ref p) (upd H1 p (.tup vs)) := fun p hp => by
  have hm : M1 p = none := by
    cases e : M1 p with
    | none => rfl
    | some o => rw [g.mh p o e] at hp; cases hp
  have mm : Same M1 (upd M1 p (.tup vs)) := fun b o e => by rw [upd_ne (ne_of_none e hm)]; exact e
  refine k (.ref p) (upd M1 p (.tup vs)) _ ⟨fun b o e => ?_, g.mm.trans mm, fun b o e => ?_, fun b z => ?_⟩ ⟨p, vs, rfl, .of upd_same, Reps.mono mm _ _ r⟩
  · rw [upd_ne (ne_of_none (g.hh b o e) hp)]; exact g.hh b o e
  · by_cases hb : b = p
    · subst hb; rw [upd_same] at e ⊢; exact e
    · rw [upd_ne hb] at e ⊢; exact g.mh b o e
  · by_cases hb : b = p
    · subst hb; exact .inr (g.hh.free hp)
    · rw [upd_ne hb] at z; exact g.nw b z
theorem small_len {n : Nat} (h : n ≤ 100000) : n ≤ sizeLine := Nat.le_trans h (by decide)
/-- [a, b, ..] -/
theorem df_disp {args : α → List D} {m : R α} {ei : β → D} (h : DA X W Γ es args m) (g : α → List β) (he : ∀ x, args x = (g x).map ei := by intro _; rfl) (hz : ∀ x, Nat.ble (args x).length 100000 = true := by intro _; rfl) : DF X W Γ (.List es pos) (fun xs => .lst (xs.map fun x => .imm (ei x))) (m >>= fun x => .ok (g x)) :=
  dmk ⟨_, pe_lst (pa_w X es), fun F M0 M H σ Q s po => h F M0 M H σ _ s (po.bind.imp (fun x _ k vs M1 H1 g1 r => by
    refine ⟨by rw [r.len]; exact small_len (Nat.le_of_ble_eq_true (hz x)), new_list g1 r ?_⟩
    rw [he x, ← map_imm]
    exact k) fun _ z => z)⟩
/-- (a, b, ..) -/
theorem dd_tup {args : α → List D} {m : R α} {et : β → D} {x1} (h : DA X W Γ es args m) (g : α → β) (he : ∀ x, et (g x) = .tup (args x) := by intro _; rfl) (hz : ∀ x, Nat.ble (args x).length 100000 = true := by intro _; rfl) : DD X W Γ (.Tuple es x1 pos) et (m >>= fun x => .ok (g x)) :=
  dmk ⟨_, pe_tup (pa_w X es), fun F M0 M H σ Q s po => h F M0 M H σ _ s (po.bind.imp (fun x _ k vs M1 H1 g1 r => by
    refine ⟨by rw [r.len]; exact small_len (Nat.le_of_ble_eq_true (hz x)), new_tup g1 r ?_⟩
    rw [← he x]
    exact k) fun _ z => z)⟩
/-! ### items -/
theorem ixN_map {α β : Type} {f : α → β} {xs : List α} {i : Int} : atI (xs.map f) i = (atI xs i).map f := by
  unfold atI
  rw [List.length_map]
  cases ixN xs.length i with
  | none => rfl
  | some j => show (xs.map f)[j]? = (xs[j]?).map f; rw [List.getElem?_map]
theorem reps_at {G : Ctx} {M : Hp} {ds : List D} {vs : List V} {i : Int} {d : D} (r : Reps G M ds vs) (h : atI ds i = some d) : ∃ v, atI vs i = some v ∧ Rep G M d v := by
  unfold atI at h ⊢
  rw [r.len]
  cases e : ixN ds.length i with
  | none => rw [e] at h; cases h
  | some j =>
    rw [e] at h
    exact r.get h
theorem dd_ixL {ei : β → D} {ma : R (List β)} {mb : R Int} (ha : DL X W Γ a (fun xs => xs.map ei) ma) (hb : DD X W Γ b D.int mb) (hs : PlainIx b := by exact fun _ _ => rfl) : DD X W Γ (.Subscript a b pos) ei (ma >>= fun xs => mb >>= fun i => ofO (atI xs i)) :=
  dmk ⟨_, pe_ix ix_list (pe_w X a) (pe_w X b) hs, fun F M0 M H σ Q s po => ha F M0 M H σ _ s (po.bind.imp (fun xs _ k p vs M1 H1 g1 hl r1 => hb F M0 M1 H1 σ _ (s.grow g1) (k.bind.imp (fun i _ k v M2 H2 g2 r2 => by
    obtain ⟨z, e, k⟩ := k.ofO
    have e' : atI (xs.map ei) i = some (ei z) := by rw [ixN_map, e]; rfl
    obtain ⟨v', q1, q2⟩ := reps_at (Reps.mono g2.mm _ _ r1) e'
    exact ⟨p, vs, i, v', rfl, r2, g2.hh.seq hl, q1, k v' M2 H2 (g1.trans g2) q2⟩) fun c z M' H' g => z M' H' (g1.trans g))) fun _ z => z)⟩
theorem dd_ixT {ei : β → D} {ma : R (List β)} {mb : R Int} (ha : DD X W Γ a (fun xs => .tup (xs.map ei)) ma) (hb : DD X W Γ b D.int mb) (hs : PlainIx b := by exact fun _ _ => rfl) : DD X W Γ (.Subscript a b pos) ei (ma >>= fun xs => mb >>= fun i => ofO (atI xs i)) :=
  dmk ⟨_, pe_ix ix_tup (pe_w X a) (pe_w X b) hs, fun F M0 M H σ Q s po => ha F M0 M H σ _ s (po.bind.imp (fun xs _ k v M1 H1 g1 r1 => hb F M0 M1 H1 σ _ (s.grow g1) (k.bind.imp (fun i _ k w M2 H2 g2 r2 => by
    obtain ⟨p, vs, rfl, hl, r1⟩ := r1
    obtain ⟨z, e, k⟩ := k.ofO
    have e' : atI (xs.map ei) i = some (ei z) := by rw [ixN_map, e]; rfl
    obtain ⟨v', q1, q2⟩ := reps_at (Reps.mono g2.mm _ _ r1) e'
    exact ⟨p, vs, i, v', rfl, r2, same_sqt (g1.mh.trans g2.hh) hl, q1, k v' M2 H2 (g1.trans g2) q2⟩) fun c z M' H' g => z M' H' (g1.trans g))) fun _ z => z)⟩
/-- t[2], t a tuple of known form -/
theorem dd_ixP {et : α → D} {ei : β → D} {ma : R α} {i : Int} {j pb} (ha : DD X W Γ a et ma) (ds : α → List D) (g : α → β) (h1 : ∀ x, et x = .tup (ds x) := by intro _; rfl) (h2 : ∀ x, atI (ds x) i = some (ei (g x)) := by intro _; rfl) :
    DD X W Γ (.Subscript a (.Constant (.int i) j pb) pos) ei (ma >>= fun x => .ok (g x)) :=
  dmk ⟨_, pe_ix ix_tup (pe_w X a) (pe_w X _) (fun _ _ => rfl), fun F M0 M H σ Q s po => ha F M0 M H σ _ s (po.bind.imp (fun x _ k v M1 H1 g1 r1 => dd_int (W := W) F M0 M1 H1 σ _ (s.grow g1) (fun w M2 H2 g2 r2 => by
    rw [h1 x] at r1
    obtain ⟨p, vs, rfl, hl, r1⟩ := r1
    obtain ⟨v', q1, q2⟩ := reps_at (Reps.mono g2.mm _ _ r1) (h2 x)
    exact ⟨p, vs, i, v', rfl, r2, same_sqt (g1.mh.trans g2.hh) hl, q1, k v' M2 H2 (g1.trans g2) q2⟩)) fun _ z => z)⟩
/-! ### len -/
theorem dd_lenL {ei : β → D} {m : R (List β)} {p : Pos} (h : DL X W Γ e (fun xs => xs.map ei) m) (hm : X.mg "len" = none) (hg : Gl X "len" := by rfl) (hs : starEach [e] X.env = (false, eval e X.env) :: starEach [] X.env := by rfl) : DD X W Γ (.Call (.Name "len" p) [e] [] pos) D.int (m >>= fun xs => .ok (xs.length : Int)) :=
  dmk ⟨_, pe_callB call_len_seq hg hm boot_len (pa_cons (pe_w X e) pa_nil (hs := hs)) (he := hs), fun F M0 M H σ Q s po => h F M0 M H σ _ s (po.bind.imp (fun xs _ k a vs M1 H1 g1 hl r1 => ⟨a, vs, rfl, .inl hl, k _ M1 H1 g1 (by
    rw [r1.len, List.length_map]; rfl)⟩) fun _ z => z)⟩
theorem dd_lenT {ei : β → D} {m : R (List β)} {p : Pos} (h : DD X W Γ e (fun xs => .tup (xs.map ei)) m) (hm : X.mg "len" = none) (hg : Gl X "len" := by rfl) (hs : starEach [e] X.env = (false, eval e X.env) :: starEach [] X.env := by rfl) : DD X W Γ (.Call (.Name "len" p) [e] [] pos) D.int (m >>= fun xs => .ok (xs.length : Int)) :=
  dmk ⟨_, pe_callB call_len_seq hg hm boot_len (pa_cons (pe_w X e) pa_nil (hs := hs)) (he := hs), fun F M0 M H σ Q s po => h F M0 M H σ _ s (po.bind.imp (fun xs _ k v M1 H1 g1 r1 => by
    obtain ⟨a, vs, rfl, hl, r1⟩ := r1
    exact ⟨a, vs, rfl, .inr (same_sqt g1.mh hl), k _ M1 H1 g1 (by rw [r1.len, List.length_map]; rfl)⟩) fun _ z => z)⟩
/-! ### slices -/
def cutL {α : Type} (xs : List α) (lo hi : Option Int) : List α := (xs.drop (HT.sIx xs.length 0 lo)).take (HT.sIx xs.length xs.length hi - HT.sIx xs.length 0 lo)
theorem cutL_map {f : α → β} {xs : List α} {lo hi : Option Int} : cutL (xs.map f) lo hi = (cutL xs lo hi).map f := by
  unfold cutL
  rw [List.length_map, List.map_take, List.map_drop]
theorem reps_cut {G : Ctx} {M : Hp} {ds : List D} {vs : List V} {lo hi : Option Int} (r : Reps G M ds vs) : Reps G M (cutL ds lo hi) (cutV vs lo hi) := by
  unfold cutL cutV
  rw [r.len]
  exact (r.drop _).take _
/-- a slice's part -/
def DO (X : Cx) (W : WX) (Γ : List Sl) (e : Option Expr) (m : R (Option Int)) : Prop :=
  ∃ te, PO X e te ∧ ∀ F M0 M H σ Q, S X.G F M0 M H σ Γ → Po m (fun x => ∀ M' H', Gr M H M' H' → Q x H') (fun c => ∀ M' H', Gr M H M' H' → Er X.G W c σ H') → te σ H Q
theorem do_none : DO X W Γ none (.ok none) := ⟨_, po_none, fun F M0 M H σ Q s po => po M H (.refl s.mh)⟩
theorem do_some {m : R Int} (h : DD X W Γ e D.int m) : DO X W Γ (some e) (m >>= fun i => .ok (some i)) :=
  ⟨_, po_some (pe_w X e), fun F M0 M H σ Q s po => h F M0 M H σ _ s (po.bind.imp (fun i _ k v M1 H1 g1 r => ⟨i, r, k M1 H1 g1⟩) fun _ z => z)⟩
theorem df_slL {ei : β → D} {m : R (List β)} {lo hi : Option Expr} {ml mh : R (Option Int)} {p2 : Pos} (h : DL X W Γ e (fun xs => xs.map ei) m) (hl : DO X W Γ lo ml) (hh : DO X W Γ hi mh) :
    DF X W Γ (.Subscript e (.Slice lo hi none p2) pos) (fun xs => .lst (xs.map fun x => .imm (ei x))) (m >>= fun xs => ml >>= fun i => mh >>= fun j => .ok (cutL xs i j)) := by
  obtain ⟨tl, pl, ql⟩ := hl
  obtain ⟨th, ph, qh⟩ := hh
  exact dmk ⟨_, pe_slice sl_list (pe_w X e) pl ph, fun F M0 M H σ Q s po => h F M0 M H σ _ s (po.bind.imp (fun xs _ k a vs M1 H1 g1 hq r1 => ql F M0 M1 H1 σ _ (s.grow g1) (k.bind.imp (fun i _ k M2 H2 g2 => qh F M0 M2 H2 σ _ (s.grow (g1.trans g2)) (k.bind.imp (fun j _ k M3 H3 g3 => by
    refine ⟨a, vs, rfl, (g2.hh.trans g3.hh).seq hq, new_list ((g1.trans g2).trans g3) (ds := cutL (xs.map ei) i j) (reps_cut (Reps.mono (g2.mm.trans g3.mm) _ _ r1)) ?_⟩
    rw [cutL_map, ← map_imm]
    exact k) fun c z M' H' g => z M' H' ((g1.trans g2).trans g))) fun c z M' H' g => z M' H' (g1.trans g))) fun _ z => z)⟩
theorem dd_slT {ei : β → D} {m : R (List β)} {lo hi : Option Expr} {ml mh : R (Option Int)} {p2 : Pos} (h : DD X W Γ e (fun xs => .tup (xs.map ei)) m) (hl : DO X W Γ lo ml) (hh : DO X W Γ hi mh) :
    DD X W Γ (.Subscript e (.Slice lo hi none p2) pos) (fun xs => .tup (xs.map ei)) (m >>= fun xs => ml >>= fun i => mh >>= fun j => .ok (cutL xs i j)) := by
  obtain ⟨tl, pl, ql⟩ := hl
  obtain ⟨th, ph, qh⟩ := hh
  exact dmk ⟨_, pe_slice sl_tupA (pe_w X e) pl ph, fun F M0 M H σ Q s po => h F M0 M H σ _ s (po.bind.imp (fun xs _ k v M1 H1 g1 r1 => ql F M0 M1 H1 σ _ (s.grow g1) (k.bind.imp (fun i _ k M2 H2 g2 => qh F M0 M2 H2 σ _ (s.grow (g1.trans g2)) (k.bind.imp (fun j _ k M3 H3 g3 => by
    obtain ⟨a, vs, rfl, hq, r1⟩ := r1
    have r3 := Reps.mono (g2.mm.trans g3.mm) _ _ r1
    have k : WD X.G M H (.tup (cutL (xs.map ei) i j)) Q := by rw [cutL_map]; exact k
    refine ⟨a, vs, rfl, same_sqt (g1.mh.trans (g2.hh.trans g3.hh)) hq, fun hw => ?_, fun _ => new_tup ((g1.trans g2).trans g3) (reps_cut r3) k⟩
    refine k (.ref a) M3 H3 ((g1.trans g2).trans g3) ⟨a, vs, rfl, same_sqt (g2.mm.trans g3.mm) hq, ?_⟩
    have e1 : cutL (xs.map ei) i j = xs.map ei := by
      unfold cutL
      rw [← r1.len, hw.1, hw.2, List.drop_zero, Nat.sub_zero, r1.len, List.take_length]
    rw [e1]
    exact r3) fun c z M' H' g => z M' H' ((g1.trans g2).trans g))) fun c z M' H' g => z M' H' (g1.trans g))) fun _ z => z)⟩
/-! ### + and * -/
def catO {α : Type} (xs ys : List α) : Option (List α) := if xs.length + ys.length ≤ 16777216 then some (xs ++ ys) else none
def repO {α : Type} (xs : List α) (k : Int) : Option (List α) := if -(2 ^ 63) ≤ k ∧ k < 2 ^ 63 ∧ xs.length * k.toNat ≤ 16777216 then some (List.replicate k.toNat xs).flatten else none
theorem df_cat {ei : β → D} {ma mb : R (List β)} (ha : DLt X W Γ a (fun xs => xs.map ei) ma) (hb : DLt X W Γ b (fun xs => xs.map ei) mb) :
    DF X W Γ (.BinOp a .Add b pos) (fun xs => .lst (xs.map fun x => .imm (ei x))) (ma >>= fun xs => mb >>= fun ys => ofO (catO xs ys)) :=
  dmk ⟨_, pe_op op_cat (pe_w X a) (pe_w X b), fun F M0 M H σ Q s po => ha F M0 M H σ _ s (po.bind.imp (fun xs _ k p vs M1 H1 g1 hl r1 => hb F M0 M1 H1 σ _ (s.grow g1) (k.bind.imp (fun ys _ k q ws M2 H2 g2 hl2 r2 => by
    obtain ⟨z, e, k⟩ := k.ofO
    unfold catO at e
    by_cases hc : xs.length + ys.length ≤ 16777216
    · rw [if_pos hc] at e
      cases e
      refine ⟨p, q, vs, ws, rfl, rfl, g2.hh _ _ hl, hl2, ?_, new_list (g1.trans g2) (ds := xs.map ei ++ ys.map ei) ((Reps.mono g2.mm _ _ r1).app r2) ?_⟩
      · rw [r1.len, r2.len, List.length_map, List.length_map, sizeLine_eq]; exact hc
      · rw [← List.map_append, ← map_imm]
        exact k
    · rw [if_neg hc] at e; cases e) fun c z M' H' g => z M' H' (g1.trans g))) fun _ z => z)⟩
theorem dd_catT {ei : β → D} {ma mb : R (List β)} (ha : DD X W Γ a (fun xs => .tup (xs.map ei)) ma) (hb : DD X W Γ b (fun xs => .tup (xs.map ei)) mb) :
    DD X W Γ (.BinOp a .Add b pos) (fun xs => .tup (xs.map ei)) (ma >>= fun xs => mb >>= fun ys => ofO (catO xs ys)) :=
  dmk ⟨_, pe_op op_catA (pe_w X a) (pe_w X b), fun F M0 M H σ Q s po => ha F M0 M H σ _ s (po.bind.imp (fun xs _ k v M1 H1 g1 r1 => hb F M0 M1 H1 σ _ (s.grow g1) (k.bind.imp (fun ys _ k w M2 H2 g2 r2 => by
    obtain ⟨p, vs, rfl, hl, r1⟩ := r1
    obtain ⟨q, ws, rfl, hl2, r2⟩ := r2
    obtain ⟨z, e, k⟩ := k.ofO
    unfold catO at e
    by_cases hc : xs.length + ys.length ≤ 16777216
    · rw [if_pos hc] at e
      cases e
      have r1' := Reps.mono g2.mm _ _ r1
      have k : WD X.G M H (.tup (xs.map ei ++ ys.map ei)) Q := by rw [← List.map_append]; exact k
      have z1 := r1.len
      have z2 := r2.len
      refine ⟨p, q, vs, ws, rfl, rfl, same_sqt (g1.mh.trans g2.hh) hl, same_sqt g2.mh hl2, ?_, fun e => ?_, fun e => ?_, fun _ _ => new_tup (g1.trans g2) (r1'.app r2) k⟩
      · rw [z1, z2, List.length_map, List.length_map, sizeLine_eq]; exact hc
      · subst e
        have e0 : xs.map ei = [] := List.eq_nil_of_length_eq_zero z1.symm
        rw [e0, List.nil_append] at k
        exact k (.ref q) M2 H2 (g1.trans g2) ⟨q, ws, rfl, hl2, r2⟩
      · intro e
        subst e
        have e0 : ys.map ei = [] := List.eq_nil_of_length_eq_zero z2.symm
        rw [e0, List.append_nil] at k
        exact k (.ref p) M2 H2 (g1.trans g2) ⟨p, vs, rfl, same_sqt g2.mm hl, r1'⟩
    · rw [if_neg hc] at e; cases e) fun c z M' H' g => z M' H' (g1.trans g))) fun _ z => z)⟩
theorem reps_rep {G : Ctx} {M : Hp} {ds : List D} {vs : List V} (r : Reps G M ds vs) : ∀ n, Reps G M (List.replicate n ds).flatten (List.replicate n vs).flatten
  | 0 => rfl
  | n + 1 => by
    rw [List.replicate_succ, List.replicate_succ, List.flatten_cons, List.flatten_cons]
    exact r.app (reps_rep r n)
theorem df_rep {ei : β → D} {ma : R (List β)} {mb : R Int} (ha : DLt X W Γ a (fun xs => xs.map ei) ma) (hb : DD X W Γ b D.int mb) :
    DF X W Γ (.BinOp a .Mult b pos) (fun xs => .lst (xs.map fun x => .imm (ei x))) (ma >>= fun xs => mb >>= fun k => ofO (repO xs k)) :=
  dmk ⟨_, pe_op op_rep (pe_w X a) (pe_w X b), fun F M0 M H σ Q s po => ha F M0 M H σ _ s (po.bind.imp (fun xs _ k p vs M1 H1 g1 hl r1 => hb F M0 M1 H1 σ _ (s.grow g1) (k.bind.imp (fun i _ k w M2 H2 g2 r2 => by
    obtain ⟨z, e, k⟩ := k.ofO
    unfold repO at e
    by_cases hc : -(2 ^ 63) ≤ i ∧ i < 2 ^ 63 ∧ xs.length * i.toNat ≤ 16777216
    · rw [if_pos hc] at e
      cases e
      refine ⟨p, i, vs, rfl, r2, g2.hh _ _ hl, hc.1, hc.2.1, ?_, new_list (g1.trans g2) (reps_rep (Reps.mono g2.mm _ _ r1) i.toNat) ?_⟩
      · rw [r1.len, List.length_map, sizeLine_eq]; exact hc.2.2
      · have e : (List.replicate i.toNat (xs.map ei)).flatten = (List.replicate i.toNat xs).flatten.map ei := by rw [List.map_flatten, List.map_replicate]
        rw [e, ← map_imm]
        exact k
    · rw [if_neg hc] at e; cases e) fun c z M' H' g => z M' H' (g1.trans g))) fun _ z => z)⟩
/-! ### list(..), tuple(..), sum(..), sorted(..) -/
theorem df_listL {ei : β → D} {m : R (List β)} {p : Pos} (h : DL X W Γ e (fun xs => xs.map ei) m) (hm : X.mg "list" = none) (hg : Gl X "list" := by rfl) (hs : starEach [e] X.env = (false, eval e X.env) :: starEach [] X.env := by rfl) : DF X W Γ (.Call (.Name "list" p) [e] [] pos) (fun xs => .lst (xs.map fun x => .imm (ei x))) m :=
  dmk ⟨_, pe_callTy call_list_of hg hm (by decide +kernel) (pa_cons (pe_w X e) pa_nil (hs := hs)) (he := hs), fun F M0 M H σ Q s po => h F M0 M H σ _ s (po.imp (fun xs _ k a vs M1 H1 g1 hl r1 => ⟨a, vs, rfl, .inl hl, new_list g1 r1 (by rw [← map_imm]; exact k)⟩) fun _ z => z)⟩
theorem df_listT {ei : β → D} {m : R (List β)} {p : Pos} (h : DD X W Γ e (fun xs => .tup (xs.map ei)) m) (hm : X.mg "list" = none) (hg : Gl X "list" := by rfl) (hs : starEach [e] X.env = (false, eval e X.env) :: starEach [] X.env := by rfl) : DF X W Γ (.Call (.Name "list" p) [e] [] pos) (fun xs => .lst (xs.map fun x => .imm (ei x))) m :=
  dmk ⟨_, pe_callTy call_list_of hg hm (by decide +kernel) (pa_cons (pe_w X e) pa_nil (hs := hs)) (he := hs), fun F M0 M H σ Q s po => h F M0 M H σ _ s (po.imp (fun xs _ k v M1 H1 g1 r1 => by
    obtain ⟨a, vs, rfl, hl, r1⟩ := r1
    exact ⟨a, vs, rfl, .inr (same_sqt g1.mh hl), new_list g1 r1 (by rw [← map_imm]; exact k)⟩) fun _ z => z)⟩
theorem dd_tupleL {ei : β → D} {m : R (List β)} {p : Pos} (h : DL X W Γ e (fun xs => xs.map ei) m) (hm : X.mg "tuple" = none) (hg : Gl X "tuple" := by rfl) (hs : starEach [e] X.env = (false, eval e X.env) :: starEach [] X.env := by rfl) : DD X W Γ (.Call (.Name "tuple" p) [e] [] pos) (fun xs => .tup (xs.map ei)) m :=
  dmk ⟨_, pe_callTy call_tuple_of hg hm (by decide +kernel) (pa_cons (pe_w X e) pa_nil (hs := hs)) (he := hs), fun F M0 M H σ Q s po => h F M0 M H σ _ s (po.imp (fun xs _ k a vs M1 H1 g1 hl r1 => ⟨a, vs, rfl, .inl ⟨hl, new_tup g1 r1 k⟩⟩) fun _ z => z)⟩
theorem dd_tupleT {ei : β → D} {m : R (List β)} {p : Pos} (h : DD X W Γ e (fun xs => .tup (xs.map ei)) m) (hm : X.mg "tuple" = none) (hg : Gl X "tuple" := by rfl) (hs : starEach [e] X.env = (false, eval e X.env) :: starEach [] X.env := by rfl) : DD X W Γ (.Call (.Name "tuple" p) [e] [] pos) (fun xs => .tup (xs.map ei)) m :=
  dmk ⟨_, pe_callTy call_tuple_of hg hm (by decide +kernel) (pa_cons (pe_w X e) pa_nil (hs := hs)) (he := hs), fun F M0 M H σ Q s po => h F M0 M H σ _ s (po.imp (fun xs _ k v M1 H1 g1 r1 => by
    obtain ⟨a, vs, rfl, hl, r1⟩ := r1
    exact ⟨a, vs, rfl, .inr ⟨same_sqt g1.mh hl, k (.ref a) M1 H1 g1 ⟨a, vs, rfl, hl, r1⟩⟩⟩) fun _ z => z)⟩
theorem reps_ints {G : Ctx} {M : Hp} : ∀ {ns : List Int} {vs : List V}, Reps G M (ns.map D.int) vs → vs = ns.map V.int
  | [], vs, h => h
  | n :: ns, vs, ⟨v, r, h1, h2, h3⟩ => by
    rw [h1, show v = .int n from h2, reps_ints (ns := ns) h3]; rfl
theorem ints_reps {G : Ctx} {M : Hp} : ∀ (ns : List Int), Reps G M (ns.map D.int) (ns.map V.int)
  | [] => rfl
  | n :: ns => ⟨.int n, ns.map V.int, rfl, rfl, ints_reps ns⟩
theorem reps_bls {G : Ctx} {M : Hp} : ∀ {ns : List Bool} {vs : List V}, Reps G M (ns.map D.bl) vs → vs = ns.map V.bl
  | [], vs, h => h
  | n :: ns, vs, ⟨v, r, h1, h2, h3⟩ => by
    rw [h1, show v = .bl n from h2, reps_bls (ns := ns) h3]; rfl
theorem dd_sum {m : R (List Int)} {p : Pos} (hc : X.calm = true) (h : DL X W Γ e (fun xs => xs.map D.int) m) (hm : X.mg "sum" = none) (hg : Gl X "sum" := by rfl) (hs : starEach [e] X.env = (false, eval e X.env) :: starEach [] X.env := by rfl) : DD X W Γ (.Call (.Name "sum" p) [e] [] pos) D.int (m >>= fun xs => .ok xs.sum) :=
  dmk ⟨_, pe_callB (cr_sum hc) hg hm (by decide +kernel) (pa_cons (pe_w X e) pa_nil (hs := hs)) (he := hs), fun F M0 M H σ Q s po => h F M0 M H σ _ s (po.bind.imp (fun xs _ k a vs M1 H1 g1 hl r1 => ⟨a, xs, rfl, by rw [← reps_ints r1]; exact hl, k _ M1 H1 g1 rfl⟩) fun _ z => z)⟩
theorem dd_all {m : R (List Bool)} {p : Pos} (hc : X.calm = true) (h : DL X W Γ e (fun xs => xs.map D.bl) m) (hm : X.mg "all" = none) (hg : Gl X "all" := by rfl) (hs : starEach [e] X.env = (false, eval e X.env) :: starEach [] X.env := by rfl) : DD X W Γ (.Call (.Name "all" p) [e] [] pos) D.bl (m >>= fun xs => .ok (xs.all id)) :=
  dmk ⟨_, pe_callB (cr_all hc) hg hm (by decide +kernel) (pa_cons (pe_w X e) pa_nil (hs := hs)) (he := hs), fun F M0 M H σ Q s po => h F M0 M H σ _ s (po.bind.imp (fun xs _ k a vs M1 H1 g1 hl r1 => ⟨a, xs, rfl, by rw [← reps_bls r1]; exact hl, k _ M1 H1 g1 rfl⟩) fun _ z => z)⟩
theorem dd_any {m : R (List Bool)} {p : Pos} (hc : X.calm = true) (h : DL X W Γ e (fun xs => xs.map D.bl) m) (hm : X.mg "any" = none) (hg : Gl X "any" := by rfl) (hs : starEach [e] X.env = (false, eval e X.env) :: starEach [] X.env := by rfl) : DD X W Γ (.Call (.Name "any" p) [e] [] pos) D.bl (m >>= fun xs => .ok (xs.any id)) :=
  dmk ⟨_, pe_callB (cr_any hc) hg hm (by decide +kernel) (pa_cons (pe_w X e) pa_nil (hs := hs)) (he := hs), fun F M0 M H σ Q s po => h F M0 M H σ _ s (po.bind.imp (fun xs _ k a vs M1 H1 g1 hl r1 => ⟨a, xs, rfl, by rw [← reps_bls r1]; exact hl, k _ M1 H1 g1 rfl⟩) fun _ z => z)⟩
/-- int(n), n an int -/
theorem dd_intI {m : R Int} {p : Pos} (h : DD X W Γ e D.int m) (hm : X.mg "int" = none) (hg : Gl X "int" := by rfl) (hs : starEach [e] X.env = (false, eval e X.env) :: starEach [] X.env := by rfl) : DD X W Γ (.Call (.Name "int" p) [e] [] pos) D.int m :=
  dmk ⟨_, pe_callTy call_int1 hg hm (by decide +kernel) (pa_cons (pe_w X e) pa_nil (hs := hs)) (he := hs), fun F M0 M H σ Q s po => h F M0 M H σ _ s (po.imp (fun i _ k v M1 H1 g1 r1 => .inl ⟨i, by rw [show v = .int i from r1], k _ M1 H1 g1 rfl⟩) fun _ z => z)⟩
theorem dd_absI {m : R Int} {p : Pos} (h : DD X W Γ e D.int m) (hm : X.mg "abs" = none) (hg : Gl X "abs" := by rfl) (hs : starEach [e] X.env = (false, eval e X.env) :: starEach [] X.env := by rfl) : DD X W Γ (.Call (.Name "abs" p) [e] [] pos) D.int (m >>= fun i => .ok (if i < 0 then -i else i)) :=
  dmk ⟨_, pe_callB call_abs hg hm (by decide +kernel) (pa_cons (pe_w X e) pa_nil (hs := hs)) (he := hs), fun F M0 M H σ Q s po => h F M0 M H σ _ s (po.bind.imp (fun i _ k v M1 H1 g1 r1 => ⟨i, by rw [show v = .int i from r1], k _ M1 H1 g1 rfl⟩) fun _ z => z)⟩
theorem dd_two_ints {ma mb : R Int} {n : Str} {id : String} {p : Pos} {f : Int → Int → Int} (hr : CallR X (.builtin id) (fun xs H Q => ∃ i j, xs = [.int i, .int j] ∧ Q (.int (f i j)) H)) (ha : DD X W Γ a D.int ma) (hb : DD X W Γ b D.int mb) (hm : X.mg n = none) (hv : bootBuiltins n = some (.builtin id)) (hg : Gl X n := by rfl) (hn : n ≠ "__name__" := by decide) (hdb : (n == ("__debug__" : Str)) = false := by decide)
    (hs : starEach [a, b] X.env = (false, eval a X.env) :: starEach [b] X.env := by rfl) (hs2 : starEach [b] X.env = (false, eval b X.env) :: starEach [] X.env := by rfl) (hpl : (backTo pos (starEach [b] X.env)).any (·.1) = false := by rfl) : DD X W Γ (.Call (.Name n p) [a, b] [] pos) D.int (ma >>= fun x => mb >>= fun y => .ok (f x y)) := by
  refine dmk ⟨_, pe_callB hr hg hm hv (pa_cons (pe_w X a) (pa_cons (pe_w X b) pa_nil (hs := hs2)) (hs := hs)) (hn := hn) (hdb := hdb) (he := hs) (hpl := hpl), fun F M0 M H σ Q s po => ha F M0 M H σ _ s (po.bind.imp (fun x _ k v M1 H1 g1 r1 => hb F M0 M1 H1 σ _ (s.grow g1) (k.bind.imp (fun y _ k w M2 H2 g2 r2 => ⟨x, y, by rw [show v = .int x from r1, show w = .int y from r2], k _ M2 H2 (g1.trans g2) rfl⟩) fun c z M' H' g => z M' H' (g1.trans g))) fun _ z => z)⟩
end
end Cn
/-! Cn6: one's own lists; targets; comprehensions -/
namespace Cn
open PySem PySem.Spec L2
section
variable {G : Ctx} {F M0 M M' H H' : Hp} {σ : St} {Γ : List Sl}
/-- a list of data, changed -/
theorem S.lset {i : Nat} {ds : List D} (s : S G F M0 M H σ Γ) (h : Γ[i]? = some (.ow (.lst (ds.map .imm)))) :
    ∃ a vs, σ[i]? = some (some (.ref a)) ∧ H a = some (.lst vs) ∧ Reps G M ds vs ∧
      ∀ M' H' vs' ds', Gr M H M' H' → Reps G M' ds' vs' → S G F M0 M' (upd H' a (.lst vs')) σ (Γ.set i (.ow (.lst (ds'.map .imm)))) := by
  obtain ⟨a, vs, h1, h2, h3, ⟨as, h4⟩, h5⟩ := s.listed (ts' := []) h
  obtain ⟨a', vs', h1', h2', _, _, _⟩ := s.listed (ts' := []) h
  refine ⟨a, vs, h1, h2, (Owns.of_imm h4).1, fun M' H' vs' ds' g r => ?_⟩
  obtain ⟨b, ws, e1, e2, _, _, k⟩ := s.listed (ts' := ds'.map .imm) h
  rw [h1] at e1
  cases e1
  exact k M' H' vs' [] g (fun as K' _ o _ _ => ⟨[], Owns.imm r, by simp⟩) List.nodup_nil (fun _ z => nomatch z)
/-- what was one's own is shared from now on -/
theorem S.freeze {i : Nat} {t : T} (s : S G F M0 M H σ Γ) (h : Γ[i]? = some (.ow t)) : ∃ M', S G F M0 M' H σ (Γ.set i (.ow (.imm (fz t)))) := by
  obtain ⟨as, f, sa⟩ := s
  obtain ⟨v, l, a, r, q1, q2, q3, q4⟩ := Sat.focus sa h
  subst q2
  have th := Own.there t v a q3
  have nd := f.nd
  rw [List.append_assoc, List.nodup_append] at nd
  have nd2 := nd.2.1
  rw [List.nodup_append] at nd2
  have dj : ∀ b ∈ l ++ r, b ∉ a := fun b hb ha => by
    rcases List.mem_append.mp hb with z | z
    · exact nd.2.2 b z b (List.mem_append_left _ ha) rfl
    · exact nd2.2.2 b ha b z rfl
  obtain ⟨M', hM⟩ : ∃ M' : Hp, M' = fun b => if b ∈ a then H b else M b := ⟨_, rfl⟩
  have m1 : ∀ b ∈ a, M' b = H b := fun b hb => by rw [hM]; show (if b ∈ a then H b else M b) = H b; rw [if_pos hb]
  have m2 : ∀ b, b ∉ a → M' b = M b := fun b hb => by rw [hM]; show (if b ∈ a then H b else M b) = M b; rw [if_neg hb]
  have ma : ∀ b ∈ a, M b = none := fun b hb => f.ma b (by simp [hb])
  have mm : Same M M' := fun b o e => by
    by_cases hb : b ∈ a
    · rw [ma b hb] at e; cases e
    · rw [m2 b hb]; exact e
  have mh : Same M' H := fun b o e => by
    by_cases hb : b ∈ a
    · rw [m1 b hb] at e; exact e
    · rw [m2 b hb] at e; exact f.mh b o e
  refine ⟨M', l ++ [] ++ r, ⟨f.fh, f.mm.trans mm, mh, fun b z => ?_, ?_, fun b hb => f.fa b ?_, fun b hb => ?_⟩, q4 M' H _ [] mm (fun b _ o e => e) ⟨rfl, Own.freeze mm t v a (fun b hb o e => by rw [m1 b hb]; exact e) q3⟩⟩
  · by_cases hb : b ∈ a
    · exact .inr (f.fa b (by simp [hb]))
    · rw [m2 b hb] at z; exact f.nw b z
  · rw [List.append_nil, List.nodup_append]
    exact ⟨nd.1, nd2.2.1, fun x hx y hy e => nd.2.2 x hx y (List.mem_append_right _ hy) e⟩
  · rw [List.append_nil] at hb
    rcases List.mem_append.mp hb with z | z <;> simp [z]
  · rw [List.append_nil] at hb
    rw [m2 b (dj b hb)]
    exact f.ma b (by rcases List.mem_append.mp hb with z | z <;> simp [z])
end
section
variable {X : Cx} {W : WX} {Γe Γ : List Sl} {a b e c tg elt iter : Expr} {es : List Expr} {α β γ ω ω1 : Type} {pos : Pos} {s : Stmt} {rest ss A B : List Stmt}
theorem bk_freeze {κ : ω → Kd} {m : R ω} {t : T} {d : D} (i : Nat) (h : Γ[i]? = some (.ow t)) (hd : fz t = d) (hb : Bk X W Γe (Γ.set i (.ow (.imm d))) ss κ m) : Bk X W Γe Γ ss κ m := fun F M0 M H σ D s po => by
  subst hd
  obtain ⟨M', s'⟩ := s.freeze h
  exact hb F M0 M' H σ D s' po
theorem bk_freezeL {κ : ω → Kd} {m : R ω} {ei : β → D} {xs : List β} (i : Nat) (h : Γ[i]? = some (.ow (.lst (xs.map fun x => .imm (ei x))))) (hb : Bk X W Γe (Γ.set i (.ow (.imm (.lst (xs.map ei))))) ss κ m) : Bk X W Γe Γ ss κ m := bk_freeze i h (fz_list xs) hb
/-! ### a list of one's own is changed -/
def appO {α : Type} (xs : List α) (x : α) : Option (List α) := if xs.length < 16777216 then some (xs ++ [x]) else none
theorem own_is {ei : β → D} (xs : List β) : T.lst (xs.map fun x => T.imm (ei x)) = T.lst ((xs.map ei).map .imm) := by rw [map_imm]
theorem st_append {ei : β → D} {xs : List β} {m : R β} {n : Str} {p p1 cpos : Pos} (i : Nat) (h : Γ[i]? = some (.ow (.lst (xs.map fun x => .imm (ei x))))) (he : DD X W Γ e ei m) (hw : Wk Γe Γ) (hN : X.N[i]? = some n := by rfl) (hv : Vis X.env.scope n := by first | exact Or.inl rfl | exact Or.inr (Or.inl rfl) | exact Or.inr (Or.inr rfl))
    (hd : (n == ("__debug__" : Str)) = false := by decide) (hcd : (n == ("__classdict__" : Str)) = false := by decide)
    (hbase : attributeBase (.Name n p) "append" X.env (eval (.Name n p) X.env) = eval (.Name n p) X.env := by rfl)
    (hfew : ((backTo cpos (starEach [e] X.env)).all (fun x => !x.1) && (backToKw cpos (keywordEach [] X.env)).all (fun x => x.1.isSome)
      && decide (([e]).length + ([] : List Keyword).length + (if ([] : List Keyword).isEmpty then 0 else 1) < 30)) = true := by rfl)
    (hline : (p1.endLine == cpos.line) = true := by rfl) (hs : starEach [e] X.env = (false, eval e X.env) :: starEach [] X.env := by rfl) (hplain : (backTo cpos (starEach [] X.env)).any (·.1) = false := by rfl)
    (hsw : swapsWith (.Call (.Attribute (.Name n p) "append" p1) [e] [] cpos) none pos.line X.env = pure false := by rfl) :
    St1 X W Γe Γ (.Expr (.Call (.Attribute (.Name n p) "append" p1) [e] [] cpos) pos) (fun xs => .n (Γ.set i (.ow (.lst (xs.map fun x => .imm (ei x)))))) (m >>= fun x => ofO (appO xs x)) :=
  smk ⟨_, ps_expr (pe_bm PySem.F.plainAttrs_list PySem.F.slot_list_append PySem.F.type_list_append mt_append (pe_var hN hv hd hcd) (pa_cons (pe_w X e) pa_nil (hs := hs)) hbase hfew hline hs hplain) hsw, fun F M0 M H σ D st po => by
    rw [own_is] at h
    obtain ⟨a, vs, h1, h2, h3, h4⟩ := st.lset h
    refine ⟨_, h1, .inl ⟨rfl, vs, .of h2⟩, he F M0 M H σ _ st (po.bind.imp (fun x _ k v M1 H1 g1 r1 => ?_) fun c z => er_wk st hw z)⟩
    obtain ⟨z, e, k⟩ := k.ofO
    unfold appO at e
    by_cases hc : xs.length < 16777216
    · rw [if_pos hc] at e
      cases e
      refine ⟨a, vs, v, rfl, rfl, g1.hh _ _ h2, by rw [h3.len, List.length_map, sizeLine_eq]; exact hc, ?_⟩
      refine Kn.nx k _ rfl M1 _ σ ?_
      have q := h4 M1 H1 (vs ++ [v]) ((xs.map ei) ++ [ei x]) g1 ((Reps.mono g1.mm _ _ h3).app ⟨v, [], rfl, r1, rfl⟩)
      rw [own_is, List.map_append (l₁ := xs)]
      exact q
    · rw [if_neg hc] at e; cases e⟩
def extO {α : Type} (xs ys : List α) : Option (List α) := if xs.length + ys.length ≤ 16777216 then some (xs ++ ys) else none
theorem st_extend {ei : β → D} {xs : List β} {m : R (List β)} {n : Str} {p p1 cpos : Pos} (i : Nat) (h : Γ[i]? = some (.ow (.lst (xs.map fun x => .imm (ei x))))) (he : DLt X W Γ e (fun xs => xs.map ei) m) (hw : Wk Γe Γ) (hN : X.N[i]? = some n := by rfl) (hv : Vis X.env.scope n := by first | exact Or.inl rfl | exact Or.inr (Or.inl rfl) | exact Or.inr (Or.inr rfl))
    (hd : (n == ("__debug__" : Str)) = false := by decide) (hcd : (n == ("__classdict__" : Str)) = false := by decide)
    (hbase : attributeBase (.Name n p) "extend" X.env (eval (.Name n p) X.env) = eval (.Name n p) X.env := by rfl)
    (hfew : ((backTo cpos (starEach [e] X.env)).all (fun x => !x.1) && (backToKw cpos (keywordEach [] X.env)).all (fun x => x.1.isSome)
      && decide (([e]).length + ([] : List Keyword).length + (if ([] : List Keyword).isEmpty then 0 else 1) < 30)) = true := by rfl)
    (hline : (p1.endLine == cpos.line) = true := by rfl) (hs : starEach [e] X.env = (false, eval e X.env) :: starEach [] X.env := by rfl) (hplain : (backTo cpos (starEach [] X.env)).any (·.1) = false := by rfl)
    (hsw : swapsWith (.Call (.Attribute (.Name n p) "extend" p1) [e] [] cpos) none pos.line X.env = pure false := by rfl) :
    St1 X W Γe Γ (.Expr (.Call (.Attribute (.Name n p) "extend" p1) [e] [] cpos) pos) (fun xs => .n (Γ.set i (.ow (.lst (xs.map fun x => .imm (ei x)))))) (m >>= fun ys => ofO (extO xs ys)) :=
  smk ⟨_, ps_expr (pe_bm PySem.F.plainAttrs_list PySem.F.slot_list_extend PySem.F.type_list_extend mt_extend (pe_var hN hv hd hcd) (pa_cons (pe_w X e) pa_nil (hs := hs)) hbase hfew hline hs hplain) hsw, fun F M0 M H σ D st po => by
    rw [own_is] at h
    obtain ⟨a, vs, h1, h2, h3, h4⟩ := st.lset h
    refine ⟨_, h1, .inl ⟨rfl, vs, .of h2⟩, he F M0 M H σ _ st (po.bind.imp (fun ys _ k b ws M1 H1 g1 hb r1 => ?_) fun c z => er_wk st hw z)⟩
    obtain ⟨z, e, k⟩ := k.ofO
    unfold extO at e
    by_cases hc : xs.length + ys.length ≤ 16777216
    · rw [if_pos hc] at e
      cases e
      refine ⟨a, b, vs, ws, rfl, rfl, g1.hh _ _ h2, hb, by rw [h3.len, r1.len, List.length_map, List.length_map, sizeLine_eq]; exact hc, ?_⟩
      refine Kn.nx k _ rfl M1 _ σ ?_
      have q := h4 M1 H1 (vs ++ ws) ((xs.map ei) ++ (ys.map ei)) g1 ((Reps.mono g1.mm _ _ h3).app r1)
      rw [own_is, List.map_append (l₁ := xs)]
      exact q
    · rw [if_neg hc] at e; cases e⟩
/-- xs[k] = e -/
def setO {α : Type} (xs : List α) (i : Int) (x : α) : Option (List α) := (ixN xs.length i).map fun j => xs.set j x
theorem Reps.set {G : Ctx} {M : Hp} {v : V} {d : D} (r : Rep G M d v) : ∀ {ds : List D} {vs : List V} (i : Nat), Reps G M ds vs → Reps G M (ds.set i d) (vs.set i v)
  | [], vs, i, h => by rw [show vs = [] from h]; exact rfl
  | x :: ds, vs, 0, ⟨w, q, h1, h2, h3⟩ => by subst h1; exact ⟨v, q, rfl, r, h3⟩
  | x :: ds, vs, i + 1, ⟨w, q, h1, h2, h3⟩ => by subst h1; exact ⟨w, q.set i v, rfl, h2, Reps.set r i h3⟩
theorem st_setix {ei : β → D} {xs : List β} {m : R β} {mi : R Int} {n : Str} {p ps : Pos} (i : Nat) (h : Γ[i]? = some (.ow (.lst (xs.map fun x => .imm (ei x))))) (he : DD X W Γ e ei m) (hi : DD X W Γ b D.int mi) (hw : Wk Γe Γ) (hN : X.N[i]? = some n := by rfl) (hv : Vis X.env.scope n := by first | exact Or.inl rfl | exact Or.inr (Or.inl rfl) | exact Or.inr (Or.inr rfl))
    (hd : (n == ("__debug__" : Str)) = false := by decide) (hcd : (n == ("__classdict__" : Str)) = false := by decide)
    (ha : ∀ v, assign (.Subscript (.Name n p) b ps) X.env v = (do
      let ov ← holding [v] (eval (.Name n p) X.env)
      let iv ← holding [v, ov] (eval b X.env)
      standAt ps
      holding [v, ov, iv] (setItem ov iv v)
      release [v, ov, iv] []) := by intro _; rfl)
    (hs : swapsWithSole [.Subscript (.Name n p) b ps] e pos.line X.env = pure false := by rfl) (hsw : swappedStores [.Subscript (.Name n p) b ps] e X.env = pure none := by rfl)
    (h1 : (assignEach [.Subscript (.Name n p) b ps] X.env).map (·.2) = [assign (.Subscript (.Name n p) b ps) X.env] := by rfl) :
    St1 X W Γe Γ (.Assign [.Subscript (.Name n p) b ps] e pos) (fun xs => .n (Γ.set i (.ow (.lst (xs.map fun x => .imm (ei x)))))) (m >>= fun x => mi >>= fun k => ofO (setO xs k x)) :=
  smk ⟨_, ps_asg (pe_w X e) (pg_sub (pe_var hN hv hd hcd) (pe_w X b) set_list ha) hs hsw h1, fun F M0 M H σ D st po => by
    rw [own_is] at h
    refine he F M0 M H σ _ st (po.bind.imp (fun x _ k v M1 H1 g1 r1 => ?_) fun c z => er_wk st hw z)
    have st1 := st.grow g1
    obtain ⟨a, vs, h1, h2, h3, h4⟩ := st1.lset h
    refine ⟨_, h1, hi F M0 M1 H1 σ _ st1 (k.bind.imp (fun j _ k w M2 H2 g2 r2 => ?_) fun c z => er_wk st1 hw z)⟩
    obtain ⟨z, e, k⟩ := k.ofO
    unfold setO at e
    cases q : ixN xs.length j with
    | none => rw [q] at e; cases e
    | some l =>
      rw [q] at e
      cases e
      refine ⟨a, vs, j, l, rfl, r2, g2.hh _ _ h2, by rw [h3.len, List.length_map]; exact q, ?_⟩
      refine Kn.nx k _ rfl M2 _ σ ?_
      have q := h4 M2 H2 (vs.set l v) ((xs.map ei).set l (ei x)) g2 (Reps.set (Rep.mono g2.mm _ _ r1) l (Reps.mono g2.mm _ _ h3))
      rw [own_is, List.map_set (l := xs)]
      exact q⟩
/-- x op= e, ints -/
def AugI (X : Cx) (op : Operator) (f : Int → Int → Option Int) : Prop := ∃ ti, PIp X op ti ∧ ∀ x y z H Q, f x y = some z → Q (.int z) H → ti (.int x) (.int y) H Q
theorem PIp.of {op : Operator} {r : R2} (h : OpR X (inplaceOp op) r) : PIp X op r := fun pins s σ H x y v u Q I r1 r2 q => h pins s σ H x y v u Q I r1 r2 q
theorem aug_add : AugI X .Add fun x y => some (x + y) := ⟨_, PIp.of iop_add, fun x y z H Q e q => ⟨x, y, rfl, rfl, by cases e; exact q⟩⟩
theorem aug_sub : AugI X .Sub fun x y => some (x - y) := ⟨_, PIp.of iop_sub, fun x y z H Q e q => ⟨x, y, rfl, rfl, by cases e; exact q⟩⟩
theorem aug_xor : AugI X .BitXor fun x y => some (Builtin.bitXor x y) := ⟨_, PIp.of iop_xor, fun x y z H Q e q => ⟨x, y, rfl, rfl, by cases e; exact q⟩⟩
theorem aug_mul : AugI X .Mult mulO := ⟨_, PIp.of iop_mul, fun x y z H Q e q => by
  unfold mulO at e
  by_cases c : CMul x y
  · rw [if_pos c] at e; cases e; exact ⟨x, y, rfl, rfl, c, q⟩
  · rw [if_neg c] at e; cases e⟩
theorem st_aug {op : Operator} {f : Int → Int → Option Int} {m : R Int} {n : Str} {p : Pos} {x : Int} (hf : AugI X op f) (i : Nat) (h : Γ[i]? = some (.ow (.imm (.int x)))) (he : DD X W Γ e D.int m) (hw : Wk Γe Γ) (hN : X.N.Nodup) (hi : X.N[i]? = some n := by rfl) (hl : Nat.blt i Γ.length = true := by rfl) (hx : Loc X.env.scope n := by first | exact Or.inl rfl | exact Or.inr rfl)
    (hfn : X.fn n = true ∨ X.env.scope.names.lookup n = some .local := by first | exact .inl rfl | exact .inr rfl) : St1 X W Γe Γ (.AugAssign (.Name n p) op e pos) (fun x => .n (Γ.set i (.ow (.imm (.int x))))) (m >>= fun y => ofO (f x y)) := by
  obtain ⟨ti, hp, ht⟩ := hf
  refine smk ⟨_, ps_aug hN hi hx (pe_w X e) hp hfn, fun F M0 M H σ D st po => ?_⟩
  obtain ⟨as, fr, sa⟩ := id st
  obtain ⟨v, a, q1, q2, q3⟩ := Sat.get sa h
  refine ⟨v, q1, he F M0 M H σ _ st (po.bind.imp (fun y _ k w M1 H1 g1 r1 => ?_) fun c z => er_wk st hw z)⟩
  rw [show v = .int x from q2.2, show w = .int y from r1]
  obtain ⟨z, e, k⟩ := k.ofO
  refine ht x y z H1 _ e ?_
  exact Kn.nx k _ rfl M1 H1 _ (st.put g1 (show Own X.G M1 H1 (.imm (.int z)) (.int z) [] from ⟨rfl, rfl⟩) List.nodup_nil (fun _ z => nomatch z) (Nat.le_of_ble_eq_true hl))
/-! ### targets that are tuples -/
/-- the items of a tuple, stored one behind the other -/
def DGs (X : Cx) (Γ : List Sl) (tgs : List Expr) (put : List Sl) (ds : List D) : Prop := ∃ g, PGs X tgs g ∧ ∀ F M0 M H σ vs Q, S X.G F M0 M H σ Γ → Reps X.G M ds vs → (∀ M' H' σ', Same M M' → S X.G F M0 M' H' σ' put → Q σ' H') → g vs σ H Q
theorem dgs_nil : DGs X Γ [] Γ [] := ⟨_, pgs_nil, fun F M0 M H σ vs Q s r q => ⟨r, q M H σ (.refl _) s⟩⟩
theorem dgs_cons {tgs : List Expr} {Γ1 put : List Sl} {d : D} {ds : List D} (h : DG X Γ tg Γ1 d) (k : DGs X Γ1 tgs put ds) (hs : (assignEach (tg :: tgs) X.env).map (·.2) = assign tg X.env :: (assignEach tgs X.env).map (·.2) := by rfl) : DGs X Γ (tg :: tgs) put (d :: ds) := by
  obtain ⟨g, pg, hg⟩ := k
  refine ⟨_, pgs_cons (pg_w X tg) pg hs, fun F M0 M H σ vs Q s r q => ?_⟩
  obtain ⟨v, r', rfl, h1, h2⟩ := r
  exact ⟨v, r', rfl, h F M0 M H σ v _ s h1 fun M1 H1 σ1 m1 s1 => hg F M0 M1 H1 σ1 r' Q s1 (Reps.mono m1 _ _ h2) fun M2 H2 σ2 m2 s2 => q M2 H2 σ2 (m1.trans m2) s2⟩
theorem dg_tup {tgs : List Expr} {put : List Sl} {ds : List D} {k : Nat} (hc : X.calm = true) (h : DGs X Γ tgs put ds) (hn : (assignEach tgs X.env).length = ds.length := by rfl) (hst : (assignEach tgs X.env).findIdx? (·.1) = none := by rfl) : DG X Γ (.Tuple tgs k pos) put (.tup ds) := by
  obtain ⟨g, pg, hg⟩ := h
  intro F M0 M H σ v Q s r q pins sh u I rv
  obtain ⟨a, vs, rfl, h1, h2⟩ := r
  exact (pg_tup (pos := pos) (k := k) hc pg hn hst).run pins sh σ H _ u Q I rv ⟨a, vs, rfl, same_sqt s.mh h1, by rw [h2.len], hg F M0 M H σ vs Q s h2 q⟩
theorem dg_unl {tgs : List Expr} {put : List Sl} {ds : List D} {k : Nat} (hc : X.calm = true) (h : DGs X Γ tgs put ds) (hn : (assignEach tgs X.env).length = ds.length := by rfl) (hst : (assignEach tgs X.env).findIdx? (·.1) = none := by rfl) : DG X Γ (.Tuple tgs k pos) put (.lst ds) := by
  obtain ⟨g, pg, hg⟩ := h
  intro F M0 M H σ v Q s r q pins sh u I rv
  obtain ⟨a, vs, rfl, h1, h2⟩ := r
  exact (pg_unl (pos := pos) (k := k) hc pg hn hst).run pins sh σ H _ u Q I rv ⟨a, vs, rfl, .of (s.mh _ _ h1), by rw [h2.len], hg F M0 M H σ vs Q s h2 q⟩
theorem st_asg {emb : α → D} {m : R α} {put : α → List Sl} (he : DD X W Γ e emb m) (hg : ∀ x, DG X Γ tg (put x) (emb x)) (hw : Wk Γe Γ) (hs : swapsWithSole [tg] e pos.line X.env = pure false := by rfl) (hsw : swappedStores [tg] e X.env = pure none := by rfl)
    (h1 : (assignEach [tg] X.env).map (·.2) = [assign tg X.env] := by rfl) : St1 X W Γe Γ (.Assign [tg] e pos) (fun x => .n (put x)) m :=
  smk ⟨_, ps_asg (pe_w X e) (pg_w X tg) hs hsw h1, fun F M0 M H σ D st po => he F M0 M H σ _ st (po.imp (fun x _ k v M1 H1 g1 r1 => hg x F M0 M1 H1 σ v _ (st.grow g1) r1 fun M2 H2 σ2 _ s2 => Kn.nx k _ rfl M2 H2 σ2 s2) fun c z => er_wk st hw z)⟩
/-- .. where the number of items is known by a test alone: a list (or tuple) of any length -/
def itemsN {α : Type} (n : Nat) (xs : List α) : Option (List α) := if xs.length = n then some xs else none
/-! ### comprehensions -/
/-- an exception within a comprehension isn't carried -/
def noErr {α : Type} : R α → R α
  | .err _ => .bad
  | m => m
theorem Po.noErr {α : Type} {m : R α} {Q : α → Prop} {E : Str → Prop} (h : Po (noErr m) Q E) : Po m Q fun _ => False := by
  cases m with
  | bad => exact h
  | err c => exact h
  | ok a => exact h
def lcR {α β : Type} (c : α → R Bool) (f : α → R β) : List α → R (List β)
  | [] => .ok []
  | x :: xs => noErr (c x) >>= fun b => if b then noErr (f x) >>= fun y => lcR c f xs >>= fun ys => .ok (y :: ys) else lcR c f xs
def compR {α β : Type} (c : α → R Bool) (f : α → R β) (xs : List α) : R (List β) := if xs.length ≤ 16777216 then lcR c f xs else .bad
abbrev wNo : WX := fun _ _ _ _ => False
/-- the tests of a comprehension -/
def DTs (X : Cx) (Γ : List Sl) (ifs : List Expr) (m : R Bool) : Prop :=
  ∃ tt, PTs X ifs tt ∧ ∀ F M0 M H σ Q, S X.G F M0 M H σ Γ → Po m (fun x => ∀ M' H', Gr M H M' H' → Q x H') (fun _ => False) → tt σ H Q
theorem dts_nil : DTs X Γ [] (.ok true) := ⟨_, pts_nil, fun F M0 M H σ Q s po => po M H (.refl s.mh)⟩
theorem dts_one {m : R Bool} (h : DT X wNo Γ c m) : DTs X Γ [c] m := ⟨_, pts_one (pt_w X c), fun F M0 M H σ Q s po => h F M0 M H σ Q s (po.imp (fun _ _ k => k) fun _ z => z.elim)⟩
def wTs (X : Cx) (ifs : List Expr) : TT := fun σ H Q => ∀ pins s, Inv X pins σ H s → wpAny (model X.prog X.w) X.A (forIn ifs true fun c r => if r = true then do let ok ← isTrue c X.env (eval c X.env); pure (ForInStep.yield ok) else pure (ForInStep.yield r)) (TP X pins σ Q) X.xe s
/-- the own names forgotten -/
def wipeΓ (Γ : List Sl) : List Nat → List Sl
  | [] => Γ
  | v :: vs => (wipeΓ Γ vs).set v .un
theorem Sat.unset {G : Ctx} {M H : Hp} : ∀ {Γ : List Sl} {σ : St} {as : List Addr} {i : Nat}, Sat G M H Γ σ as → ∃ bs, Sat G M H (Γ.set i .un) (σ.set i none) bs ∧ bs.Sublist as
  | [], σ, as, i, h => ⟨as, by rw [h.1]; exact ⟨rfl, h.2⟩, .refl _⟩
  | .un :: Γ, σ, as, 0, ⟨x, r, h1, h2⟩ => ⟨as, by rw [h1]; exact ⟨none, r, rfl, h2⟩, .refl _⟩
  | .ow t' :: Γ, σ, as, 0, ⟨w, r, a1, a2, h1, h2, h3, h4⟩ => ⟨a2, by rw [h1]; exact ⟨none, r, rfl, h4⟩, by rw [h2]; exact List.sublist_append_right _ _⟩
  | .pn w t' :: Γ, σ, as, 0, ⟨r, a1, a2, h1, h2, h3, h4⟩ => ⟨a2, by rw [h1]; exact ⟨none, r, rfl, h4⟩, by rw [h2]; exact List.sublist_append_right _ _⟩
  | .un :: Γ, σ, as, i + 1, ⟨x, r, h1, h2⟩ => by
    obtain ⟨bs, s, sub⟩ := Sat.unset (i := i) h2
    exact ⟨bs, by rw [h1]; exact ⟨x, _, rfl, s⟩, sub⟩
  | .ow t' :: Γ, σ, as, i + 1, ⟨w, r, a1, a2, h1, h2, h3, h4⟩ => by
    obtain ⟨bs, s, sub⟩ := Sat.unset (i := i) h4
    exact ⟨a1 ++ bs, by rw [h1]; exact ⟨w, _, a1, bs, rfl, rfl, h3, s⟩, by rw [h2]; exact List.Sublist.append_left sub a1⟩
  | .pn w t' :: Γ, σ, as, i + 1, ⟨r, a1, a2, h1, h2, h3, h4⟩ => by
    obtain ⟨bs, s, sub⟩ := Sat.unset (i := i) h4
    exact ⟨a1 ++ bs, by rw [h1]; exact ⟨_, a1, bs, rfl, rfl, h3, s⟩, by rw [h2]; exact List.Sublist.append_left sub a1⟩
theorem S.wipe {G : Ctx} {F M0 M H : Hp} {σ : St} {Γ : List Sl} (s : S G F M0 M H σ Γ) : ∀ vs, S G F M0 M H (wipe σ vs) (wipeΓ Γ vs)
  | [] => s
  | v :: vs => by
    obtain ⟨as, f, sa⟩ := S.wipe s vs
    obtain ⟨bs, sb, sub⟩ := Sat.unset (i := v) sa
    exact ⟨bs, f.sub sub, sb⟩
/-- the new list at L is filled: what stood around it -/
theorem gr_list {M1 H1 M H : Hp} {L : Addr} {vs : List V} (g : Gr M1 H1 M H) (h0 : H1 L = none) (hm : M L = none) : Gr M1 H1 M (upd H L (.lst vs)) :=
  ⟨fun b o e => by rw [upd_ne (ne_of_none e h0)]; exact g.hh b o e, g.mm, fun b o e => by rw [upd_ne (ne_of_none e hm)]; exact g.mh b o e, g.nw⟩
theorem gr_keepNone {M H M' H' : Hp} (g : Gr M H M' H') {L : Addr} (hm : M L = none) (hh : H L ≠ none) : M' L = none := by
  cases e : M' L with
  | none => rfl
  | some o =>
    rcases g.nw L (by rw [e]; exact fun z => nomatch z) with q | q
    · exact absurd hm q
    · exact absurd q hh
/-- the context of a comprehension's block -/
abbrev blkX (X : Cx) (scope : Scope) (s : Shared) (H : Hp) (C : Addr) (cl : List (Str × Addr)) (fp : List Addr) : Cx := X.blk s H scope (compEnvC scope cl C X.env) fp
/-- the reading of a comprehension, from its parts' -/
theorem lc_reads {G : Ctx} {own : List (Str × Nat)} {et : β → T} {ei : α → D} {cf : α → R Bool} {f : α → R β} {wi : TI} {g : TG} {tt : TT} {te : TE} {mi : R (List α)} {put : α → List Sl} {F M0 M H : Hp} {σ : St} {Q : VK} {E : Str → Prop}
    (st : S G F M0 M H σ Γ)
    (hi : ∀ R : It → Hp → Prop, Po mi (fun xs => ∀ J M' H', Gr M H M' H' → ItD G J (xs.map ei) M' → R J H') E → wi σ H R)
    (hg : ∀ x F M0 M H σ' v (Q : St → Hp → Prop), S G F M0 M H σ' (wipeΓ Γ (own.map (·.2))) → σ' = wipe σ (own.map (·.2)) → Rep G M (ei x) v → (∀ M' H' σ2, Gr M H M' H' → S G F M0 M' H' σ2 (put x) → wipe σ2 (own.map (·.2)) = σ' → Q σ2 H') → g v σ' H Q)
    (ht : ∀ x F M0 M H σ' Q, S G F M0 M H σ' (put x) → Po (cf x) (fun b => ∀ M' H', Gr M H M' H' → Q b H') (fun _ => False) → tt σ' H Q)
    (he : ∀ x F M0 M H σ' Q, S G F M0 M H σ' (put x) → Po (f x) (fun y => WF G M H (et y) Q) (fun _ => False) → te σ' H Q)
    (po : Po (mi >>= fun xs => compR cf f xs) (fun ys => WF G M H (.lst (ys.map et)) Q) E) : tLc wi g tt te (own.map (·.2)) σ H Q := by
  refine hi _ (po.bind.imp (fun xs _ k J M1 H1 g1 it => ?_) fun c z => z)
  have k : Po (if xs.length ≤ 16777216 then lcR cf f xs else .bad) _ E := k
  by_cases hz : xs.length ≤ 16777216
  case neg => rw [if_neg hz] at k; exact k.elim
  rw [if_pos hz] at k
  intro L hL
  have hML : M1 L = none := by
    cases e : M1 L with
    | none => rfl
    | some o => rw [g1.mh L o e] at hL; cases hL
  have hHL : H L = none := g1.hh.free hL
  refine ⟨fun i m H2 => m = xs.length - i ∧ i ≤ xs.length ∧ ∃ M2 ys acc as, Gr M1 H1 M2 H2 ∧ M2 L = none ∧ H2 L = some (.lst acc) ∧ acc.length ≤ i ∧ Owns G M2 H2 (ys.map et) acc as ∧ as.Nodup ∧ (∀ a ∈ as, H1 a = none ∧ M2 a = none ∧ a ≠ L) ∧
      Po (lcR cf f (xs.drop i)) (fun zs => WF G M H (.lst ((ys ++ zs).map et)) Q) E, ⟨xs.length, by simp, Nat.zero_le _, M1, [], [], [], gr_list (.refl g1.mh) hL hML, hML, upd_same, Nat.le_refl _, (show Owns G M1 _ (([] : List β).map et) [] [] from ⟨rfl, rfl⟩), List.nodup_nil, (fun _ z => nomatch z), k⟩, ?_⟩
  rintro i m H2 ⟨rfl, hi2, M2, ys, acc, as, g2, hM2, hH2, hl, ow, nd, fr, k⟩
  obtain ⟨i1, i2⟩ := it M2 H2 i g2.mm g2.mh
  by_cases hlt : i < xs.length
  · have ex : xs[i]? = some xs[i] := List.getElem?_eq_getElem hlt
    obtain ⟨go, yl⟩ := i1 (ei xs[i]) (by rw [List.getElem?_map, ex]; rfl)
    rw [List.drop_eq_getElem_cons hlt] at k
    have k := (Po.bind (m := noErr (cf xs[i])) k)
    refine .inr ⟨go, fun H' => ∃ M3 ys acc as, Gr M1 H1 M3 H' ∧ M3 L = none ∧ H' L = some (.lst acc) ∧ acc.length ≤ i + 1 ∧ Owns G M3 H' (ys.map et) acc as ∧ as.Nodup ∧ (∀ a ∈ as, H1 a = none ∧ M3 a = none ∧ a ≠ L) ∧
      Po (lcR cf f (xs.drop (i + 1))) (fun zs => WF G M H (.lst ((ys ++ zs).map et)) Q) E, fun H' q => ⟨xs.length - (i + 1), by omega, rfl, hlt, q⟩, fun x H' y => ?_⟩
    obtain ⟨M3, g3, r3⟩ := yl x H' y
    have g13 := g2.trans g3
    have st3 := ((st.grow g1).grow g13).wipe (own.map (·.2))
    refine hg xs[i] F M0 M3 H' _ x _ st3 rfl r3 fun M4 H4 σ4 g4 s4 ew => ⟨ew, ?_⟩
    refine ht xs[i] F M0 M4 H4 σ4 _ s4 (k.noErr.imp (fun b _ k M5 H5 g5 => ?_) fun _ z => z)
    have g25 := (g3.trans g4).trans g5
    have hH5 : H5 L = some (.lst acc) := g25.hh _ _ hH2
    have hM5 : M5 L = none := gr_keepNone g25 hM2 (by rw [hH2]; exact fun z => nomatch z)
    have ow5 := Owns.keep g25.mm _ _ _ (fun a _ o e => g25.hh a o e) ow
    have fr5 : ∀ a ∈ as, H1 a = none ∧ M5 a = none ∧ a ≠ L := fun a ha => ⟨(fr a ha).1, gr_keepNone g25 (fr a ha).2.1 (Owns.there _ _ _ ow a ha), (fr a ha).2.2⟩
    cases b with
    | false =>
      rw [if_neg Bool.false_ne_true] at k
      exact ⟨M5, ys, acc, as, g2.trans g25, hM5, hH5, by omega, ow5, nd, fr5, k⟩
    | true =>
      rw [if_pos rfl] at k
      have k := (Po.bind (m := noErr (f xs[i])) k)
      rw [if_pos rfl]
      refine he xs[i] F M0 M5 H5 σ4 _ (s4.grow g5) (k.noErr.imp (fun y _ k v M6 H6 bs g6 o6 nd6 fr6 => ?_) fun _ z => z)
      have hH6 : H6 L = some (.lst acc) := g6.hh _ _ hH5
      have hM6 : M6 L = none := gr_keepNone g6 hM5 (by rw [hH5]; exact fun z => nomatch z)
      have bL : ∀ a ∈ bs, a ≠ L := fun a ha z => by
        have := (fr6 a ha).1
        rw [z, hH5] at this; cases this
      refine ⟨acc, hH6, Nat.lt_of_lt_of_le (Nat.lt_of_le_of_lt hl hlt) (by rw [sizeLine_eq]; exact hz), M6, ys ++ [y], acc ++ [v], as ++ bs, gr_list ((g2.trans g25).trans g6) hL hM6, hM6, upd_same, by rw [List.length_append, List.length_singleton]; omega, ?_, ?_, fun a ha => ?_, ?_⟩
      · rw [List.map_append]
        refine Owns.app (Owns.keep g6.mm _ _ _ (fun a ha o e => by rw [upd_ne (fr5 a ha).2.2]; exact g6.hh a o e) ow5) ?_
        exact ⟨v, [], bs, [], rfl, by simp, Own.keep (.refl _) _ _ _ (fun a ha o e => by rw [upd_ne (bL a ha)]; exact e) o6, ⟨rfl, rfl⟩⟩
      · rw [List.nodup_append]
        refine ⟨nd, nd6, fun a ha b hb e => ?_⟩
        subst e
        exact Owns.there _ _ _ ow5 a ha (fr6 a hb).1
      · rcases List.mem_append.mp ha with z | z
        · exact ⟨(fr5 a z).1, gr_keepNone g6 (fr5 a z).2.1 (Owns.there _ _ _ ow5 a z), (fr5 a z).2.2⟩
        · exact ⟨(g2.trans g25).hh.free (fr6 a z).1, (fr6 a z).2, bL a z⟩
      · refine k.bind.imp (fun zs _ k => ?_) fun _ z => z
        have k : WF G M H (.lst ((ys ++ (y :: zs)).map et)) Q := k
        rw [List.append_assoc]
        exact k
  · have e : xs.drop i = [] := List.drop_eq_nil_of_le (by omega)
    rw [e] at k
    have k : WF G M H (.lst ((ys ++ []).map et)) Q := k
    rw [List.append_nil] at k
    refine .inl ⟨i2 (by rw [List.length_map]; omega), k (.ref L) M2 H2 (L :: as) (g1.trans g2) ⟨L, acc, as, rfl, rfl, hH2, ow⟩ ?_ fun a ha => ?_⟩
    · rw [List.nodup_cons]
      exact ⟨fun z => (fr L z).2.2 rfl, nd⟩
    · rcases List.mem_cons.mp ha with z | z
      · rw [z]; exact ⟨hHL, hM2⟩
      · exact ⟨g1.hh.free (fr a z).1, (fr a z).2.1⟩
/-- a target of names alone -/
def DGc (X : Cx) (vs : List Nat) (Γ : List Sl) (tg : Expr) (put : List Sl) (d : D) : Prop := ∀ F M0 M H σ v Q, S X.G F M0 M H σ Γ → Rep X.G M d v → (∀ σ', S X.G F M0 M H σ' put → wipe σ' vs = wipe σ vs → Q σ' H) → wG X tg v σ H Q
theorem wipe_set {x : Option V} {i : Nat} : ∀ {vs : List Nat} {σ : St}, i ∈ vs → wipe (σ.set i x) vs = wipe σ vs
  | [], σ, h => nomatch h
  | v :: vs, σ, h => by
    show (wipe (σ.set i x) vs).set v none = (wipe σ vs).set v none
    by_cases hv : i ∈ vs
    · rw [wipe_set hv]
    · have e : i = v := by
        rcases List.mem_cons.mp h with z | z
        · exact z
        · exact absurd z hv
      subst e
      have key : ∀ (vs : List Nat) (σ : St), i ∉ vs → wipe (σ.set i x) vs = (wipe σ vs).set i x := by
        intro vs
        induction vs with
        | nil => intro σ _; rfl
        | cons w ws ih =>
          intro σ hw
          show (wipe (σ.set i x) ws).set w none = ((wipe σ ws).set w none).set i x
          rw [ih σ (fun z => hw (List.mem_cons_of_mem _ z)), List.set_comm _ _ (fun z => hw (by rw [z]; exact List.mem_cons_self))]
      rw [key vs σ hv, List.set_set]
theorem wipe_idem {σ : St} : ∀ {vs : List Nat}, wipe (wipe σ vs) vs = wipe σ vs
  | [] => rfl
  | v :: vs => by
    show (wipe ((wipe σ vs).set v none) vs).set v none = (wipe σ vs).set v none
    by_cases hv : v ∈ vs
    · rw [wipe_set hv, wipe_idem]
    · have key : ∀ (vs : List Nat) (σ : St), v ∉ vs → wipe (σ.set v none) vs = (wipe σ vs).set v none := by
        intro vs
        induction vs with
        | nil => intro σ _; rfl
        | cons w ws ih =>
          intro σ hw
          show (wipe (σ.set v none) ws).set w none = ((wipe σ ws).set w none).set v none
          rw [ih σ (fun z => hw (List.mem_cons_of_mem _ z)), List.set_comm _ _ (fun z => hw (by rw [z]; exact List.mem_cons_self))]
      rw [key vs _ hv, List.set_set, wipe_idem]
theorem dgc_name {n : Str} {d : D} {vs : List Nat} (i : Nat) (hN : X.N.Nodup) (hi : X.N[i]? = some n := by rfl) (hl : Nat.blt i Γ.length = true := by rfl) (hx : Loc X.env.scope n := by first | exact Or.inl rfl | exact Or.inr rfl) (hf : X.fn n = true ∨ X.env.scope.names.lookup n = some .local := by first | exact .inl rfl | exact .inr rfl) (hv : i ∈ vs := by decide) :
    DGc X vs Γ (.Name n pos) (Γ.set i (.ow (.imm d))) d := fun F M0 M H σ v Q s r q pins sh u I rv => by
  have p := pg_name (pos := pos) hN hi hx hf
  exact p.run pins sh σ H v u Q I rv (q _ (s.put (.refl s.mh) (show Own X.G M H (.imm d) v [] from ⟨rfl, r⟩) List.nodup_nil (fun _ z => nomatch z) (Nat.le_of_ble_eq_true hl)) (wipe_set hv))
def DGcs (X : Cx) (ws : List Nat) (Γ : List Sl) (tgs : List Expr) (put : List Sl) (ds : List D) : Prop := ∃ g, PGs X tgs g ∧ ∀ F M0 M H σ vs Q, S X.G F M0 M H σ Γ → Reps X.G M ds vs → (∀ σ', S X.G F M0 M H σ' put → wipe σ' ws = wipe σ ws → Q σ' H) → g vs σ H Q
theorem dgcs_nil {ws : List Nat} : DGcs X ws Γ [] Γ [] := ⟨_, pgs_nil, fun F M0 M H σ vs Q s r q => ⟨r, q σ s rfl⟩⟩
theorem dgcs_cons {ws : List Nat} {tgs : List Expr} {Γ1 put : List Sl} {d : D} {ds : List D} (h : DGc X ws Γ tg Γ1 d) (k : DGcs X ws Γ1 tgs put ds) (hs : (assignEach (tg :: tgs) X.env).map (·.2) = assign tg X.env :: (assignEach tgs X.env).map (·.2) := by rfl) : DGcs X ws Γ (tg :: tgs) put (d :: ds) := by
  obtain ⟨g, pg, hg⟩ := k
  refine ⟨_, pgs_cons (pg_w X tg) pg hs, fun F M0 M H σ vs Q s r q => ?_⟩
  obtain ⟨v, r', rfl, h1, h2⟩ := r
  exact ⟨v, r', rfl, h F M0 M H σ v _ s h1 fun σ1 s1 e1 => hg F M0 M H σ1 r' Q s1 h2 fun σ2 s2 e2 => q σ2 s2 (e2.trans e1)⟩
theorem dgc_tup {ws : List Nat} {tgs : List Expr} {put : List Sl} {ds : List D} {k : Nat} (hc : X.calm = true) (h : DGcs X ws Γ tgs put ds) (hn : (assignEach tgs X.env).length = ds.length := by rfl) (hst : (assignEach tgs X.env).findIdx? (·.1) = none := by rfl) : DGc X ws Γ (.Tuple tgs k pos) put (.tup ds) := by
  obtain ⟨g, pg, hg⟩ := h
  intro F M0 M H σ v Q s r q pins sh u I rv
  obtain ⟨a, vs, rfl, h1, h2⟩ := r
  exact (pg_tup (pos := pos) (k := k) hc pg hn hst).run pins sh σ H _ u Q I rv ⟨a, vs, rfl, same_sqt s.mh h1, by rw [h2.len], hg F M0 M H σ vs Q s h2 q⟩
theorem df_lc {scope : Scope} {ifs : List Expr} {et : β → T} {ei : α → D} {cf : α → R Bool} {f : α → R β} {mi : R (List α)} {put : α → List Sl} (own : List (Str × Nat)) (hc : X.calm = true) (hN : X.N.Nodup) (hi : DI X W Γ tg iter (fun xs => xs.map ei) mi) (hw : Wk Γ Γ)
    (hg : ∀ s H C cl fp x, DGc (blkX X scope s H C cl fp) (own.map (·.2)) (wipeΓ Γ (own.map (·.2))) tg (put x) (ei x))
    (ht : ∀ s H C cl fp x, DTs (blkX X scope s H C cl fp) (put x) ifs (cf x)) (he : ∀ s H C cl fp x, DF (blkX X scope s H C cl fp) wNo (put x) elt et (f x))
    (ok : blkC X.N X.env.scope scope own = true := by decide +kernel) (hs : ∀ x, foldedSetIterable iter X.env x = pure x := by intro _; rfl) :
    DF X W Γ (.ListComp elt [⟨tg, iter, ifs, 0⟩] scope pos) (fun ys => .lst (ys.map et)) (mi >>= fun xs => compR cf f xs) :=
  dmk ⟨_, pe_lc (own := own) (g := fun v σ H Q => ∀ s Hh C cl fp, wG (blkX X scope s Hh C cl fp) tg v σ H Q) (tt := fun σ H Q => ∀ s Hh C cl fp, wTs (blkX X scope s Hh C cl fp) ifs σ H Q) (te := fun σ H Q => ∀ s Hh C cl fp, wE (blkX X scope s Hh C cl fp) elt σ H Q) hc hN (pi_w X iter tg) (blkOk_by ok)
    (fun s Hh C cl fp => ⟨fun pins sh σ H v u Q I r h => h s Hh C cl fp pins sh u I r⟩) (fun s Hh C cl fp => ⟨fun pins sh σ H Q I h => h s Hh C cl fp pins sh I⟩) (fun s Hh C cl fp => ⟨fun pins sh σ H Q I h => h s Hh C cl fp pins sh I⟩) hs,
    fun F M0 M H σ Q st po => lc_reads (put := put) (E := fun c => ∀ M' H', Gr M H M' H' → Er X.G W c σ H') st (fun R po => hi F M0 M H σ R st po)
      (fun x F M0 M H σ' v Q s e r q s0 Hh C cl fp => hg s0 Hh C cl fp x F M0 M H σ' v Q s r fun σ2 s2 e2 => q M H σ2 (.refl s.mh) s2 (by rw [e2, e, wipe_idem]))
      (fun x F M0 M H σ' Q s po s0 Hh C cl fp => by
        obtain ⟨tt, pt, qt⟩ := ht s0 Hh C cl fp x
        exact fun pins sh I => pt.run pins sh σ' H Q I (qt F M0 M H σ' Q s po))
      (fun x F M0 M H σ' Q s po s0 Hh C cl fp => he s0 Hh C cl fp x F M0 M H σ' Q s (po.imp (fun _ _ k => k) fun _ z => z.elim)) po⟩
theorem st_setLc {n : Str} {py : Pos} {scope : Scope} {ifs : List Expr} {et : β → T} {ei : α → D} {cf : α → R Bool} {f : α → R β} {mi : R (List α)} {put : α → List Sl} (i : Nat) (own : List (Str × Nat)) (hc : X.calm = true) (hN : X.N.Nodup) (hi : DI X W Γ tg iter (fun xs => xs.map ei) mi)
    (hg : ∀ s H C cl fp x, DGc (blkX X scope s H C cl fp) (own.map (·.2)) (wipeΓ Γ (own.map (·.2))) tg (put x) (ei x))
    (ht : ∀ s H C cl fp x, DTs (blkX X scope s H C cl fp) (put x) ifs (cf x)) (he : ∀ s H C cl fp x, DF (blkX X scope s H C cl fp) wNo (put x) elt et (f x)) (hw : Wk Γe Γ)
    (ok : blkC X.N X.env.scope scope own = true := by decide +kernel) (hs : ∀ x, foldedSetIterable iter X.env x = pure x := by intro _; rfl)
    (hy : X.N[i]? = some n := by rfl) (hyl : X.env.scope.names.lookup n = some .local := by rfl) (hl : Nat.blt i Γ.length = true := by rfl) (hsw : swapsWith (.ListComp elt [⟨tg, iter, ifs, 0⟩] scope pos) (some (.Name n py)) pos.line X.env = pure true := by exact sw_true rfl rfl rfl (by decide +kernel)) :
    St1 X W Γe Γ (.Assign [.Name n py] (.ListComp elt [⟨tg, iter, ifs, 0⟩] scope pos) pos) (fun ys => .n (Γ.set i (.ow (.lst (ys.map et))))) (mi >>= fun xs => compR cf f xs) :=
  smk ⟨_, ps_setLc (own := own) (i := i) (g := fun v σ H Q => ∀ s Hh C cl fp, wG (blkX X scope s Hh C cl fp) tg v σ H Q) (tt := fun σ H Q => ∀ s Hh C cl fp, wTs (blkX X scope s Hh C cl fp) ifs σ H Q) (te := fun σ H Q => ∀ s Hh C cl fp, wE (blkX X scope s Hh C cl fp) elt σ H Q) hc hN hy hyl hsw (pi_w X iter tg) (blkOk_by ok)
    (fun s Hh C cl fp => ⟨fun pins sh σ H v u Q I r h => h s Hh C cl fp pins sh u I r⟩) (fun s Hh C cl fp => ⟨fun pins sh σ H Q I h => h s Hh C cl fp pins sh I⟩) (fun s Hh C cl fp => ⟨fun pins sh σ H Q I h => h s Hh C cl fp pins sh I⟩) hs,
    fun F M0 M H σ D st po => lc_reads (put := put) (E := fun c => ∀ M' H', Gr M H M' H' → Er X.G W c σ H') (Q := fun x H1 => gName i x σ H1 D.nx) st (fun R po => hi F M0 M H σ R st po)
      (fun x F M0 M H σ' v Q s e r q s0 Hh C cl fp => hg s0 Hh C cl fp x F M0 M H σ' v Q s r fun σ2 s2 e2 => q M H σ2 (.refl s.mh) s2 (by rw [e2, e, wipe_idem]))
      (fun x F M0 M H σ' Q s po s0 Hh C cl fp => by
        obtain ⟨tt, pt, qt⟩ := ht s0 Hh C cl fp x
        exact fun pins sh I => pt.run pins sh σ' H Q I (qt F M0 M H σ' Q s po))
      (fun x F M0 M H σ' Q s po s0 Hh C cl fp => he s0 Hh C cl fp x F M0 M H σ' Q s (po.imp (fun _ _ k => k) fun _ z => z.elim))
      (po.imp (fun ys _ k v M' H' as g o nd fr => Kn.nx k _ rfl M' H' _ (st.put g o nd fr (Nat.le_of_ble_eq_true hl))) fun c z => er_wk st hw z)⟩
end
end Cn
/-! Cn7: equality of data, isinstance, exceptions, the end -/
namespace Cn
open PySem PySem.Spec L2
mutual
def toPy : D → PyData
  | .any => .dict []
  | .non => .none
  | .bl b => .bool b
  | .int i => .int i
  | .str s => .str s
  | .tup ds => .tuple (toPys ds)
  | .lst ds => .list (toPys ds)
  | .frl ds => .list (toPys ds)
  | .dic _ _ => .dict []
  | .dit _ _ => .dict []
  | .obj _ _ _ => .dict []
def toPys : List D → List PyData
  | [] => []
  | d :: ds => toPy d :: toPys ds
end
section
variable {G : Ctx} {M H : Hp}
mutual
theorem Rep.dp (mh : Same M H) : ∀ (d : D) (v : V), PyData.canLay0 (toPy d) = true → Rep G M d v → Dp G.K H v (toPy d)
  | .any, v, h, r => nomatch h
  | .non, v, h, r => by rw [show v = .non from r]; exact .non
  | .bl b, v, h, r => by rw [show v = .bl b from r]; exact .bl b
  | .int b, v, h, r => by rw [show v = .int b from r]; exact .int b
  | .str b, v, h, r => by rw [show v = .str b from r]; exact .str b
  | .tup ds, v, h, ⟨a, vs, h1, h2, h3⟩ => by rw [h1]; exact .tup (same_sqt mh h2) (Reps.dp mh ds vs h h3)
  | .lst ds, v, h, ⟨a, vs, h1, h2, h3⟩ => by rw [h1]; exact .lst (.of (mh _ _ h2)) (Reps.dp mh ds vs h h3)
  | .frl ds, v, h, ⟨a, vs, h1, h2, h3⟩ => by rw [h1]; exact .lst (mh.seq h2) (Reps.dp mh ds vs h h3)
  | .dic _ _, v, h, r => nomatch h
  | .dit _ _, v, h, r => nomatch h
  | .obj _ _ _, v, h, r => nomatch h
theorem Reps.dp (mh : Same M H) : ∀ (ds : List D) (vs : List V), PyData.canLayAll0 (toPys ds) = true → Reps G M ds vs → DpAll G.K H vs (toPys ds)
  | [], vs, h, r => by rw [show vs = [] from r]; exact .nil
  | d :: ds, vs, h, ⟨v, r, h1, h2, h3⟩ => by
    rw [h1]
    have h : (PyData.canLay0 (toPy d) && PyData.canLayAll0 (toPys ds)) = true := h
    rw [Bool.and_eq_true] at h
    exact .cons (Rep.dp mh d v h.1 h2) (Reps.dp mh ds r h.2 h3)
end
end
def eqO (d e : D) : Option Bool := if SeqAt.shaped (toPy d) && SeqAt.shaped (toPy e) then some (PyData.eqv (toPy d) (toPy e)) else none
def neO (d e : D) : Option Bool := (eqO d e).map (!·)
section
variable {X : Cx} {W : WX} {Γe Γ Γt : List Sl} {a b e c tg elt iter : Expr} {es : List Expr} {α β γ ω ω1 : Type} {pos : Pos} {s : Stmt} {rest ss A B : List Stmt}
/-- a value that is compared as data -/
def DE (X : Cx) (W : WX) (Γ : List Sl) (e : Expr) {α : Type} (emb : α → D) (m : R α) : Prop :=
  ∀ F M0 M H σ Q, S X.G F M0 M H σ Γ → Po m (fun x => ∀ v M' H', Gr M H M' H' → (∀ H'', Same H' H'' → PyData.canLay0 (toPy (emb x)) = true → Dp X.K H'' v (toPy (emb x))) → Q v H') (fun c => ∀ M' H', Gr M H M' H' → Er X.G W c σ H') → wE X e σ H Q
theorem de_dd {emb : α → D} {m : R α} (h : DD X W Γ e emb m) : DE X W Γ e emb m := fun F M0 M H σ Q s po => h F M0 M H σ Q s (po.imp (fun x _ k v M' H' g r => k v M' H' g fun H'' s2 c => Rep.dp (G := X.G) (g.mh.trans s2) _ _ c r) fun _ z => z)
theorem de_dl {ei : β → D} {m : R (List β)} (h : DL X W Γ e (fun xs => xs.map ei) m) : DE X W Γ e (fun xs => .lst (xs.map ei)) m := fun F M0 M H σ Q s po => h F M0 M H σ Q s (po.imp (fun x _ k a vs M' H' g hl r => k _ M' H' g fun H'' s2 c => .lst (s2.seq hl) (Reps.dp (G := X.G) (g.mh.trans s2) _ _ c r)) fun _ z => z)
theorem eqO_some {d e : D} {k : Bool} (h : eqO d e = some k) : SeqAt.shaped (toPy d) = true ∧ SeqAt.shaped (toPy e) = true ∧ k = PyData.eqv (toPy d) (toPy e) := by
  unfold eqO at h
  cases c : (SeqAt.shaped (toPy d) && SeqAt.shaped (toPy e)) with
  | false => rw [c] at h; cases h
  | true =>
    rw [c] at h
    rw [Bool.and_eq_true] at c
    exact ⟨c.1, c.2, (Option.some.inj h).symm⟩
theorem two_eq {neg : Bool} {r : R2} {ea : α → D} {eb : β → D} {ma : R α} {mb : R β} {F M0 M H : Hp} {σ : St} {Q : VK} (hr : ∀ x y d e H Q, Dp X.K H x d → Dp X.K H y e → SeqAt.shaped d = true → SeqAt.shaped e = true → Q (.bl (neg != PyData.eqv d e)) H → r x y H Q) (ha : DE X W Γ a ea ma) (hb : DE X W Γ b eb mb) (s : S X.G F M0 M H σ Γ)
    (po : Po (ma >>= fun x => mb >>= fun y => ofO ((eqO (ea x) (eb y)).map (neg != ·))) (fun x => WD X.G M H (.bl x) Q) (fun c => ∀ M' H', Gr M H M' H' → Er X.G W c σ H')) : tOp r (wE X a) (wE X b) σ H Q := by
  refine ha F M0 M H σ _ s (po.bind.imp (fun x _ k v M1 H1 g1 p1 => ?_) fun _ z => z)
  refine hb F M0 M1 H1 σ _ (s.grow g1) (k.bind.imp (fun y _ k w M2 H2 g2 p2 => ?_) fun c z M' H' g => z M' H' (g1.trans g))
  obtain ⟨z, e, k⟩ := k.ofO
  cases q : eqO (ea x) (eb y) with
  | none => rw [q] at e; cases e
  | some k' =>
    rw [q] at e
    cases e
    obtain ⟨s1, s2, rfl⟩ := eqO_some q
    exact hr v w _ _ H2 _ (p1 H2 g2.hh (SeqAt.canLay_of_shaped s1)) (p2 H2 (.refl _) (SeqAt.canLay_of_shaped s2)) s1 s2 (k _ M2 H2 (g1.trans g2) rfl)
theorem dd_eq {ea : α → D} {eb : β → D} {ma : R α} {mb : R β} (hu : X.A.units + 64 < cLine) (ha : DE X W Γ a ea ma) (hb : DE X W Γ b eb mb) : DD X W Γ (.Compare a [.Eq] [b] pos) D.bl (ma >>= fun x => mb >>= fun y => ofO ((eqO (ea x) (eb y)).map (false != ·))) :=
  dmk ⟨_, pe_cmpR (op_eqD hu) (pe_w X a) (pe_w X b) (nomark _), fun F M0 M H σ Q s po => two_eq (neg := false) (fun x y d e H Q h1 h2 h3 h4 q => ⟨d, e, h1, h2, h3, h4, by rw [Bool.false_bne] at q; exact q⟩) ha hb s po⟩
theorem dd_ne {ea : α → D} {eb : β → D} {ma : R α} {mb : R β} (hu : X.A.units + 64 < cLine) (ha : DE X W Γ a ea ma) (hb : DE X W Γ b eb mb) : DD X W Γ (.Compare a [.NotEq] [b] pos) D.bl (ma >>= fun x => mb >>= fun y => ofO ((eqO (ea x) (eb y)).map (true != ·))) :=
  dmk ⟨_, pe_cmpR (op_neD hu) (pe_w X a) (pe_w X b) (nomark _), fun F M0 M H σ Q s po => two_eq (neg := true) (fun x y d e H Q h1 h2 h3 h4 q => ⟨d, e, h1, h2, h3, h4, by rw [Bool.true_bne] at q; exact q⟩) ha hb s po⟩
theorem dt_eq {ea : α → D} {eb : β → D} {ma : R α} {mb : R β} (hu : X.A.units + 64 < cLine) (ha : DE X W Γ a ea ma) (hb : DE X W Γ b eb mb) : DT X W Γ (.Compare a [.Eq] [b] pos) (ma >>= fun x => mb >>= fun y => ofO ((eqO (ea x) (eb y)).map (false != ·))) :=
  tmk ⟨_, pt_cmpR (op_eqD hu) (pe_w X a) (pe_w X b) (nomark _), fun F M0 M H σ Q s po => two_eq (neg := false) (fun x y d e H Q h1 h2 h3 h4 q => ⟨d, e, h1, h2, h3, h4, by rw [Bool.false_bne] at q; exact q⟩) ha hb s (po.imp (fun x _ k v M' H' g q => ⟨x, q, k M' H' g⟩) fun _ z => z)⟩
theorem dt_ne {ea : α → D} {eb : β → D} {ma : R α} {mb : R β} (hu : X.A.units + 64 < cLine) (ha : DE X W Γ a ea ma) (hb : DE X W Γ b eb mb) : DT X W Γ (.Compare a [.NotEq] [b] pos) (ma >>= fun x => mb >>= fun y => ofO ((eqO (ea x) (eb y)).map (true != ·))) :=
  tmk ⟨_, pt_cmpR (op_neD hu) (pe_w X a) (pe_w X b) (nomark _), fun F M0 M H σ Q s po => two_eq (neg := true) (fun x y d e H Q h1 h2 h3 h4 q => ⟨d, e, h1, h2, h3, h4, by rw [Bool.true_bne] at q; exact q⟩) ha hb s (po.imp (fun x _ k v M' H' g q => ⟨x, q, k M' H' g⟩) fun _ z => z)⟩
/-! ### isinstance of data -/
def tyD : D → Option String
  | .non => some "NoneType"
  | .bl _ => some "bool"
  | .int _ => some "int"
  | .str _ => some "str"
  | .tup _ => some "tuple"
  | .lst _ => some "list"
  | .frl _ => some "list"
  | .dic _ _ => some "dict"
  | .dit _ _ => some "dict"
  | _ => none
theorem tyX_of {G : Ctx} {M H : Hp} {d : D} {v : V} {t : String} (mh : Same M H) (r : Rep G M d v) (h : tyD d = some t) : TyX G.K H v (.type t) := by
  cases d with
  | any => cases h
  | non => cases h; rw [show v = .non from r]; exact .base .non
  | bl b => cases h; rw [show v = .bl b from r]; exact .base (.bl b)
  | int b => cases h; rw [show v = .int b from r]; exact .base (.int b)
  | str b => cases h; rw [show v = .str b from r]; exact .base (.str b)
  | tup ds =>
    cases h
    obtain ⟨a, vs, rfl, h2, h3⟩ := r
    rcases h2 with (h2 | ⟨o, h2⟩) | ⟨o, its, n, k, c, _⟩
    · exact .base (.tup (mh _ _ h2))
    · exact .fTuple (mh _ _ h2)
    · exact .kTuple k c
  | lst ds =>
    cases h
    obtain ⟨a, vs, rfl, h2, h3⟩ := r
    exact .base (.lst (mh _ _ h2))
  | frl ds =>
    cases h
    obtain ⟨a, vs, rfl, h2, h3⟩ := r
    rcases h2 with (h2 | ⟨o, h2⟩) | ⟨o, its, n, k, c, _⟩
    · exact .base (.lst (mh _ _ h2))
    · exact .base (.frz (mh _ _ h2))
    · exact .kList k c
  | dic ks ds =>
    cases h
    obtain ⟨a, vs, rfl, h2, h3⟩ := r
    exact .base (.dK (mh _ _ h2))
  | dit ks ds =>
    cases h
    obtain ⟨a, vs, rfl, h2, h3⟩ := r
    exact .base (.dT (mh _ _ h2))
  | obj C fs ds => cases h
theorem dd_isi {emb : α → D} {m : R α} {n : Str} {t u : String} {k : Bool} {p p2 : Pos} (h : DD X W Γ e emb m) (hm : X.mg "isinstance" = none) (hn : X.mg n = none) (hv : bootBuiltins n = some (.type u)) (ht : ∀ x, tyD (emb x) = some t) (hk : kitB t u = some k) (hg : Gl X "isinstance" := by rfl) (hgn : Gl X n := by rfl)
    (hnn : n ≠ "__name__" := by decide) (hd : (n == ("__debug__" : Str)) = false := by decide) (hs : starEach [e, .Name n p2] X.env = (false, eval e X.env) :: starEach [.Name n p2] X.env := by rfl) (hs2 : starEach [Expr.Name n p2] X.env = (false, eval (.Name n p2) X.env) :: starEach [] X.env := by rfl) (hpl : (backTo pos (starEach [Expr.Name n p2] X.env)).any (·.1) = false := by rfl) :
    DD X W Γ (.Call (.Name "isinstance" p) [e, .Name n p2] [] pos) D.bl (m >>= fun _ => .ok k) :=
  dmk ⟨_, pe_callB call_isi hg hm (by decide +kernel) (pa_cons (pe_w X e) (pa_cons (pe_bltn (v := .ty u) hgn hn hv rfl hnn hd) pa_nil (hs := hs2)) (hs := hs)) (he := hs) (hpl := hpl), fun F M0 M H σ Q s po => h F M0 M H σ _ s (po.bind.imp (fun x _ q v M1 H1 g1 r1 =>
    ⟨v, .ty u, .type t, .type u, k, rfl, .ty u, tyX_of (G := X.G) g1.mh r1 (ht x), kit_ty hk, q _ M1 H1 g1 rfl⟩) fun _ z => z)⟩
/-! ### exceptions -/
structure XcF (K : PySem.W.Frag) (mg : Str → Option Value) (c : Str) (C : Addr) : Prop where
  g : mg c = some (.ref C)
  x : PySem.W.excIn K C [.type "ValueError", .type "Exception", .type "BaseException", .type "object"] "ValueError.__new__" = true
  k : PySem.W.keepIn K (.ref C) = true
  b : PySem.W.subIn K (.ref C) (.type "BaseException") = some true
  t : PySem.W.typeIn K (.ref C) = some (.type "type")
theorem bk_raise {n m : Str} {C : Addr} {j : Nat} {p p2 pos2 : Pos} {κ : ω → Kd} (f : XcF X.K X.mg n C) (hc : X.calm = true) (tk : Takes X W) (hw : Wk Γe Γ) (hg : Gl X n := by rfl) (hd : (n == ("__debug__" : Str)) = false := by decide) :
    Bk X W Γe Γ (.Raise (some (.Call (.Name n p) [.Constant (.str m) j p2] [] pos)) none pos2 :: rest) κ (.err n) :=
  bmk ⟨_, pss_cons (ps_raise hc tk (pmk_own PySem.F.excBase_ValueError f.x f.g f.k (raises_own f.b f.t) hg hd)) (pss_w X rest), fun F M0 M H σ D s po => (po : ∀ M' H' σ', S X.G F M0 M' H' σ' Γe → Er X.G W n σ' H') M H σ (s.wk hw) C f.g⟩
def catchR {ω : Type} (tbl : Str → Option Bool) (m : R ω) (h : Str → R ω) : R ω :=
  match m with
  | .err c => match tbl c with
    | none => .bad
    | some true => noErr (h c)
    | some false => .err c
  | m => m
theorem st_try {x : Str} {cv : Value} {tbl : Str → Option Bool} {mb : R ω} {hm : Str → R ω} {κ : ω → Kd} {b₀ : Stmt} {suite : List Stmt} {np pos' : Pos} (hc : Names X x cv) (tk : Takes X W)
    (hb : ∀ (W' : WX) (pn : List (Addr × Obj)) (xe : Value → Shared → Prop), Takes (X.tr pn xe) W' → PassesOwn (model X.prog X.w) X.A X.env xe → Bk (X.tr pn xe) W' Γt Γ A κ mb)
    (ht : ∀ k b a, tbl k = some b → X.mg k = some (.ref a) → PySem.W.exmOne X.K (.ref a) cv = some b)
    (hsu : ∀ k D, tbl k = some true → X.mg k = some (.ref D) → ∀ (a : Addr) (oe : Obj) (pn : List (Addr × Obj)), Zc (.ref D) none oe → (∃ vs, oe.data = .fields vs) → Bk (X.suite a ((a, oe) :: pn)) wNo Γe Γt (b₀ :: suite) κ (hm k)) (hw : Wk Γe Γt)
    (hs : X.stack = X.env :: X.outer := by rfl) (hf : X.env.frame = some X.env.locals := by rfl) :
    St1 X W Γe Γ (.Try A [.ExceptHandler (some (.Name x np)) none (b₀ :: suite) pos'] [] [] pos) κ (catchR tbl mb hm) :=
  smk ⟨_, ps_try_only (tb := fun W' D σ H => ∀ pn xe, Takes (X.tr pn xe) W' → PassesOwn (model X.prog X.w) X.A X.env xe → wSs (X.tr pn xe) A D σ H) (ts := fun a cls d D σ H => ∀ oe pn, Zc cls d oe → (∃ vs, oe.data = .fields vs) → wSs (X.suite a ((a, oe) :: pn)) (b₀ :: suite) D σ H) (Wout := W) hs hf hc tk
      (fun W' pn xe t p => ⟨fun pins s σ H D I h => h pn xe t p pins s I⟩) (fun a oe cls d pn z v => ⟨fun pins s σ H D I h => h oe pn z v pins s I⟩), fun F M0 M H σ D st po pn xe t p => by
    refine hb _ pn xe t p F M0 M H σ D st ?_
    cases mb with
    | bad => exact po
    | ok o => exact po
    | err k =>
      show ∀ M' H' σ', S X.G F M0 M' H' σ' Γt → Er X.G _ k σ' H'
      intro M' H' σ' st' a ha
      have po : Po (match tbl k with
        | none => R.bad
        | some true => noErr (hm k)
        | some false => R.err k) _ _ := po
      cases e : tbl k with
      | none => rw [e] at po; exact po.elim
      | some b =>
        rw [e] at po
        refine ⟨b, ht k b a e ha, fun eb a' na oe pn z v => ?_, fun eb => ?_⟩
        · subst eb
          exact hsu k a e ha a' oe pn z v F M0 M' H' σ' D st' ((Po.noErr po).imp (fun _ _ q => q) fun _ z => z.elim)
        · subst eb
          exact (po : ∀ M' H' σ', S X.G F M0 M' H' σ' Γe → Er X.G W k σ' H') M' H' σ' (st'.wk hw) a ha⟩
/-- .. except X as n: slot i is n's -/
theorem S.pin {G : Ctx} {F M0 M H : Hp} {σ : St} {v : V} {i : Nat} (s : S G F M0 M H σ Γ) (hi : i < Γ.length) : S G F M0 M H (σ.set i (some v)) (Γ.set i (.pn v (.imm .any))) := by
  obtain ⟨as, f, sa⟩ := s
  obtain ⟨bs, sb, sub⟩ : ∃ bs, Sat G M H (Γ.set i (.pn v (.imm .any))) (σ.set i (some v)) bs ∧ bs.Sublist as := by
    clear f
    induction Γ generalizing σ as i with
    | nil => exact absurd hi (Nat.not_lt_zero _)
    | cons x Γ ih =>
      cases i with
      | zero =>
        cases x with
        | un => obtain ⟨x, r, h1, h2⟩ := sa; rw [h1]; exact ⟨as, ⟨r, [], as, rfl, rfl, ⟨rfl, trivial⟩, h2⟩, .refl _⟩
        | ow t => obtain ⟨w, r, a1, a2, h1, h2, h3, h4⟩ := sa; rw [h1]; exact ⟨a2, ⟨r, [], a2, rfl, rfl, ⟨rfl, trivial⟩, h4⟩, by rw [h2]; exact List.sublist_append_right _ _⟩
        | pn w t => obtain ⟨r, a1, a2, h1, h2, h3, h4⟩ := sa; rw [h1]; exact ⟨a2, ⟨r, [], a2, rfl, rfl, ⟨rfl, trivial⟩, h4⟩, by rw [h2]; exact List.sublist_append_right _ _⟩
      | succ i =>
        have hi' := Nat.lt_of_succ_lt_succ hi
        cases x with
        | un =>
          obtain ⟨x, r, h1, h2⟩ := sa
          obtain ⟨bs, q1, q2⟩ := ih (i := i) (as := as) (σ := r) hi' h2
          rw [h1]; exact ⟨bs, ⟨x, _, rfl, q1⟩, q2⟩
        | ow t =>
          obtain ⟨w, r, a1, a2, h1, h2, h3, h4⟩ := sa
          obtain ⟨bs, q1, q2⟩ := ih (i := i) (as := a2) (σ := r) hi' h4
          rw [h1]; exact ⟨a1 ++ bs, ⟨w, _, a1, bs, rfl, rfl, h3, q1⟩, by rw [h2]; exact List.Sublist.append_left q2 a1⟩
        | pn w t =>
          obtain ⟨r, a1, a2, h1, h2, h3, h4⟩ := sa
          obtain ⟨bs, q1, q2⟩ := ih (i := i) (as := a2) (σ := r) hi' h4
          rw [h1]; exact ⟨a1 ++ bs, ⟨_, a1, bs, rfl, rfl, h3, q1⟩, by rw [h2]; exact List.Sublist.append_left q2 a1⟩
  exact ⟨bs, f.sub sub, sb⟩
theorem S.unset {G : Ctx} {F M0 M H : Hp} {σ : St} {i : Nat} (s : S G F M0 M H σ Γ) : S G F M0 M H (σ.set i none) (Γ.set i .un) := by
  obtain ⟨as, f, sa⟩ := s
  obtain ⟨bs, sb, sub⟩ := Sat.unset (i := i) sa
  exact ⟨bs, f.sub sub, sb⟩
/-- the ends of a suite: slot i is empty behind it -/
def kUn (i : Nat) (k : Kd) : Kd := { nx := k.nx, rt := k.rt, bk := k.bk, ct := k.ct }
theorem st_tryAs {x n : Str} {cv : Value} {tbl : Str → Option Bool} {mb : R ω} {hm : Str → R ω} {κ : ω → Kd} {b₀ : Stmt} {suite : List Stmt} {np pos' : Pos} (i : Nat) (hN : X.N.Nodup) (hc : Names X x cv) (tk : Takes X W)
    (hb : ∀ (W' : WX) (pn : List (Addr × Obj)) (xe : Value → Shared → Prop), Takes (X.tr pn xe) W' → PassesOwn (model X.prog X.w) X.A X.env xe → Bk (X.tr pn xe) W' Γt Γ A κ mb)
    (ht : ∀ k b a, tbl k = some b → X.mg k = some (.ref a) → PySem.W.exmOne X.K (.ref a) cv = some b)
    (hsu : ∀ k D, tbl k = some true → X.mg k = some (.ref D) → ∀ (a : Addr) (oe : Obj) (pn : List (Addr × Obj)), Zc (.ref D) none oe → (∃ vs, oe.data = .fields vs) → Bk (X.suite a ((a, oe) :: pn)) wNo Γe (Γt.set i (.pn (.ref a) (.imm .any))) (b₀ :: suite) (fun o => (κ o).rr) (hm k)) (hw : Wk Γe Γt) (hl : Nat.blt i Γt.length = true := by rfl)
    (hi : X.N[i]? = some n := by rfl) (hln : X.env.kindOf n = some .local := by rfl)
    (hs : X.stack = X.env :: X.outer := by rfl) (hf : X.env.frame = some X.env.locals := by rfl) :
    St1 X W Γe Γ (.Try A [.ExceptHandler (some (.Name x np)) (some n) (b₀ :: suite) pos'] [] [] pos) κ (catchR tbl mb hm) :=
  smk ⟨_, ps_try_as (i := i) (tb := fun W' D σ H => ∀ pn xe, Takes (X.tr pn xe) W' → PassesOwn (model X.prog X.w) X.A X.env xe → wSs (X.tr pn xe) A D σ H) (ts := fun a cls d D σ H => ∀ oe pn, Zc cls d oe → (∃ vs, oe.data = .fields vs) → wSs (X.suite a ((a, oe) :: pn)) (b₀ :: suite) D σ H) (Wout := W) hs hf hN hi hln hc tk
      (fun W' pn xe t p => ⟨fun pins s σ H D I h => h pn xe t p pins s I⟩) (fun a oe cls d pn z v => ⟨fun pins s σ H D I h => h oe pn z v pins s I⟩), fun F M0 M H σ D st po pn xe t p => by
    refine hb _ pn xe t p F M0 M H σ D st ?_
    cases mb with
    | bad => exact po
    | ok o => exact po
    | err k =>
      show ∀ M' H' σ', S X.G F M0 M' H' σ' Γt → Er X.G _ k σ' H'
      intro M' H' σ' st' a ha
      have po : Po (match tbl k with
        | none => R.bad
        | some true => noErr (hm k)
        | some false => R.err k) _ _ := po
      cases e : tbl k with
      | none => rw [e] at po; exact po.elim
      | some b =>
        rw [e] at po
        refine ⟨b, ht k b a e ha, fun eb a' na oe pn z v => ?_, fun eb => ?_⟩
        · subst eb
          exact hsu k a e ha a' oe pn z v F M0 M' H' _ _ (st'.pin (Nat.le_of_ble_eq_true hl)) ((Po.noErr po).imp (fun _ _ q => ⟨fun Γ e => (nomatch e), fun t Γ e => q.rt t Γ e, fun Γ e => (nomatch e), fun Γ e => (nomatch e)⟩) fun _ z => z.elim)
        · subst eb
          exact (po : ∀ M' H' σ', S X.G F M0 M' H' σ' Γe → Er X.G W k σ' H') M' H' σ' (st'.wk hw) a ha⟩
/-- isinstance(e, C) of the caught exception -/
theorem dd_isE {n cn : Str} {a D : Addr} {oe : Obj} {pn : List (Addr × Obj)} {cv : Value} {cV : V} {k : Bool} {p p1 p2 : Pos} (i : Nat) (h : Γ[i]? = some (.pn (.ref a) (.imm .any))) (C : ExcC X.K D) (hz : Zc (.ref D) none oe) (hf : ∃ vs, oe.data = .fields vs) (hm : X.mg "isinstance" = none)
    (hcl : PE (X.suite a ((a, oe) :: pn)) (.Name cn p2) (tC cV)) (hcv : ∀ u, RelV cV u → u = cv) (hk : PySem.W.kitOne X.K (.ref D) cv = some k) (hN : X.N[i]? = some n := by rfl) (hv : Vis X.env.scope n := by first | exact Or.inl rfl | exact Or.inr (Or.inl rfl) | exact Or.inr (Or.inr rfl))
    (hd : (n == ("__debug__" : Str)) = false := by decide) (hcd : (n == ("__classdict__" : Str)) = false := by decide) (hg : Gl X "isinstance" := by rfl)
    (hs : starEach [.Name n p1, .Name cn p2] X.env = (false, eval (.Name n p1) X.env) :: starEach [.Name cn p2] X.env := by rfl) (hs2 : starEach [Expr.Name cn p2] X.env = (false, eval (.Name cn p2) X.env) :: starEach [] X.env := by rfl) (hpl : (backTo pos (starEach [Expr.Name cn p2] X.env)).any (·.1) = false := by rfl) :
    DD (X.suite a ((a, oe) :: pn)) W Γ (.Call (.Name "isinstance" p) [.Name n p1, .Name cn p2] [] pos) Cn.D.bl (.ok k) :=
  dmk (X := X.suite a ((a, oe) :: pn)) ⟨_, pe_callB (X := X.suite a ((a, oe) :: pn)) (call_isE C hz hf) hg hm (by decide +kernel) (pa_cons (X := X.suite a ((a, oe) :: pn)) (pe_var (X := X.suite a ((a, oe) :: pn)) hN hv hd hcd) (pa_cons (X := X.suite a ((a, oe) :: pn)) hcl pa_nil (hs := hs2)) (hs := hs)) (he := hs) (hpl := hpl), fun F M0 M H σ Q s po => by
    obtain ⟨as, f, sa⟩ := id s
    obtain ⟨q1, _⟩ := Sat.getP sa h
    exact ⟨_, q1, cV, cv, k, rfl, hcv, hk, po _ M H (.refl s.mh) rfl⟩⟩
end
/-! ### the end of a law -/
/-- what a law asks: a list of at most 63 ints is handed in, True comes out -/
def spLaw (K : PySem.W.Frag) : Sp := fun vs H Q _ => ∃ (a : Addr) (ns : List Int), vs = [.ref a] ∧ SqL K H a (ns.map V.int) ∧ ns.length ≤ 63 ∧ ∀ H', Q (.bl true) H'
theorem law_of {P : Program} {w : World} {K : PySem.W.Frag} {mg : Str → Option Value} {base : Heap} {k : Nat} {f : Addr} {fd : FuncData} {ps : List Str} {g : List Int → R Bool} (h : ∀ ns : List Int, ns.length ≤ 63 → g ns = .ok true)
    (F : FnOk P w K mg base (L2.CX P w) k f fd ps (SpF ⟨K, mg⟩ (fun p : List Int × Unit => [D.frl (p.1.map D.int)]) (fun b => .imm (.bl b)) fun p => g p.1)) : FnOk P w K mg base (L2.CX P w) k f fd ps (spLaw K) := by
  refine F.imp fun vs H Q E ⟨a, ns, e1, e2, e3, q⟩ => ?_
  subst e1
  refine ⟨(ns, ()), H, .refl _, ⟨_, [], rfl, ⟨a, _, rfl, e2, ints_reps ns⟩, rfl⟩, ?_⟩
  show Po (g ns) _ _
  rw [h ns e3]
  intro v M' H' as gr o nd fr
  rw [show v = .bl true from o.2]
  exact q H'
theorem cx_false {P : Program} {w : World} {H : Hp} {s : Shared} {e : Value} {s' : Shared} (h : L2.CX P w [] H s (fun _ _ _ => False) e s') : False := by
  obtain ⟨_, _, _, _, _, _, _, _, _, _, _, _, z⟩ := h
  exact z
end Cn
/-! Cn8: what the printed proofs ask besides -/
namespace Cn
open PySem PySem.Spec L2
def eOpt {α : Type} (e : α → D) : Option α → D
  | none => .non
  | some x => e x
def unp2 {α : Type} : List α → Option (α × α)
  | [a, b] => some (a, b)
  | _ => none
def unp3 {α : Type} : List α → Option (α × α × α)
  | [a, b, c] => some (a, b, c)
  | _ => none
def unp4 {α : Type} : List α → Option (α × α × α × α)
  | [a, b, c, d] => some (a, b, c, d)
  | _ => none
section
variable {X : Cx} {W : WX} {Γe Γ Γt : List Sl} {a b e c tg elt iter : Expr} {es : List Expr} {α β γ ω ω1 : Type} {pos : Pos} {s : Stmt} {rest ss A B : List Stmt}
/-- the same data, said otherwise -/
theorem dd_co {emb : α → D} {emb' : β → D} {m : R α} (h : DD X W Γ e emb m) (g : α → β) (he : ∀ x, emb x = emb' (g x) := by intro _; rfl) : DD X W Γ e emb' (m >>= fun x => .ok (g x)) := fun F M0 M H σ Q s po => h F M0 M H σ Q s (po.bind.imp (fun x _ k v M' H' g r => k v M' H' g (by rw [← he]; exact r)) fun _ z => z)
theorem dd_coO {emb : α → D} {emb' : β → D} {m : R α} (h : DD X W Γ e emb m) (g : α → Option β) (he : ∀ x y, g x = some y → emb x = emb' y) : DD X W Γ e emb' (m >>= fun x => ofO (g x)) := fun F M0 M H σ Q s po => h F M0 M H σ Q s (po.bind.imp (fun x _ k v M' H' gr r => by
  obtain ⟨z, e, k⟩ := k.ofO
  exact k v M' H' gr (by rw [← he x z e]; exact r)) fun _ z => z)
theorem unp2_some {xs : List α} {y} (h : unp2 xs = some y) : xs = [y.1, y.2] := by
  match xs, h with
  | [a, b], h => cases h; rfl
theorem unp3_some {xs : List α} {y} (h : unp3 xs = some y) : xs = [y.1, y.2.1, y.2.2] := by
  match xs, h with
  | [a, b, c], h => cases h; rfl
theorem unp4_some {xs : List α} {y} (h : unp4 xs = some y) : xs = [y.1, y.2.1, y.2.2.1, y.2.2.2] := by
  match xs, h with
  | [a, b, c, d], h => cases h; rfl
theorem dd_unp2L {ei : β → D} {m : R (List β)} (h : DD X W Γ e (fun xs => .lst (xs.map ei)) m) : DD X W Γ e (fun p : β × β => .lst [ei p.1, ei p.2]) (m >>= fun xs => ofO (unp2 xs)) := dd_coO h _ fun x y q => by rw [unp2_some q]; rfl
theorem dd_unp3L {ei : β → D} {m : R (List β)} (h : DD X W Γ e (fun xs => .lst (xs.map ei)) m) : DD X W Γ e (fun p : β × β × β => .lst [ei p.1, ei p.2.1, ei p.2.2]) (m >>= fun xs => ofO (unp3 xs)) := dd_coO h _ fun x y q => by rw [unp3_some q]; rfl
theorem dd_unp4L {ei : β → D} {m : R (List β)} (h : DD X W Γ e (fun xs => .lst (xs.map ei)) m) : DD X W Γ e (fun p : β × β × β × β => .lst [ei p.1, ei p.2.1, ei p.2.2.1, ei p.2.2.2]) (m >>= fun xs => ofO (unp4 xs)) := dd_coO h _ fun x y q => by rw [unp4_some q]; rfl
theorem dd_unp2T {ei : β → D} {m : R (List β)} (h : DD X W Γ e (fun xs => .tup (xs.map ei)) m) : DD X W Γ e (fun p : β × β => .tup [ei p.1, ei p.2]) (m >>= fun xs => ofO (unp2 xs)) := dd_coO h _ fun x y q => by rw [unp2_some q]; rfl
theorem dd_unp3T {ei : β → D} {m : R (List β)} (h : DD X W Γ e (fun xs => .tup (xs.map ei)) m) : DD X W Γ e (fun p : β × β × β => .tup [ei p.1, ei p.2.1, ei p.2.2]) (m >>= fun xs => ofO (unp3 xs)) := dd_coO h _ fun x y q => by rw [unp3_some q]; rfl
/-- a statement that leaves by returns alone, among others -/
theorem st_rr {f : ω1 → Kd} {κ : ω → Kd} {m : R (ω1 ⊕ ω)} (h : St1 X W Γe Γ s (kSum f fun o => (κ o).rr) m) : St1 X W Γe Γ s (kSum f fun o => (κ o).ex) m := fun F M0 M H σ D st po => h F M0 M H σ D st (po.imp (fun o _ q => by
  cases o with
  | inl o => exact q
  | inr o => exact ⟨fun Γ e => (nomatch e), fun t Γ e => Kn.rt q t Γ e, fun Γ e => (nomatch e), fun Γ e => (nomatch e)⟩) fun _ z => z)
theorem dd_isNO {ei : β → D} {m : R (Option β)} {j p} (hne : ∀ x v (M : Hp), Rep X.G M (ei x) v → v ≠ .non) (h : DD X W Γ e (eOpt ei) m) : DD X W Γ (.Compare e [.Is] [.Constant .none j p] pos) D.bl (m >>= fun x => .ok x.isNone) :=
  dmk ⟨_, pe_cmpR op_isN (pe_w X e) pe_non (nomark _), fun F M0 M H σ Q s po => h F M0 M H σ _ s (po.bind.imp (fun x _ k v M1 H1 g1 r1 => ⟨rfl, k _ M1 H1 g1 (by
    cases x with
    | none => rw [show v = .non from r1]; rfl
    | some x => show V.bl _ = V.bl _; rw [decide_eq_false (hne x v M1 r1)]; rfl)⟩) fun _ z => z)⟩
end
/-! ### try by a list of the classes that may come, each with what the suite does -/
def catchL {ω : Type} (l : List (Str × Bool × R ω)) (m : R ω) : R ω := catchR (fun c => (l.lookup c).map (·.1)) m fun c => ((l.lookup c).map (·.2)).getD .bad
theorem lookup_mem {β : Type} : ∀ {l : List (Str × β)} {k : Str} {q : β}, l.lookup k = some q → (k, q) ∈ l
  | [], k, q, h => nomatch h
  | (a, b) :: l, k, q, h => by
    rw [List.lookup_cons] at h
    cases e : (k == a) with
    | true =>
      rw [e] at h
      have e2 : k = a := eq_of_beq e
      cases h
      rw [e2]
      exact List.mem_cons_self
    | false =>
      rw [e] at h
      exact List.mem_cons_of_mem _ (lookup_mem h)
theorem xm_at {K : PySem.W.Frag} {mg : Str → Option Value} {c : Str} {C : Addr} {cv : Value} {b : Bool} (hg : mg c = some (.ref C)) (hx : PySem.W.exmOne K (.ref C) cv = some b) : ∀ a, mg c = some (.ref a) → PySem.W.exmOne K (.ref a) cv = some b := fun a h => by
  rw [hg] at h; cases h; exact hx
section
variable {X : Cx} {W : WX} {Γe Γ Γt : List Sl} {ω : Type} {pos : Pos} {A : List Stmt}
theorem st_tryL {x : Str} {cv : Value} {l : List (Str × Bool × R ω)} {mb : R ω} {κ : ω → Kd} {b₀ : Stmt} {suite : List Stmt} {np pos' : Pos} (hc : Names X x cv) (tk : Takes X W)
    (hb : ∀ (W' : WX) (pn : List (Addr × Obj)) (xe : Value → Shared → Prop), Takes (X.tr pn xe) W' → PassesOwn (model X.prog X.w) X.A X.env xe → Bk (X.tr pn xe) W' Γt Γ A κ mb)
    (ht : ∀ p ∈ l, ∀ a, X.mg p.1 = some (.ref a) → PySem.W.exmOne X.K (.ref a) cv = some p.2.1)
    (hsu : ∀ p ∈ l, p.2.1 = true → ∀ D, X.mg p.1 = some (.ref D) → ∀ (a : Addr) (oe : Obj) (pn : List (Addr × Obj)), Zc (.ref D) none oe → (∃ vs, oe.data = .fields vs) → Bk (X.suite a ((a, oe) :: pn)) wNo Γe Γt (b₀ :: suite) κ p.2.2) (hw : Wk Γe Γt)
    (hs : X.stack = X.env :: X.outer := by rfl) (hf : X.env.frame = some X.env.locals := by rfl) :
    St1 X W Γe Γ (.Try A [.ExceptHandler (some (.Name x np)) none (b₀ :: suite) pos'] [] [] pos) κ (catchL l mb) :=
  st_try hc tk hb (fun k b a e g => by
    cases q : l.lookup k with
    | none => rw [q] at e; cases e
    | some v =>
      rw [q] at e
      cases e
      exact ht _ (lookup_mem q) a g) (fun k D e g a oe pn z v => by
    cases q : l.lookup k with
    | none => rw [q] at e; cases e
    | some v' =>
      rw [q] at e
      have e : v'.1 = true := Option.some.inj e
      exact hsu _ (lookup_mem q) e D g a oe pn z v) hw hs hf
theorem st_tryAsL {x n : Str} {cv : Value} {l : List (Str × Bool × R ω)} {mb : R ω} {κ : ω → Kd} {b₀ : Stmt} {suite : List Stmt} {np pos' : Pos} (i : Nat) (hN : X.N.Nodup) (hc : Names X x cv) (tk : Takes X W)
    (hb : ∀ (W' : WX) (pn : List (Addr × Obj)) (xe : Value → Shared → Prop), Takes (X.tr pn xe) W' → PassesOwn (model X.prog X.w) X.A X.env xe → Bk (X.tr pn xe) W' Γt Γ A κ mb)
    (ht : ∀ p ∈ l, ∀ a, X.mg p.1 = some (.ref a) → PySem.W.exmOne X.K (.ref a) cv = some p.2.1)
    (hsu : ∀ p ∈ l, p.2.1 = true → ∀ D, X.mg p.1 = some (.ref D) → ∀ (a : Addr) (oe : Obj) (pn : List (Addr × Obj)), Zc (.ref D) none oe → (∃ vs, oe.data = .fields vs) → Bk (X.suite a ((a, oe) :: pn)) wNo Γe (Γt.set i (.pn (.ref a) (.imm .any))) (b₀ :: suite) (fun o => (κ o).rr) p.2.2) (hw : Wk Γe Γt) (hl : Nat.blt i Γt.length = true := by rfl)
    (hi : X.N[i]? = some n := by rfl) (hln : X.env.kindOf n = some .local := by rfl)
    (hs : X.stack = X.env :: X.outer := by rfl) (hf : X.env.frame = some X.env.locals := by rfl) :
    St1 X W Γe Γ (.Try A [.ExceptHandler (some (.Name x np)) (some n) (b₀ :: suite) pos'] [] [] pos) κ (catchL l mb) :=
  st_tryAs i hN hc tk hb (fun k b a e g => by
    cases q : l.lookup k with
    | none => rw [q] at e; cases e
    | some v =>
      rw [q] at e
      cases e
      exact ht _ (lookup_mem q) a g) (fun k D e g a oe pn z v => by
    cases q : l.lookup k with
    | none => rw [q] at e; cases e
    | some v' =>
      rw [q] at e
      have e : v'.1 = true := Option.some.inj e
      exact hsu _ (lookup_mem q) e D g a oe pn z v) hw hl hi hln hs hf
end
section
variable {P : Program} {w : World} {K : PySem.W.Frag} {mg : Str → Option Value} {base : Heap}
/-- a def that falls off its end: it hands back None -/
theorem fn_pureN {x qual : Str} {st : Stmt} {f : Addr} {fd : FuncData} {N ps : List Str} {k : Nat} {α : Type} {args : α → List D} {g : α → R Unit} (F : Fun K x qual st f fd) (Sc : FnScope N ps (defScope st))
    (hl : ∀ a, (args a).length = ps.length)
    (hb : ∀ (cdv : Value) (A : Around) (outer : List Env) (s : Shared) (H : Hp) (E : XK), Room k (A.deeper (PyProof.Rows.envOfC qual (defScope st) s.heap.objs.size f cdv)) → ∀ a,
      Bk (cxOf (L2.CX P w) P w K mg base N qual (defScope st) f cdv A outer s H E) (fun cls d _ H => E cls d H) (List.replicate N.length .un) ((args a).map (fun d => .ow (.imm d)) ++ List.replicate (N.length - ps.length) .un) (defBody st) (kRetN (fun _ => .imm .non) N.length) (g a)) :
    FnOk P w K mg base (L2.CX P w) (k + 1) f fd ps (SpF ⟨K, mg⟩ args (fun _ => .imm .non) g) := by
  refine F.okX Sc (fun vs H Q E h => ?_) (fun cdv A outer s H vs Q E hr h => ?_)
  · obtain ⟨a, M, _, r, _⟩ := h
    rw [r.len, hl]
  · obtain ⟨a, M, mh, r, po⟩ := h
    refine ⟨_, pss_w _ _, hb cdv A outer s H E hr a H M M H _ _ ?_ ?_⟩
    · refine ⟨[], ⟨.refl _, .refl _, mh, fun _ z => .inl z, List.nodup_nil, (fun _ z => nomatch z), fun _ z => nomatch z⟩, ?_⟩
      have e : vs.length = ps.length := by rw [r.len, hl]
      unfold L2.start
      rw [e]
      exact Sat.app (as := []) (bs := []) r.sat (Sat.uns _)
    · refine po.imp (fun x _ q => ⟨fun Γ e M' H' σ st => ?_, fun t Γ e M' H' σ v st => ?_, fun Γ e => (nomatch e), fun Γ e => (nomatch e)⟩) fun c z M' H' σ' st C hC => z M' H' ⟨st.fh, st.rel.1, st.mh, st.rel.2⟩ C hC
      · exact q .non M' H' [] ⟨st.fh, st.rel.1, st.mh, st.rel.2⟩ ⟨rfl, rfl⟩ List.nodup_nil fun _ z => nomatch z
      · have e' : (T.imm .non, List.replicate N.length Sl.un) = (t, Γ) := Option.some.inj e
        obtain ⟨e1, e2⟩ := Prod.mk.inj e'
        subst e1; subst e2
        obtain ⟨as, f, ⟨v', r', a1, a2, z1, z2, z3, z4⟩⟩ := st
        obtain ⟨z5, z6⟩ := List.cons.inj z1
        cases z5
        subst z2
        have nd := f.nd
        rw [List.nodup_append] at nd
        exact q v M' H' a1 ⟨f.fh, f.mm, f.mh, f.nw⟩ z3 nd.1 fun b hb => ⟨f.fa b (List.mem_append_left _ hb), f.ma b (List.mem_append_left _ hb)⟩
end
end Cn
/-! Cn9: what the end of a law asks of the written part -/
namespace Cn
open PySem PySem.Spec L2
theorem kit_ref {K : PySem.W.Frag} {t : Value} {C : Addr} {b : Bool} (hd : PySem.W.hasDictIn K C = true) (ht : PySem.W.typeIn K (.ref C) = some (.type "type")) (hs : PySem.W.subIn K t (.ref C) = some b) (hne : ((t == .ref C) && !b) = false) : PySem.W.kitOne K t (.ref C) = some b := by
  unfold PySem.W.kitOne
  cases e : (t == Value.ref C) with
  | true =>
    rw [e] at hne
    cases b with
    | true => rfl
    | false => cases hne
  | false =>
    obtain ⟨cd, hc, _⟩ := PySem.W.any_some hd
    have e2 : ((PySem.W.clsIn K C).isSome && PySem.W.typeIn K (.ref C) == some (.type "type")) = true := by rw [hc, ht] <;> rfl
    show PySem.W.kitCls K t (.ref C) = some b
    show (if ((PySem.W.clsIn K C).isSome && PySem.W.typeIn K (.ref C) == some (.type "type")) = true then PySem.W.subIn K t (.ref C) else none) = some b
    rw [if_pos e2]
    exact hs
theorem kit_type {K : PySem.W.Frag} {C : Addr} {T : String} {b : Bool} (hm : PySem.W.kitMeta T = true) (hs : PySem.W.subIn K (.ref C) (.type T) = some b) : PySem.W.kitOne K (.ref C) (.type T) = some b := by
  show (if PySem.W.kitMeta T = true then PySem.W.subIn K (.ref C) (.type T) else none) = some b
  rw [if_pos hm]
  exact hs
theorem exm_type {K : PySem.W.Frag} {cls : Value} {T : String} {b : Bool} (h1 : PySem.W.subIn K (.type T) (.type "BaseException") = some true) (hm : PySem.W.kitMeta T = true) (hs : PySem.W.subIn K cls (.type T) = some b) : PySem.W.exmOne K cls (.type T) = some b := by
  show (if (PySem.W.subIn K (.type T) (.type "BaseException") == some true) = true then (if PySem.W.kitMeta T = true then PySem.W.subIn K cls (.type T) else none) else none) = some b
  rw [if_pos (by rw [h1]; rfl), if_pos hm]
  exact hs
end Cn
namespace Cn
open PySem PySem.Spec L2
theorem powO_lit {i j z : Int} (h : CPow i j) (e : i ^ j.toNat = z) : powO i j = some z := by
  subst e
  exact if_pos h
end Cn
/-! Cm: loops of the mirrors, in plain Lean -/
namespace Cn
open PySem PySem.Spec L2
theorem ofO_some {α : Type} {x : α} : ofO (some x) = .ok x := by
  have : ∀ o : Option α, o = some x → ofO o = .ok x := fun o h => by rw [h]; rfl
  exact this _ (Eq.refl _)
theorem forS_nil {α S : Type} {f : α → S → R S} {s : S} : forS f [] s = .ok s := rfl
theorem forS_cons {α S : Type} {f : α → S → R S} {x : α} {xs : List α} {s : S} : forS f (x :: xs) s = f x s >>= fun s => forS f xs s := rfl
theorem forS_ind {α S : Type} {f : α → S → R S} {xs : List α} {s : S} (I : Nat → S → Prop) (h0 : I 0 s) (h : ∀ i (hi : i < xs.length) s, I i s → ∃ s', f xs[i] s = .ok s' ∧ I (i + 1) s') : ∃ s', forS f xs s = .ok s' ∧ I xs.length s' := by
  induction xs generalizing s I with
  | nil => exact ⟨s, rfl, h0⟩
  | cons x xs ih =>
    obtain ⟨s1, e1, i1⟩ := h 0 (Nat.succ_pos _) s h0
    obtain ⟨s2, e2, i2⟩ := ih (s := s1) (fun i s => I (i + 1) s) i1 fun i hi s q => h (i + 1) (Nat.succ_lt_succ hi) s q
    refine ⟨s2, ?_, i2⟩
    show (f x s >>= fun s => forS f xs s) = _
    rw [show f x s = .ok s1 from e1]
    exact e2
/-- .. each round leaves the loop going -/
theorem forX_ind {α S ω : Type} {f : α → S → R (Lo S ω)} {xs : List α} {s : S} (I : Nat → S → Prop) (h0 : I 0 s) (h : ∀ i (hi : i < xs.length) s, I i s → ∃ s', f xs[i] s = .ok (.nx s') ∧ I (i + 1) s') : ∃ s', forX f xs s = .ok (.inl s') ∧ I xs.length s' := by
  induction xs generalizing s I with
  | nil => exact ⟨s, rfl, h0⟩
  | cons x xs ih =>
    obtain ⟨s1, e1, i1⟩ := h 0 (Nat.succ_pos _) s h0
    obtain ⟨s2, e2, i2⟩ := ih (s := s1) (fun i s => I (i + 1) s) i1 fun i hi s q => h (i + 1) (Nat.succ_lt_succ hi) s q
    refine ⟨s2, ?_, i2⟩
    show (f x s >>= _) = _
    rw [show f x s = .ok (.nx s1) from e1]
    exact e2
theorem forX_nx {α S ω : Type} {f : α → S → R (Lo S ω)} {xs : List α} {s : S} (h : ∀ x ∈ xs, f x s = .ok (.nx s)) : forX f xs s = .ok (.inl s) := by
  induction xs with
  | nil => rfl
  | cons x xs ih =>
    show (f x s >>= _) = _
    rw [h x List.mem_cons_self]
    exact ih fun y hy => h y (List.mem_cons_of_mem _ hy)
theorem whileS_ind {S : Type} {mc : S → R Bool} {mb : S → R S} {Q : S → Prop} (I : Nat → S → Prop) (h : ∀ n s, I n s → (mc s = .ok false ∧ Q s) ∨ (mc s = .ok true ∧ ∃ s' n', n' < n ∧ mb s = .ok s' ∧ I n' s')) {n : Nat} {s : S} (h0 : I n s) : ∃ s', whileS mc mb s = .ok s' ∧ Q s' := by
  induction n using Nat.strongRecOn generalizing s with
  | ind n ih =>
    rw [whileS_eq]
    rcases h n s h0 with ⟨e, q⟩ | ⟨e, s', n', l, e2, q⟩
    · rw [e]; exact ⟨s, rfl, q⟩
    · rw [e]
      show ∃ s2, (if true = true then (mb s >>= fun s => whileS mc mb s) else .ok s) = .ok s2 ∧ Q s2
      rw [if_pos rfl, e2]
      exact ih n' l q
theorem whileX_ind {S ω : Type} {mc : S → R Bool} {mb : S → R (Lo S ω)} {Q : S ⊕ ω → Prop} (I : Nat → S → Prop) (h : ∀ n s, I n s → (mc s = .ok false ∧ Q (.inl s)) ∨ (mc s = .ok true ∧ ((∃ s' n', n' < n ∧ mb s = .ok (.nx s') ∧ I n' s') ∨ (∃ s', mb s = .ok (.bk s') ∧ Q (.inl s')) ∨ ∃ o, mb s = .ok (.ex o) ∧ Q (.inr o)))) {n : Nat} {s : S} (h0 : I n s) : ∃ o, whileX mc mb s = .ok o ∧ Q o := by
  induction n using Nat.strongRecOn generalizing s with
  | ind n ih =>
    rw [whileX_eq]
    rcases h n s h0 with ⟨e, q⟩ | ⟨e, ⟨s', n', l, e2, q⟩ | ⟨s', e2, q⟩ | ⟨o, e2, q⟩⟩
    · rw [e]; exact ⟨_, rfl, q⟩
    · rw [e, bind_ok, if_pos rfl, e2, bind_ok]
      exact ih n' l q
    · rw [e, bind_ok, if_pos rfl, e2, bind_ok]
      exact ⟨_, rfl, q⟩
    · rw [e, bind_ok, if_pos rfl, e2, bind_ok]
      exact ⟨_, rfl, q⟩
theorem forS_to {α S T : Type} {f : α → S → R S} {xs : List α} {s : S} {k : S → R T} {r : R T} (I : Nat → S → Prop) (h0 : I 0 s) (h : ∀ i (hi : i < xs.length) s, I i s → ∃ s', f xs[i] s = .ok s' ∧ I (i + 1) s') (hk : ∀ s, I xs.length s → k s = r) : (forS f xs s >>= k) = r := by
  obtain ⟨s', e, i⟩ := forS_ind I h0 h
  rw [e, bind_ok]
  exact hk s' i
theorem forX_to {α S T ω : Type} {f : α → S → R (Lo S ω)} {xs : List α} {s : S} {k : S ⊕ ω → R T} {r : R T} (I : Nat → S → Prop) (h0 : I 0 s) (h : ∀ i (hi : i < xs.length) s, I i s → ∃ s', f xs[i] s = .ok (.nx s') ∧ I (i + 1) s') (hk : ∀ s, I xs.length s → k (.inl s) = r) : (forX f xs s >>= k) = r := by
  obtain ⟨s', e, i⟩ := forX_ind I h0 h
  rw [e, bind_ok]
  exact hk s' i
/-- a loop that changes nothing and leaves for no item -/
theorem forX_pass {α S T ω : Type} {f : α → S → R (Lo S ω)} {xs : List α} {s : S} {k : S ⊕ ω → R T} {r : R T} (h : ∀ x ∈ xs, f x s = .ok (.nx s)) (hk : k (.inl s) = r) : (forX f xs s >>= k) = r := by
  rw [forX_nx h, bind_ok]
  exact hk
theorem whileS_to {S T : Type} {mc : S → R Bool} {mb : S → R S} {k : S → R T} {r : R T} (I : Nat → S → Prop) (n : Nat) {s : S} (h0 : I n s) (h : ∀ n s, I n s → (mc s = .ok false ∧ k s = r) ∨ (mc s = .ok true ∧ ∃ s' n', n' < n ∧ mb s = .ok s' ∧ I n' s')) : (whileS mc mb s >>= k) = r := by
  obtain ⟨s', e, i⟩ := whileS_ind (Q := fun s => k s = r) I h h0
  rw [e, bind_ok]
  exact i
theorem whileX_to {S T ω : Type} {mc : S → R Bool} {mb : S → R (Lo S ω)} {k : S ⊕ ω → R T} {r : R T} (I : Nat → S → Prop) (n : Nat) {s : S} (h0 : I n s) (h : ∀ n s, I n s → (mc s = .ok false ∧ k (.inl s) = r) ∨ (mc s = .ok true ∧ ((∃ s' n', n' < n ∧ mb s = .ok (.nx s') ∧ I n' s') ∨ (∃ s', mb s = .ok (.bk s') ∧ k (.inl s') = r) ∨ ∃ o, mb s = .ok (.ex o) ∧ k (.inr o) = r))) : (whileX mc mb s >>= k) = r := by
  obtain ⟨s', e, i⟩ := whileX_ind (Q := fun s => k s = r) I h h0
  rw [e, bind_ok]
  exact i
theorem forS_ex {α S T : Type} {f : α → S → R S} {xs : List α} {s : S} {k : S → R T} {Q : T → Prop} (I : Nat → S → Prop) (h0 : I 0 s) (h : ∀ i (hi : i < xs.length) s, I i s → ∃ s', f xs[i] s = .ok s' ∧ I (i + 1) s') (hk : ∀ s, I xs.length s → ∃ r, k s = .ok r ∧ Q r) : ∃ r, (forS f xs s >>= k) = .ok r ∧ Q r := by
  obtain ⟨s', e, i⟩ := forS_ind I h0 h
  rw [e, bind_ok]
  exact hk s' i
theorem irange_nat (n : Nat) : irange 0 (n : Int) = (List.range n).map fun i : Nat => (i : Int) := by
  unfold irange
  rw [show ((n : Int) - 0).toNat = n by omega]
  refine List.map_congr_left fun i _ => ?_
  omega
theorem irange_lenN (n : Nat) : (irange 0 (n : Int)).length = n := by rw [irange_len]; omega
theorem irange_ix {n : Nat} {i : Nat} (h : i < (irange 0 (n : Int)).length) : (irange 0 (n : Int))[i] = (i : Int) := by
  have := irange_get (List.getElem?_eq_getElem h)
  omega
theorem rangeO_nat {n : Nat} (h : n < 4611686018427387904) : rangeO 0 (n : Int) = some (irange 0 (n : Int)) := by
  unfold rangeO
  rw [if_pos (by rw [Bool.and_eq_true, small_iff, small_iff]; omega)]
theorem atI_nat' {α : Type} {xs : List α} {i : Nat} (h : i < xs.length) : atI xs (i : Int) = some xs[i] := by rw [L2.atI_nat (j := i) (List.getElem?_eq_getElem h)]
theorem modO_pos {i j : Int} (h : 0 < j) : modO i j = some (i % j) := by unfold modO; rw [if_pos h]
theorem divO_pos {i j : Int} (h : 0 < j) (h2 : j < 1073741824) : divO i j = some (i / j) := by unfold divO; rw [if_pos ⟨h, h2⟩]
theorem appO_ok {α : Type} {xs : List α} {x : α} (h : xs.length < 16777216) : appO xs x = some (xs ++ [x]) := by unfold appO; rw [if_pos h]
theorem shlO_ok {i : Int} {j : Nat} (h : 0 ≤ i) (h2 : i < 18446744073709551616) (hj : j ≤ 1000000) : shlO i (j : Int) = some (i * 2 ^ j) := by unfold shlO; rw [if_pos ⟨by omega, by omega, by omega⟩]; rfl
end Cn
/-! Gf: octets, as plain numbers -/
namespace Cn
open PySem PySem.Spec L2
theorem xor_m2 (a b : Nat) : (a ^^^ b) % 2 = (a + b) % 2 := by
  have e : (a ^^^ b) % 2 = 1 ↔ ¬(a % 2 = 1 ↔ b % 2 = 1) := Nat.xor_mod_two_eq_one
  by_cases p : a % 2 = 1 <;> by_cases q : b % 2 = 1
  · have : ¬ (a ^^^ b) % 2 = 1 := fun z => e.mp z (iff_of_true p q)
    omega
  · have : (a ^^^ b) % 2 = 1 := e.mpr fun z => q (z.mp p)
    omega
  · have : (a ^^^ b) % 2 = 1 := e.mpr fun z => p (z.mpr q)
    omega
  · have : ¬ (a ^^^ b) % 2 = 1 := fun z => e.mp z (iff_of_false p q)
    omega
theorem xor_and_add : ∀ (a b : Nat), (a ^^^ b) + 2 * (a &&& b) = a + b := by
  intro a
  induction a using Nat.strongRecOn with
  | ind a ih =>
    intro b
    by_cases h : a = 0
    · subst h; simp
    · have i := ih (a / 2) (by omega) (b / 2)
      have e1 : (a ^^^ b) / 2 = a / 2 ^^^ b / 2 := Nat.xor_div_two
      have e2 : (a &&& b) / 2 = a / 2 &&& b / 2 := Nat.and_div_two
      have e3 : (a ^^^ b) % 2 = (a + b) % 2 := xor_m2 a b
      have e4 : (a &&& b) % 2 = 1 ↔ a % 2 = 1 ∧ b % 2 = 1 := Nat.and_mod_two_eq_one
      by_cases p : a % 2 = 1 ∧ b % 2 = 1
      · have := e4.mpr p; omega
      · have : ¬ (a &&& b) % 2 = 1 := fun z => p (e4.mp z)
        omega
theorem band_nat (a b : Nat) : Builtin.bitAnd (a : Int) (b : Int) = ((a &&& b : Nat) : Int) := by
  unfold Builtin.bitAnd
  rw [decide_eq_true (Int.natCast_nonneg a), decide_eq_true (Int.natCast_nonneg b)]
  rfl
theorem bx (a b : Nat) : Builtin.bitXor (a : Int) (b : Int) = ((a ^^^ b : Nat) : Int) := by
  rw [PyProof.Rows.bitXor_and, band_nat]
  have := xor_and_add a b
  omega
/-! ### times x, times -/
def xt (a : Nat) : Nat := bif Nat.ble 128 a then (2 * a) ^^^ 285 else 2 * a
def mulN : Nat → Nat → Nat → Nat → Nat
  | 0, _, _, p => p
  | k + 1, a, b, p => mulN k (xt a) (b / 2) (bif b % 2 == 1 then p ^^^ a else p)
def gm (a b : Nat) : Nat := mulN 8 a b 0
def allB (n : Nat) (p : Nat → Bool) : Bool := Nat.rec true (fun k r => p k && r) n
theorem allB_of {p : Nat → Bool} : ∀ {n : Nat}, allB n p = true → ∀ k, k < n → p k = true
  | 0, _, k, hk => absurd hk (Nat.not_lt_zero _)
  | n + 1, h, k, hk => by
    have h : (p n && allB n p) = true := h
    rw [Bool.and_eq_true] at h
    rcases Nat.lt_succ_iff_lt_or_eq.mp hk with z | z
    · exact allB_of h.2 k z
    · subst z; exact h.1
theorem xt_lt {a : Nat} (h : a < 256) : xt a < 256 := by
  have := allB_of (p := fun a => Nat.blt (xt a) 256) (n := 256) (by decide +kernel) a h
  exact Nat.le_of_ble_eq_true this
theorem xt_xor {a b : Nat} (h : a < 256) (hb : b < 256) : xt (a ^^^ b) = xt a ^^^ xt b := by
  have := allB_of (allB_of (p := fun a => allB 256 fun b => xt (a ^^^ b) == xt a ^^^ xt b) (n := 256) (by decide +kernel) a h) b hb
  exact eq_of_beq this
theorem x_lt {a b : Nat} (h : a < 256) (hb : b < 256) : a ^^^ b < 256 := Nat.xor_lt_two_pow (n := 8) h hb
theorem mulN_lt : ∀ (k a b p : Nat), a < 256 → p < 256 → mulN k a b p < 256
  | 0, _, _, _, _, hp => hp
  | k + 1, a, b, p, ha, hp => mulN_lt k _ _ _ (xt_lt ha) (by cases (b % 2 == 1) with
    | true => exact x_lt hp ha
    | false => exact hp)
theorem gm_lt {a : Nat} (h : a < 256) (b : Nat) : gm a b < 256 := mulN_lt 8 a b 0 h (by decide)
theorem mulN_zero : ∀ (k a p : Nat), mulN k a 0 p = p
  | 0, _, _ => rfl
  | k + 1, a, p => mulN_zero k _ _
theorem xor4 (p p' a a' : Nat) : (p ^^^ p') ^^^ (a ^^^ a') = (p ^^^ a) ^^^ (p' ^^^ a') := by
  rw [Nat.xor_assoc, ← Nat.xor_assoc p' a a', Nat.xor_comm p' a, Nat.xor_assoc a p' a', ← Nat.xor_assoc p a]
theorem mulN_xl : ∀ (k a a' b p p' : Nat), a < 256 → a' < 256 → mulN k (a ^^^ a') b (p ^^^ p') = mulN k a b p ^^^ mulN k a' b p'
  | 0, _, _, _, _, _, _, _ => rfl
  | k + 1, a, a', b, p, p', h, h' => by
    show mulN k (xt (a ^^^ a')) (b / 2) _ = mulN k (xt a) (b / 2) _ ^^^ mulN k (xt a') (b / 2) _
    rw [xt_xor h h', ← mulN_xl k _ _ _ _ _ (xt_lt h) (xt_lt h')]
    cases (b % 2 == 1) with
    | false => rfl
    | true => exact congrArg (mulN k (xt a ^^^ xt a') (b / 2)) (xor4 p p' a a')
theorem mulN_xr : ∀ (k a b b' p p' : Nat), mulN k a (b ^^^ b') (p ^^^ p') = mulN k a b p ^^^ mulN k a b' p'
  | 0, _, _, _, _, _ => rfl
  | k + 1, a, b, b', p, p' => by
    show mulN k (xt a) ((b ^^^ b') / 2) _ = mulN k (xt a) (b / 2) _ ^^^ mulN k (xt a) (b' / 2) _
    rw [← mulN_xr k, Nat.xor_div_two]
    have e : (b ^^^ b') % 2 = (b + b') % 2 := xor_m2 b b'
    rw [e]
    refine congrArg (mulN k (xt a) (b / 2 ^^^ b' / 2)) ?_
    rcases Nat.mod_two_eq_zero_or_one b with z | z <;> rcases Nat.mod_two_eq_zero_or_one b' with y | y
    · rw [show (b + b') % 2 = 0 by omega, z, y]; rfl
    · rw [show (b + b') % 2 = 1 by omega, z, y]; exact Nat.xor_assoc _ _ _
    · rw [show (b + b') % 2 = 1 by omega, z, y]
      show p ^^^ p' ^^^ a = p ^^^ a ^^^ p'
      rw [Nat.xor_assoc, Nat.xor_comm p' a, Nat.xor_assoc]
    · rw [show (b + b') % 2 = 0 by omega, z, y]
      show p ^^^ p' = p ^^^ a ^^^ (p' ^^^ a)
      rw [← xor4, Nat.xor_self, Nat.xor_zero]
theorem gm_xl {a a' : Nat} (b : Nat) (h : a < 256) (h' : a' < 256) : gm (a ^^^ a') b = gm a b ^^^ gm a' b := mulN_xl 8 a a' b 0 0 h h'
theorem gm_xr (a b b' : Nat) : gm a (b ^^^ b') = gm a b ^^^ gm a b' := mulN_xr 8 a b b' 0 0
/-- two additive maps of octets that agree at the powers of two agree -/
theorem lin_ext {f g : Nat → Nat} (hf : ∀ x y, x < 256 → y < 256 → f (x ^^^ y) = f x ^^^ f y) (hg : ∀ x y, x < 256 → y < 256 → g (x ^^^ y) = g x ^^^ g y) (h : ∀ i, i < 8 → f (2 ^ i) = g (2 ^ i)) : ∀ a, a < 256 → f a = g a := by
  have h0 : f 0 = g 0 := by
    have e1 := hf 0 0 (by decide) (by decide)
    have e2 := hg 0 0 (by decide) (by decide)
    rw [Nat.xor_self] at e1 e2
    rw [Nat.xor_self] at e1 e2
    rw [e1, e2]
  have key : ∀ k, k ≤ 8 → ∀ a, a < 2 ^ k → f a = g a := by
    intro k
    induction k with
    | zero => intro _ a ha; have : a = 0 := by omega
              subst this; exact h0
    | succ k ih =>
      intro hk a ha
      by_cases c : a < 2 ^ k
      · exact ih (by omega) a c
      · have p1 : 2 ^ k < 256 := Nat.pow_lt_pow_right (by decide) (show k < 8 by omega)
        have e : a = (a - 2 ^ k) ^^^ 2 ^ k := by
          have l : a - 2 ^ k < 2 ^ k := by rw [Nat.pow_succ] at ha; omega
          have s := xor_and_add (a - 2 ^ k) (2 ^ k)
          have z : (a - 2 ^ k) &&& 2 ^ k = 0 := by
            
            apply Nat.eq_of_testBit_eq
            intro i
            rw [Nat.testBit_and, Nat.testBit_two_pow, Nat.zero_testBit]
            by_cases ki : k = i
            · subst ki; rw [Nat.testBit_lt_two_pow l]; rfl
            · simp [ki]
          omega
        have l : a - 2 ^ k < 2 ^ k := by rw [Nat.pow_succ] at ha; omega
        rw [e, hf _ _ (by omega) p1, hg _ _ (by omega) p1, ih (by omega) _ l, h k (by omega)]
  exact fun a ha => key 8 (Nat.le_refl _) a ha
theorem pow_lt8 {i : Nat} (h : i < 8) : 2 ^ i < 256 := Nat.pow_lt_pow_right (by decide) (show i < 8 from h)
theorem gm_comm {a b : Nat} (ha : a < 256) (hb : b < 256) : gm a b = gm b a := by
  refine lin_ext (f := fun a => gm a b) (g := fun a => gm b a) (fun x y hx hy => gm_xl b hx hy) (fun x y _ _ => gm_xr b x y) (fun i hi => ?_) a ha
  refine lin_ext (f := fun b => gm (2 ^ i) b) (g := fun b => gm b (2 ^ i)) (fun x y _ _ => gm_xr _ x y) (fun x y hx hy => gm_xl _ hx hy) (fun j hj => ?_) b hb
  exact eq_of_beq (allB_of (allB_of (p := fun i => allB 8 fun j => gm (2 ^ i) (2 ^ j) == gm (2 ^ j) (2 ^ i)) (n := 8) (by decide +kernel) i hi) j hj)
theorem gm_assoc {a b c : Nat} (ha : a < 256) (hb : b < 256) (hc : c < 256) : gm (gm a b) c = gm a (gm b c) := by
  refine lin_ext (f := fun a => gm (gm a b) c) (g := fun a => gm a (gm b c)) (fun x y hx hy => by
    show gm (gm (x ^^^ y) b) c = _
    rw [gm_xl b hx hy, gm_xl c (gm_lt hx b) (gm_lt hy b)]) (fun x y hx hy => gm_xl _ hx hy) (fun i hi => ?_) a ha
  have hi' := pow_lt8 hi
  refine lin_ext (f := fun b => gm (gm (2 ^ i) b) c) (g := fun b => gm (2 ^ i) (gm b c)) (fun x y _ _ => by
    show gm (gm _ (x ^^^ y)) c = _
    rw [gm_xr, gm_xl c (gm_lt hi' _) (gm_lt hi' _)]) (fun x y hx hy => by
    show gm _ (gm (x ^^^ y) c) = _
    rw [gm_xl c hx hy, gm_xr]) (fun j hj => ?_) b hb
  refine lin_ext (f := fun c => gm (gm (2 ^ i) (2 ^ j)) c) (g := fun c => gm (2 ^ i) (gm (2 ^ j) c)) (fun x y _ _ => gm_xr _ _ _) (fun x y _ _ => by
    show gm _ (gm _ (x ^^^ y)) = _
    rw [gm_xr, gm_xr]) (fun k hk => ?_) c hc
  exact eq_of_beq (allB_of (allB_of (allB_of (p := fun i => allB 8 fun j => allB 8 fun k => gm (gm (2 ^ i) (2 ^ j)) (2 ^ k) == gm (2 ^ i) (gm (2 ^ j) (2 ^ k))) (n := 8) (by decide +kernel) i hi) j hj) k hk)
theorem gm_one {a : Nat} (h : a < 256) : gm a 1 = a := eq_of_beq (allB_of (p := fun a => gm a 1 == a) (n := 256) (by decide +kernel) a h)
theorem one_gm {a : Nat} (h : a < 256) : gm 1 a = a := by rw [gm_comm (by decide) h, gm_one h]
theorem gm_zero (a : Nat) : gm a 0 = 0 := mulN_zero 8 a 0
theorem zero_gm {a : Nat} (h : a < 256) : gm 0 a = 0 := by rw [gm_comm (by decide) h, gm_zero]
def gpow (a : Nat) : Nat → Nat
  | 0 => 1
  | n + 1 => gm (gpow a n) a
theorem gpow_lt {a : Nat} (h : a < 256) : ∀ n, gpow a n < 256
  | 0 => (by decide : 1 < 256)
  | n + 1 => gm_lt (gpow_lt h n) a
theorem gpow_add {a : Nat} (h : a < 256) (m : Nat) : ∀ n, gpow a (m + n) = gm (gpow a m) (gpow a n)
  | 0 => (gm_one (gpow_lt h m)).symm
  | n + 1 => by
    show gm (gpow a (m + n)) a = gm (gpow a m) (gm (gpow a n) a)
    rw [gpow_add h m n, gm_assoc (gpow_lt h m) (gpow_lt h n) h]
theorem gpow_sq {a : Nat} (h : a < 256) (n : Nat) : gpow (gm a a) n = gpow a (2 * n) := by
  induction n with
  | zero => rfl
  | succ n ih =>
    show gm (gpow (gm a a) n) (gm a a) = gpow a (2 * (n + 1))
    rw [ih, show 2 * (n + 1) = 2 * n + 2 by omega, gpow_add h (2 * n) 2]
    show _ = gm _ (gm (gm 1 a) a)
    rw [one_gm h]
/-- 1 / a -/
def ginv (a : Nat) : Nat := gpow a 254
theorem ginv_lt {a : Nat} (h : a < 256) : ginv a < 256 := gpow_lt h 254
def gsq (a : Nat) : Nat := gm a a
def gchain : Nat → Nat → Nat → Nat
  | 0, _, p => p
  | k + 1, a, p => gchain k (gsq a) (gm p a)
theorem gchain_pow : ∀ (k a p : Nat), a < 256 → p < 256 → gchain k a p = gm p (gpow a (2 ^ k - 1))
  | 0, a, p, _, hp => (gm_one hp).symm
  | k + 1, a, p, ha, hp => by
    show gchain k (gsq a) (gm p a) = _
    have := Nat.one_le_two_pow (n := k)
    rw [gchain_pow k (gsq a) (gm p a) (gm_lt ha a) (gm_lt hp a), show 2 ^ (k + 1) - 1 = 1 + 2 * (2 ^ k - 1) by rw [Nat.pow_succ]; omega, gpow_add ha, ← gpow_sq ha, show gsq a = gm a a from rfl, gm_assoc hp ha (gpow_lt (gm_lt ha a) _)]
    show gm p (gm a (gpow (gm a a) _)) = gm p (gm (gm 1 a) _)
    rw [one_gm ha]
theorem ginv_chain {a : Nat} (h : a < 256) : ginv a = gchain 7 (gsq a) 1 := by
  rw [gchain_pow 7 (gsq a) 1 (gm_lt h a) (by decide), one_gm (gpow_lt (show gsq a < 256 from gm_lt h a) _)]
  exact (gpow_sq h 127).symm
theorem gm_ginv {a : Nat} (h : a < 256) (h0 : a ≠ 0) : gm a (ginv a) = 1 := by
  rw [ginv_chain h]
  have e := allB_of (p := fun a => Nat.beq a 0 || gm a (gchain 7 (gsq a) 1) == 1) (n := 256) (by decide +kernel) a h
  rw [Bool.or_eq_true] at e
  rcases e with e | e
  · exact absurd (Nat.eq_of_beq_eq_true e) h0
  · exact eq_of_beq e
theorem ginv_ne {a : Nat} (h : a < 256) (h0 : a ≠ 0) : ginv a ≠ 0 := fun z => by
  have := gm_ginv h h0
  rw [z, gm_zero] at this
  cases this
theorem gm_eq0 {a b : Nat} (ha : a < 256) (hb : b < 256) (h : gm a b = 0) : a = 0 ∨ b = 0 := by
  by_cases z : a = 0
  · exact .inl z
  · right
    have : gm (ginv a) (gm a b) = b := by rw [← gm_assoc (ginv_lt ha) ha hb, gm_comm (ginv_lt ha) ha, gm_ginv ha z, one_gm hb]
    rw [h, gm_zero] at this
    exact this.symm
end Cn
namespace K01
open PySem PySem.Spec L2 Cn
def top (i : Nat) : Stmt := PySem.Challenge.pw_cairnhouse_k01_field_arithmetic.main.body.getD i (.Pass ⟨0, 0, 0, 0⟩)
abbrev s__law_cell : Stmt := top 13
abbrev s__law_mixed : Stmt := top 14
abbrev s__law_digits : Stmt := top 15
abbrev s_mul : Stmt := top 7
abbrev s_power : Stmt := top 8
abbrev s_inv : Stmt := top 9
abbrev s_div : Stmt := top 10
abbrev s__law_is_integer : Stmt := top 12
abbrev s_add : Stmt := top 6
abbrev s__law_mul : Stmt := top 16
abbrev s__law_power : Stmt := top 18
abbrev s__law_refuses : Stmt := top 17
abbrev s_law : Stmt := top 19
/-- what the top has written -/
structure Tx (K : PySem.W.Frag) (mg : Str → Option Value) where
  a__law_cell : Addr
  d__law_cell : FuncData
  F__law_cell : Fun K "_law_cell" "_law_cell" s__law_cell a__law_cell d__law_cell
  b__law_cell : Binds K d__law_cell ["script", "k"] []
  g__law_cell : mg "_law_cell" = some (.ref a__law_cell)
  a__law_mixed : Addr
  d__law_mixed : FuncData
  F__law_mixed : Fun K "_law_mixed" "_law_mixed" s__law_mixed a__law_mixed d__law_mixed
  b__law_mixed : Binds K d__law_mixed ["cell", "k"] []
  g__law_mixed : mg "_law_mixed" = some (.ref a__law_mixed)
  a__law_digits : Addr
  d__law_digits : FuncData
  F__law_digits : Fun K "_law_digits" "_law_digits" s__law_digits a__law_digits d__law_digits
  b__law_digits : Binds K d__law_digits ["cell", "count", "many"] []
  g__law_digits : mg "_law_digits" = some (.ref a__law_digits)
  a_mul : Addr
  d_mul : FuncData
  F_mul : Fun K "mul" "mul" s_mul a_mul d_mul
  b_mul : Binds K d_mul ["a", "b"] []
  g_mul : mg "mul" = some (.ref a_mul)
  a_power : Addr
  d_power : FuncData
  F_power : Fun K "power" "power" s_power a_power d_power
  b_power : Binds K d_power ["a", "n"] []
  g_power : mg "power" = some (.ref a_power)
  a_inv : Addr
  d_inv : FuncData
  F_inv : Fun K "inv" "inv" s_inv a_inv d_inv
  b_inv : Binds K d_inv ["a"] []
  g_inv : mg "inv" = some (.ref a_inv)
  a_div : Addr
  d_div : FuncData
  F_div : Fun K "div" "div" s_div a_div d_div
  b_div : Binds K d_div ["a", "b"] []
  g_div : mg "div" = some (.ref a_div)
  a__law_is_integer : Addr
  d__law_is_integer : FuncData
  F__law_is_integer : Fun K "_law_is_integer" "_law_is_integer" s__law_is_integer a__law_is_integer d__law_is_integer
  b__law_is_integer : Binds K d__law_is_integer ["actual"] []
  g__law_is_integer : mg "_law_is_integer" = some (.ref a__law_is_integer)
  a_add : Addr
  d_add : FuncData
  F_add : Fun K "add" "add" s_add a_add d_add
  b_add : Binds K d_add ["a", "b"] []
  g_add : mg "add" = some (.ref a_add)
  a__law_mul : Addr
  d__law_mul : FuncData
  F__law_mul : Fun K "_law_mul" "_law_mul" s__law_mul a__law_mul d__law_mul
  b__law_mul : Binds K d__law_mul ["a", "b"] []
  g__law_mul : mg "_law_mul" = some (.ref a__law_mul)
  a__law_power : Addr
  d__law_power : FuncData
  F__law_power : Fun K "_law_power" "_law_power" s__law_power a__law_power d__law_power
  b__law_power : Binds K d__law_power ["a", "n"] []
  g__law_power : mg "_law_power" = some (.ref a__law_power)
  a__law_refuses : Addr
  d__law_refuses : FuncData
  F__law_refuses : Fun K "_law_refuses" "_law_refuses" s__law_refuses a__law_refuses d__law_refuses
  b__law_refuses : Binds K d__law_refuses ["word", "a", "b"] []
  g__law_refuses : mg "_law_refuses" = some (.ref a__law_refuses)
  a_law : Addr
  d_law : FuncData
  F_law : Fun K "law" "law" s_law a_law d_law
  b_law : Binds K d_law ["script"] []
  g_law : mg "law" = some (.ref a_law)
  b_bool : mg "bool" = none
  b_int : mg "int" = none
  b_isinstance : mg "isinstance" = none
  b_len : mg "len" = none
  b_range : mg "range" = none
  e_ZeroElement : Addr
  x_ZeroElement : XcF K mg "ZeroElement" e_ZeroElement
  e_CairnError : Addr
  gc_CairnError : mg "CairnError" = some (.ref e_CairnError)
  e_DuplicatePoint : Addr
  gc_DuplicatePoint : mg "DuplicatePoint" = some (.ref e_DuplicatePoint)
  e_ShapeMismatch : Addr
  gc_ShapeMismatch : mg "ShapeMismatch" = some (.ref e_ShapeMismatch)
  gc_ZeroElement : mg "ZeroElement" = some (.ref e_ZeroElement)
  b_ValueError : mg "ValueError" = none
  xm_ZeroElement_CairnError : PySem.W.exmOne K (.ref e_ZeroElement) (.ref e_CairnError) = some true
  xc_ZeroElement : ExcC K e_ZeroElement
  ki_ZeroElement_DuplicatePoint : PySem.W.kitOne K (.ref e_ZeroElement) (.ref e_DuplicatePoint) = some false
  ki_ZeroElement_ShapeMismatch : PySem.W.kitOne K (.ref e_ZeroElement) (.ref e_ShapeMismatch) = some false
  ki_ZeroElement_ValueError : PySem.W.kitOne K (.ref e_ZeroElement) (.type "ValueError") = some true
  ki_ZeroElement_ZeroElement : PySem.W.kitOne K (.ref e_ZeroElement) (.ref e_ZeroElement) = some true
variable {P : Program} {w : World} {K : PySem.W.Frag} {mg : Str → Option Value} {base : Heap}
theorem sc__law_cell : FnScope ["script", "k"] ["script", "k"] (defScope s__law_cell) := ⟨rfl, rfl, rfl, by decide +kernel, rfl, by decide +kernel, by decide +kernel⟩
noncomputable def _law_cell (script : (List Int)) (k : Int) : R Int :=
  ((R.ok k >>= fun x => (R.ok script >>= fun xs => .ok (xs.length : Int)) >>= fun y => .ok (decide (x < y))) >>= fun x => if x then ((R.ok script >>= fun xs => R.ok k >>= fun i => ofO (atI xs i)) >>= fun r => .ok (r)) else (R.ok (0 : Int) >>= fun r => .ok (r)))
theorem ok__law_cell (Tx : Tx K mg) : FnOk P w K mg base (L2.CX P w) 1 Tx.a__law_cell Tx.d__law_cell ["script", "k"]
    (SpF ⟨K, mg⟩ (fun p : (List Int) × Int × Unit => [D.frl ((p.1).map D.int), D.int p.2.1]) (fun r : Int => .imm (D.int r)) (fun p => _law_cell p.1 p.2.1)) := by
  refine fn_pure Tx.F__law_cell sc__law_cell (fun _ => rfl) fun cdv A outer s H E hr p => ?_
  obtain ⟨script, k, _⟩ := p
  exact bk_ifX (dt_lt (dd_var (emb := D.int) 1 rfl) (dd_lenL (ei := D.int) (dl_frl (ei := D.int) (dd_var (emb := (fun xs : (List Int) => D.frl (xs.map D.int))) 0 rfl)) Tx.b_len)) (bk_ret (df_of_dd (dd_ixL (ei := D.int) (dl_frl (ei := D.int) (dd_var (emb := (fun xs : (List Int) => D.frl (xs.map D.int))) 0 rfl)) (dd_var (emb := D.int) 1 rfl))) (g := fun r => r) (fun _ => rfl) trivial trivial) (bk_ret (df_of_dd dd_int) (g := fun r => r) (fun _ => rfl) trivial trivial) trivial

theorem sc__law_mixed : FnScope ["cell", "k", "first", "second"] ["cell", "k"] (defScope s__law_mixed) := ⟨rfl, rfl, rfl, by decide +kernel, rfl, by decide +kernel, by decide +kernel⟩
noncomputable def _law_mixed (cell : Int) (k : Int) : R Int :=
  (((((R.ok cell >>= fun x => .ok (x * 48271)) >>= fun x => (R.ok k >>= fun x => .ok (x * 69621)) >>= fun y => .ok (x + y)) >>= fun x => R.ok (11 : Int) >>= fun y => .ok (x + y)) >>= fun x => .ok (x % 2147483647)) >>= fun first_1 => (((((R.ok first_1 >>= fun x => .ok (x * 16807)) >>= fun x => ((R.ok k >>= fun x => R.ok (3 : Int) >>= fun y => .ok (x + y)) >>= fun x => .ok (x * 40692)) >>= fun y => .ok (x + y)) >>= fun x => R.ok (5 : Int) >>= fun y => .ok (x + y)) >>= fun x => .ok (x % 2147483563)) >>= fun second_2 => ((R.ok second_2 >>= fun x => .ok (x / 5)) >>= fun r => .ok (r))))
theorem ok__law_mixed (Tx : Tx K mg) : FnOk P w K mg base (L2.CX P w) 1 Tx.a__law_mixed Tx.d__law_mixed ["cell", "k"]
    (SpF ⟨K, mg⟩ (fun p : Int × Int × Unit => [D.int p.1, D.int p.2.1]) (fun r : Int => .imm (D.int r)) (fun p => _law_mixed p.1 p.2.1)) := by
  refine fn_pure Tx.F__law_mixed sc__law_mixed (fun _ => rfl) fun cdv A outer s H E hr p => ?_
  obtain ⟨cell, k, _⟩ := p
  exact bk_cons (st_set 2 (df_of_dd (dd_modC (dd_intI (dd_add (dd_add (dd_mulC (dd_intI (dd_var (emb := D.int) 0 rfl) Tx.b_int) dd_int (by decide)) (dd_mulC (dd_var (emb := D.int) 1 rfl) dd_int (by decide))) dd_int) Tx.b_int) dd_int (by decide))) trivial rfl sc__law_mixed.nd) fun first_1 => bk_cons (st_set 3 (df_of_dd (dd_modC (dd_intI (dd_add (dd_add (dd_mulC (dd_var (emb := D.int) 2 rfl) dd_int (by decide)) (dd_mulC (dd_add (dd_var (emb := D.int) 1 rfl) dd_int) dd_int (by decide))) dd_int) Tx.b_int) dd_int (by decide))) trivial rfl sc__law_mixed.nd) fun second_2 => bk_ret (df_of_dd (dd_divC (dd_var (emb := D.int) 3 rfl) dd_int (by decide))) (g := fun r => r) (fun _ => rfl) trivial trivial

theorem sc__law_digits : FnScope ["cell", "count", "many", "digits", "k"] ["cell", "count", "many"] (defScope s__law_digits) := ⟨rfl, rfl, rfl, by decide +kernel, rfl, by decide +kernel, by decide +kernel⟩
noncomputable def _law_digits (cell : Int) (count : Int) (many : Int) : R (List Int) :=
  ((R.ok () >>= fun p => .ok ((fun p : Unit => ([] : List Int)) p)) >>= fun digits_1 => ((R.ok cell >>= fun x => R.ok (1000000000000000000 : Int) >>= fun y => .ok (decide (x < y))) >>= fun x => if x then (((R.ok count >>= fun n => ofO (rangeO 0 n)) >>= fun xs => forS (fun (x_3 : Int) (s_2 : (List Int)) => (((((R.ok cell >>= fun x => (R.ok x_3 >>= fun x => R.ok () >>= fun y => .ok (x, y)) >>= fun y => .ok (x, y)) >>= fun p : Int × Int × Unit => (_law_mixed p.1 p.2.1)) >>= fun x => R.ok many >>= fun y => ofO (modO x y)) >>= fun x => ofO (appO s_2 x)) >>= fun digits_4 => R.ok digits_4)) xs digits_1) >>= fun s_5 : (List Int) => R.ok (s_5)) else (((R.ok count >>= fun n => ofO (rangeO 0 n)) >>= fun xs => forS (fun (x_7 : Int) (s_6 : Int × (List Int)) => (((R.ok s_6.1 >>= fun x => R.ok many >>= fun y => ofO (modO x y)) >>= fun x => ofO (appO s_6.2 x)) >>= fun digits_8 => ((R.ok s_6.1 >>= fun x => R.ok many >>= fun y => ofO (divO x y)) >>= fun cell_9 => R.ok (cell_9, digits_8)))) xs (cell, digits_1)) >>= fun s_10 : Int × (List Int) => R.ok (s_10.2))))
theorem ok__law_digits (Tx : Tx K mg) : FnOk P w K mg base (L2.CX P w) 2 Tx.a__law_digits Tx.d__law_digits ["cell", "count", "many"]
    (SpF ⟨K, mg⟩ (fun p : Int × Int × Int × Unit => [D.int p.1, D.int p.2.1, D.int p.2.2.1]) (fun r : (List Int) => .lst ((r).map fun x => .imm (D.int x))) (fun p => _law_digits p.1 p.2.1 p.2.2.1)) := by
  refine fn_pure Tx.F__law_digits sc__law_digits (fun _ => rfl) fun cdv A outer s H E hr p => ?_
  obtain ⟨cell, count, many, _⟩ := p
  exact bk_cons (st_set 3 (df_disp (ei := D.int) da_nil (fun p : Unit => ([] : List Int))) trivial rfl sc__law_digits.nd) fun digits_1 => bk_ifX (dt_lt (dd_var (emb := D.int) 0 rfl) (dd_powC dd_int dd_int (powO_lit (by decide +kernel) (by decide +kernel)))) (bk_cons (Γ1 := fun s_2 : (List Int) => [.ow (.imm (D.int cell)), .ow (.imm (D.int count)), .ow (.imm (D.int many)), .ow (.lst ((s_2).map fun x => .imm (D.int x))), .un]) (st_forS (Γs := fun s_2 : (List Int) => [.ow (.imm (D.int cell)), .ow (.imm (D.int count)), .ow (.imm (D.int many)), .ow (.lst ((s_2).map fun x => .imm (D.int x))), .un]) (ei := D.int) digits_1 (passes_of rfl) rfl (di_range1 (dd_var (emb := D.int) 1 rfl) Tx.b_range) (fun s_2 x_3 => (dg_name 4 sc__law_digits.nd)) (fun s_2 x_3 => bk_cons (st_append (ei := D.int) 3 rfl (dd_mod (dd_intI (dd_imm (df_call (ok__law_mixed Tx) (hr.mono (by decide)) Tx.g__law_mixed Tx.F__law_mixed.kp Tx.b__law_mixed (takes_of rfl rfl rfl rfl) (da_cons (dd_var (emb := D.int) 0 rfl) (da_cons (dd_var (emb := D.int) 4 rfl) da_nil)))) Tx.b_int) (dd_var (emb := D.int) 2 rfl)) trivial) fun digits_4 => bk_nil (o := digits_4) rfl ⟨rfl, rfl, rfl, rfl, trivial⟩) ⟨rfl, rfl, rfl, rfl, trivial⟩ trivial) fun s_5 => bk_retV 3 rfl rfl trivial) (bk_cons (Γ1 := fun s_6 : Int × (List Int) => [.ow (.imm (D.int s_6.1)), .ow (.imm (D.int count)), .ow (.imm (D.int many)), .ow (.lst ((s_6.2).map fun x => .imm (D.int x))), .un]) (st_forS (Γs := fun s_6 : Int × (List Int) => [.ow (.imm (D.int s_6.1)), .ow (.imm (D.int count)), .ow (.imm (D.int many)), .ow (.lst ((s_6.2).map fun x => .imm (D.int x))), .un]) (ei := D.int) (cell, digits_1) (passes_of rfl) rfl (di_range1 (dd_var (emb := D.int) 1 rfl) Tx.b_range) (fun s_6 x_7 => (dg_name 4 sc__law_digits.nd)) (fun s_6 x_7 => bk_cons (st_append (ei := D.int) 3 rfl (dd_mod (dd_intI (dd_var (emb := D.int) 0 rfl) Tx.b_int) (dd_var (emb := D.int) 2 rfl)) trivial) fun digits_8 => bk_cons (st_set 0 (df_of_dd (dd_div (dd_var (emb := D.int) 0 rfl) (dd_var (emb := D.int) 2 rfl))) trivial rfl sc__law_digits.nd) fun cell_9 => bk_nil (o := (cell_9, digits_8)) rfl ⟨rfl, rfl, rfl, rfl, trivial⟩) ⟨rfl, rfl, rfl, rfl, trivial⟩ trivial) fun s_10 => bk_retV 3 rfl rfl trivial) trivial

theorem sc_mul : FnScope ["a", "b", "product"] ["a", "b"] (defScope s_mul) := ⟨rfl, rfl, rfl, by decide +kernel, rfl, by decide +kernel, by decide +kernel⟩
noncomputable def mul (a : Int) (b : Int) : R Int :=
  (R.ok (0 : Int) >>= fun product_1 => (whileS (fun s_2 : Int × Int × Int => (R.ok s_2.2.1 >>= fun x => .ok (x != 0))) (fun s_2 : Int × Int × Int => ((((R.ok s_2.2.1 >>= fun x => R.ok (1 : Int) >>= fun y => .ok (Builtin.bitAnd x y)) >>= fun x => .ok (x != 0)) >>= fun x => if x then ((R.ok s_2.2.2 >>= fun x => R.ok s_2.1 >>= fun y => .ok (Builtin.bitXor x y)) >>= fun product_4 => R.ok product_4) else R.ok s_2.2.2) >>= fun j_3 : Int => ((R.ok s_2.1 >>= fun x => R.ok (1 : Int) >>= fun y => ofO (shlO x y)) >>= fun a_5 => ((((R.ok a_5 >>= fun x => R.ok (256 : Int) >>= fun y => .ok (Builtin.bitAnd x y)) >>= fun x => .ok (x != 0)) >>= fun x => if x then ((R.ok a_5 >>= fun x => R.ok (285 : Int) >>= fun y => .ok (Builtin.bitXor x y)) >>= fun a_7 => R.ok a_7) else R.ok a_5) >>= fun j_6 : Int => ((R.ok s_2.2.1 >>= fun x => .ok (x / 2 ^ (1 : Int).toNat)) >>= fun b_8 => R.ok (j_6, b_8, j_3)))))) (a, b, product_1) >>= fun s_9 : Int × Int × Int => (R.ok s_9.2.2 >>= fun r => .ok (r))))
theorem ok_mul (Tx : Tx K mg) : FnOk P w K mg base (L2.CX P w) 1 Tx.a_mul Tx.d_mul ["a", "b"]
    (SpF ⟨K, mg⟩ (fun p : Int × Int × Unit => [D.int p.1, D.int p.2.1]) (fun r : Int => .imm (D.int r)) (fun p => mul p.1 p.2.1)) := by
  refine fn_pure Tx.F_mul sc_mul (fun _ => rfl) fun cdv A outer s H E hr p => ?_
  obtain ⟨a, b, _⟩ := p
  exact bk_cons (st_set 2 (df_of_dd dd_int) trivial rfl sc_mul.nd) fun product_1 => bk_cons (Γ1 := fun s_2 : Int × Int × Int => [.ow (.imm (D.int s_2.1)), .ow (.imm (D.int s_2.2.1)), .ow (.imm (D.int s_2.2.2))]) (st_whileS (Γs := fun s_2 : Int × Int × Int => [.ow (.imm (D.int s_2.1)), .ow (.imm (D.int s_2.2.1)), .ow (.imm (D.int s_2.2.2))]) (a, b, product_1) (passes_of rfl) (fun s_2 => (dt_int (dd_var (emb := D.int) 1 rfl))) (fun s_2 => bk_cons (Γ1 := fun j_3 : Int => [.ow (.imm (D.int s_2.1)), .ow (.imm (D.int s_2.2.1)), .ow (.imm (D.int j_3))]) (st_if (dt_int (dd_and (dd_var (emb := D.int) 1 rfl) dd_int)) (bk_cons (st_set 2 (df_of_dd (dd_xor (dd_var (emb := D.int) 2 rfl) (dd_var (emb := D.int) 0 rfl))) trivial rfl sc_mul.nd) fun product_4 => bk_nil (o := product_4) rfl ⟨rfl, rfl, rfl, trivial⟩) (bk_nil (o := s_2.2.2) rfl ⟨rfl, rfl, rfl, trivial⟩) trivial) fun j_3 => bk_cons (st_set 0 (df_of_dd (dd_shl (dd_var (emb := D.int) 0 rfl) dd_int)) trivial rfl sc_mul.nd) fun a_5 => bk_cons (Γ1 := fun j_6 : Int => [.ow (.imm (D.int j_6)), .ow (.imm (D.int s_2.2.1)), .ow (.imm (D.int j_3))]) (st_if (dt_int (dd_and (dd_var (emb := D.int) 0 rfl) dd_int)) (bk_cons (st_set 0 (df_of_dd (dd_xor (dd_var (emb := D.int) 0 rfl) dd_int)) trivial rfl sc_mul.nd) fun a_7 => bk_nil (o := a_7) rfl ⟨rfl, rfl, rfl, trivial⟩) (bk_nil (o := a_5) rfl ⟨rfl, rfl, rfl, trivial⟩) trivial) fun j_6 => bk_cons (st_set 1 (df_of_dd (dd_shrC (dd_var (emb := D.int) 1 rfl) dd_int (by decide))) trivial rfl sc_mul.nd) fun b_8 => bk_nil (o := (j_6, b_8, j_3)) rfl ⟨rfl, rfl, rfl, trivial⟩) ⟨rfl, rfl, rfl, trivial⟩ (fun _ => trivial)) fun s_9 => bk_ret (df_of_dd (dd_var (emb := D.int) 2 rfl)) (g := fun r => r) (fun _ => rfl) trivial trivial

theorem sc_power : FnScope ["a", "n", "product"] ["a", "n"] (defScope s_power) := ⟨rfl, rfl, rfl, by decide +kernel, rfl, by decide +kernel, by decide +kernel⟩
noncomputable def power (a : Int) (n : Int) : R Int :=
  (R.ok (1 : Int) >>= fun product_1 => (whileS (fun s_2 : Int × Int × Int => (R.ok s_2.2.1 >>= fun x => .ok (x != 0))) (fun s_2 : Int × Int × Int => ((((R.ok s_2.2.1 >>= fun x => R.ok (1 : Int) >>= fun y => .ok (Builtin.bitAnd x y)) >>= fun x => .ok (x != 0)) >>= fun x => if x then (((R.ok s_2.2.2 >>= fun x => (R.ok s_2.1 >>= fun x => R.ok () >>= fun y => .ok (x, y)) >>= fun y => .ok (x, y)) >>= fun p : Int × Int × Unit => (mul p.1 p.2.1)) >>= fun product_4 => R.ok product_4) else R.ok s_2.2.2) >>= fun j_3 : Int => (((R.ok s_2.1 >>= fun x => (R.ok s_2.1 >>= fun x => R.ok () >>= fun y => .ok (x, y)) >>= fun y => .ok (x, y)) >>= fun p : Int × Int × Unit => (mul p.1 p.2.1)) >>= fun a_5 => ((R.ok s_2.2.1 >>= fun x => .ok (x / 2 ^ (1 : Int).toNat)) >>= fun n_6 => R.ok (a_5, n_6, j_3))))) (a, n, product_1) >>= fun s_7 : Int × Int × Int => (R.ok s_7.2.2 >>= fun r => .ok (r))))
theorem ok_power (Tx : Tx K mg) : FnOk P w K mg base (L2.CX P w) 2 Tx.a_power Tx.d_power ["a", "n"]
    (SpF ⟨K, mg⟩ (fun p : Int × Int × Unit => [D.int p.1, D.int p.2.1]) (fun r : Int => .imm (D.int r)) (fun p => power p.1 p.2.1)) := by
  refine fn_pure Tx.F_power sc_power (fun _ => rfl) fun cdv A outer s H E hr p => ?_
  obtain ⟨a, n, _⟩ := p
  exact bk_cons (st_set 2 (df_of_dd dd_int) trivial rfl sc_power.nd) fun product_1 => bk_cons (Γ1 := fun s_2 : Int × Int × Int => [.ow (.imm (D.int s_2.1)), .ow (.imm (D.int s_2.2.1)), .ow (.imm (D.int s_2.2.2))]) (st_whileS (Γs := fun s_2 : Int × Int × Int => [.ow (.imm (D.int s_2.1)), .ow (.imm (D.int s_2.2.1)), .ow (.imm (D.int s_2.2.2))]) (a, n, product_1) (passes_of rfl) (fun s_2 => (dt_int (dd_var (emb := D.int) 1 rfl))) (fun s_2 => bk_cons (Γ1 := fun j_3 : Int => [.ow (.imm (D.int s_2.1)), .ow (.imm (D.int s_2.2.1)), .ow (.imm (D.int j_3))]) (st_if (dt_int (dd_and (dd_var (emb := D.int) 1 rfl) dd_int)) (bk_cons (st_set 2 (df_of_dd (dd_imm (df_call (ok_mul Tx) (hr.mono (by decide)) Tx.g_mul Tx.F_mul.kp Tx.b_mul (takes_of rfl rfl rfl rfl) (da_cons (dd_var (emb := D.int) 2 rfl) (da_cons (dd_var (emb := D.int) 0 rfl) da_nil))))) trivial rfl sc_power.nd) fun product_4 => bk_nil (o := product_4) rfl ⟨rfl, rfl, rfl, trivial⟩) (bk_nil (o := s_2.2.2) rfl ⟨rfl, rfl, rfl, trivial⟩) trivial) fun j_3 => bk_cons (st_set 0 (df_of_dd (dd_imm (df_call (ok_mul Tx) (hr.mono (by decide)) Tx.g_mul Tx.F_mul.kp Tx.b_mul (takes_of rfl rfl rfl rfl) (da_cons (dd_var (emb := D.int) 0 rfl) (da_cons (dd_var (emb := D.int) 0 rfl) da_nil))))) trivial rfl sc_power.nd) fun a_5 => bk_cons (st_set 1 (df_of_dd (dd_shrC (dd_var (emb := D.int) 1 rfl) dd_int (by decide))) trivial rfl sc_power.nd) fun n_6 => bk_nil (o := (a_5, n_6, j_3)) rfl ⟨rfl, rfl, rfl, trivial⟩) ⟨rfl, rfl, rfl, trivial⟩ (fun _ => trivial)) fun s_7 => bk_ret (df_of_dd (dd_var (emb := D.int) 2 rfl)) (g := fun r => r) (fun _ => rfl) trivial trivial

theorem sc_inv : FnScope ["a"] ["a"] (defScope s_inv) := ⟨rfl, rfl, rfl, by decide +kernel, rfl, by decide +kernel, by decide +kernel⟩
noncomputable def inv (a : Int) : R Int :=
  ((R.ok a >>= fun x => R.ok (0 : Int) >>= fun y => .ok (decide (x = y))) >>= fun x => if x then R.err ("ZeroElement" : Str) else (((R.ok a >>= fun x => (R.ok (254 : Int) >>= fun x => R.ok () >>= fun y => .ok (x, y)) >>= fun y => .ok (x, y)) >>= fun p : Int × Int × Unit => (power p.1 p.2.1)) >>= fun r => .ok (r)))
theorem ok_inv (Tx : Tx K mg) : FnOk P w K mg base (L2.CX P w) 3 Tx.a_inv Tx.d_inv ["a"]
    (SpF ⟨K, mg⟩ (fun p : Int × Unit => [D.int p.1]) (fun r : Int => .imm (D.int r)) (fun p => inv p.1)) := by
  refine fn_pure Tx.F_inv sc_inv (fun _ => rfl) fun cdv A outer s H E hr p => ?_
  obtain ⟨a, _⟩ := p
  exact bk_ifX (dt_eqI (dd_var (emb := D.int) 0 rfl) dd_int) (bk_raise Tx.x_ZeroElement rfl (takes_of rfl rfl rfl rfl) trivial) (bk_ret (df_of_dd (dd_imm (df_call (ok_power Tx) (hr.mono (by decide)) Tx.g_power Tx.F_power.kp Tx.b_power (takes_of rfl rfl rfl rfl) (da_cons (dd_var (emb := D.int) 0 rfl) (da_cons dd_int da_nil))))) (g := fun r => r) (fun _ => rfl) trivial trivial) trivial

theorem sc_div : FnScope ["a", "b"] ["a", "b"] (defScope s_div) := ⟨rfl, rfl, rfl, by decide +kernel, rfl, by decide +kernel, by decide +kernel⟩
noncomputable def div (a : Int) (b : Int) : R Int :=
  (((R.ok a >>= fun x => (((R.ok b >>= fun x => R.ok () >>= fun y => .ok (x, y)) >>= fun p : Int × Unit => (inv p.1)) >>= fun x => R.ok () >>= fun y => .ok (x, y)) >>= fun y => .ok (x, y)) >>= fun p : Int × Int × Unit => (mul p.1 p.2.1)) >>= fun r => .ok (r))
theorem ok_div (Tx : Tx K mg) : FnOk P w K mg base (L2.CX P w) 4 Tx.a_div Tx.d_div ["a", "b"]
    (SpF ⟨K, mg⟩ (fun p : Int × Int × Unit => [D.int p.1, D.int p.2.1]) (fun r : Int => .imm (D.int r)) (fun p => div p.1 p.2.1)) := by
  refine fn_pure Tx.F_div sc_div (fun _ => rfl) fun cdv A outer s H E hr p => ?_
  obtain ⟨a, b, _⟩ := p
  exact bk_ret (df_of_dd (dd_imm (df_call (ok_mul Tx) (hr.mono (by decide)) Tx.g_mul Tx.F_mul.kp Tx.b_mul (takes_of rfl rfl rfl rfl) (da_cons (dd_var (emb := D.int) 0 rfl) (da_cons (dd_imm (df_call (ok_inv Tx) (hr.mono (by decide)) Tx.g_inv Tx.F_inv.kp Tx.b_inv (takes_of rfl rfl rfl rfl) (da_cons (dd_var (emb := D.int) 1 rfl) da_nil))) da_nil))))) (g := fun r => r) (fun _ => rfl) trivial trivial

theorem sc__law_is_integer : FnScope ["actual"] ["actual"] (defScope s__law_is_integer) := ⟨rfl, rfl, rfl, by decide +kernel, rfl, by decide +kernel, by decide +kernel⟩
noncomputable def _law_is_integer (actual : Int) : R Bool :=
  (((R.ok actual >>= fun _ => .ok true) >>= fun x => if x then ((R.ok actual >>= fun _ => .ok false) >>= fun x => .ok !x) else .ok false) >>= fun r => .ok (r))
theorem ok__law_is_integer (Tx : Tx K mg) : FnOk P w K mg base (L2.CX P w) 1 Tx.a__law_is_integer Tx.d__law_is_integer ["actual"]
    (SpF ⟨K, mg⟩ (fun p : Int × Unit => [D.int p.1]) (fun r : Bool => .imm (D.bl r)) (fun p => _law_is_integer p.1)) := by
  refine fn_pure Tx.F__law_is_integer sc__law_is_integer (fun _ => rfl) fun cdv A outer s H E hr p => ?_
  obtain ⟨actual, _⟩ := p
  exact bk_ret (df_of_dd (dd_andB (dd_isi (emb := D.int) (t := "int") (u := "int") (dd_var (emb := D.int) 0 rfl) Tx.b_isinstance Tx.b_int (by decide +kernel) (fun _ => rfl) (by decide +kernel)) (dd_one (dd_notB (dd_isi (emb := D.int) (t := "int") (u := "bool") (dd_var (emb := D.int) 0 rfl) Tx.b_isinstance Tx.b_bool (by decide +kernel) (fun _ => rfl) (by decide +kernel)))))) (g := fun r => r) (fun _ => rfl) trivial trivial

theorem sc_add : FnScope ["a", "b"] ["a", "b"] (defScope s_add) := ⟨rfl, rfl, rfl, by decide +kernel, rfl, by decide +kernel, by decide +kernel⟩
noncomputable def add (a : Int) (b : Int) : R Int :=
  ((R.ok a >>= fun x => R.ok b >>= fun y => .ok (Builtin.bitXor x y)) >>= fun r => .ok (r))
theorem ok_add (Tx : Tx K mg) : FnOk P w K mg base (L2.CX P w) 1 Tx.a_add Tx.d_add ["a", "b"]
    (SpF ⟨K, mg⟩ (fun p : Int × Int × Unit => [D.int p.1, D.int p.2.1]) (fun r : Int => .imm (D.int r)) (fun p => add p.1 p.2.1)) := by
  refine fn_pure Tx.F_add sc_add (fun _ => rfl) fun cdv A outer s H E hr p => ?_
  obtain ⟨a, b, _⟩ := p
  exact bk_ret (df_of_dd (dd_xor (dd_var (emb := D.int) 0 rfl) (dd_var (emb := D.int) 1 rfl))) (g := fun r => r) (fun _ => rfl) trivial trivial

theorem sc__law_mul : FnScope ["a", "b", "product", "k"] ["a", "b"] (defScope s__law_mul) := ⟨rfl, rfl, rfl, by decide +kernel, rfl, by decide +kernel, by decide +kernel⟩
noncomputable def _law_mul (a : Int) (b : Int) : R Int :=
  (R.ok (0 : Int) >>= fun product_1 => (((R.ok (8 : Int) >>= fun n => ofO (rangeO 0 n)) >>= fun xs => forS (fun (x_3 : Int) (s_2 : Int × Int × Int) => ((((R.ok s_2.2.1 >>= fun x => R.ok (1 : Int) >>= fun y => .ok (Builtin.bitAnd x y)) >>= fun x => .ok (x != 0)) >>= fun x => if x then ((R.ok s_2.2.2 >>= fun x => R.ok s_2.1 >>= fun y => .ok (Builtin.bitXor x y)) >>= fun product_5 => R.ok product_5) else R.ok s_2.2.2) >>= fun j_4 : Int => ((R.ok s_2.2.1 >>= fun x => .ok (x / 2 ^ (1 : Int).toNat)) >>= fun b_6 => ((R.ok s_2.1 >>= fun x => R.ok (1 : Int) >>= fun y => ofO (shlO x y)) >>= fun a_7 => (((R.ok a_7 >>= fun x => R.ok (255 : Int) >>= fun y => .ok (decide (y < x))) >>= fun x => if x then ((R.ok a_7 >>= fun x => R.ok (285 : Int) >>= fun y => .ok (Builtin.bitXor x y)) >>= fun a_9 => R.ok a_9) else R.ok a_7) >>= fun j_8 : Int => R.ok (j_8, b_6, j_4)))))) xs (a, b, product_1)) >>= fun s_10 : Int × Int × Int => (R.ok s_10.2.2 >>= fun r => .ok (r))))
theorem ok__law_mul (Tx : Tx K mg) : FnOk P w K mg base (L2.CX P w) 1 Tx.a__law_mul Tx.d__law_mul ["a", "b"]
    (SpF ⟨K, mg⟩ (fun p : Int × Int × Unit => [D.int p.1, D.int p.2.1]) (fun r : Int => .imm (D.int r)) (fun p => _law_mul p.1 p.2.1)) := by
  refine fn_pure Tx.F__law_mul sc__law_mul (fun _ => rfl) fun cdv A outer s H E hr p => ?_
  obtain ⟨a, b, _⟩ := p
  exact bk_cons (st_set 2 (df_of_dd dd_int) trivial rfl sc__law_mul.nd) fun product_1 => bk_cons (Γ1 := fun s_2 : Int × Int × Int => [.ow (.imm (D.int s_2.1)), .ow (.imm (D.int s_2.2.1)), .ow (.imm (D.int s_2.2.2)), .un]) (st_forS (Γs := fun s_2 : Int × Int × Int => [.ow (.imm (D.int s_2.1)), .ow (.imm (D.int s_2.2.1)), .ow (.imm (D.int s_2.2.2)), .un]) (ei := D.int) (a, b, product_1) (passes_of rfl) rfl (di_range1 dd_int Tx.b_range) (fun s_2 x_3 => (dg_name 3 sc__law_mul.nd)) (fun s_2 x_3 => bk_cons (Γ1 := fun j_4 : Int => [.ow (.imm (D.int s_2.1)), .ow (.imm (D.int s_2.2.1)), .ow (.imm (D.int j_4)), .ow (.imm (D.int x_3))]) (st_if (dt_int (dd_and (dd_var (emb := D.int) 1 rfl) dd_int)) (bk_cons (st_set 2 (df_of_dd (dd_xor (dd_var (emb := D.int) 2 rfl) (dd_var (emb := D.int) 0 rfl))) trivial rfl sc__law_mul.nd) fun product_5 => bk_nil (o := product_5) rfl ⟨rfl, rfl, rfl, rfl, trivial⟩) (bk_nil (o := s_2.2.2) rfl ⟨rfl, rfl, rfl, rfl, trivial⟩) trivial) fun j_4 => bk_cons (st_set 1 (df_of_dd (dd_shrC (dd_var (emb := D.int) 1 rfl) dd_int (by decide))) trivial rfl sc__law_mul.nd) fun b_6 => bk_cons (st_set 0 (df_of_dd (dd_shl (dd_var (emb := D.int) 0 rfl) dd_int)) trivial rfl sc__law_mul.nd) fun a_7 => bk_cons (Γ1 := fun j_8 : Int => [.ow (.imm (D.int j_8)), .ow (.imm (D.int b_6)), .ow (.imm (D.int j_4)), .ow (.imm (D.int x_3))]) (st_if (dt_gt (dd_var (emb := D.int) 0 rfl) dd_int) (bk_cons (st_set 0 (df_of_dd (dd_xor (dd_var (emb := D.int) 0 rfl) dd_int)) trivial rfl sc__law_mul.nd) fun a_9 => bk_nil (o := a_9) rfl ⟨rfl, rfl, rfl, rfl, trivial⟩) (bk_nil (o := a_7) rfl ⟨rfl, rfl, rfl, rfl, trivial⟩) trivial) fun j_8 => bk_nil (o := (j_8, b_6, j_4)) rfl ⟨rfl, rfl, rfl, trivial⟩) ⟨rfl, rfl, rfl, trivial⟩ trivial) fun s_10 => bk_ret (df_of_dd (dd_var (emb := D.int) 2 rfl)) (g := fun r => r) (fun _ => rfl) trivial trivial

theorem sc__law_power : FnScope ["a", "n", "product", "k"] ["a", "n"] (defScope s__law_power) := ⟨rfl, rfl, rfl, by decide +kernel, rfl, by decide +kernel, by decide +kernel⟩
noncomputable def _law_power (a : Int) (n : Int) : R Int :=
  (R.ok (1 : Int) >>= fun product_1 => (((R.ok n >>= fun n => ofO (rangeO 0 n)) >>= fun xs => forS (fun (x_3 : Int) (s_2 : Int) => (((R.ok s_2 >>= fun x => (R.ok a >>= fun x => R.ok () >>= fun y => .ok (x, y)) >>= fun y => .ok (x, y)) >>= fun p : Int × Int × Unit => (_law_mul p.1 p.2.1)) >>= fun product_4 => R.ok product_4)) xs product_1) >>= fun s_5 : Int => (R.ok s_5 >>= fun r => .ok (r))))
theorem ok__law_power (Tx : Tx K mg) : FnOk P w K mg base (L2.CX P w) 2 Tx.a__law_power Tx.d__law_power ["a", "n"]
    (SpF ⟨K, mg⟩ (fun p : Int × Int × Unit => [D.int p.1, D.int p.2.1]) (fun r : Int => .imm (D.int r)) (fun p => _law_power p.1 p.2.1)) := by
  refine fn_pure Tx.F__law_power sc__law_power (fun _ => rfl) fun cdv A outer s H E hr p => ?_
  obtain ⟨a, n, _⟩ := p
  exact bk_cons (st_set 2 (df_of_dd dd_int) trivial rfl sc__law_power.nd) fun product_1 => bk_cons (Γ1 := fun s_2 : Int => [.ow (.imm (D.int a)), .ow (.imm (D.int n)), .ow (.imm (D.int s_2)), .un]) (st_forS (Γs := fun s_2 : Int => [.ow (.imm (D.int a)), .ow (.imm (D.int n)), .ow (.imm (D.int s_2)), .un]) (ei := D.int) product_1 (passes_of rfl) rfl (di_range1 (dd_var (emb := D.int) 1 rfl) Tx.b_range) (fun s_2 x_3 => (dg_name 3 sc__law_power.nd)) (fun s_2 x_3 => bk_cons (st_set 2 (df_of_dd (dd_imm (df_call (ok__law_mul Tx) (hr.mono (by decide)) Tx.g__law_mul Tx.F__law_mul.kp Tx.b__law_mul (takes_of rfl rfl rfl rfl) (da_cons (dd_var (emb := D.int) 2 rfl) (da_cons (dd_var (emb := D.int) 0 rfl) da_nil))))) trivial rfl sc__law_power.nd) fun product_4 => bk_nil (o := product_4) rfl ⟨rfl, rfl, rfl, trivial⟩) ⟨rfl, rfl, rfl, trivial⟩ trivial) fun s_5 => bk_ret (df_of_dd (dd_var (emb := D.int) 2 rfl)) (g := fun r => r) (fun _ => rfl) trivial trivial

theorem sc__law_refuses : FnScope ["word", "a", "b", "e"] ["word", "a", "b"] (defScope s__law_refuses) := ⟨rfl, rfl, rfl, by decide +kernel, rfl, by decide +kernel, by decide +kernel⟩
noncomputable def _law_refuses (word : Str) (a : Int) (b : Int) : R Bool :=
  ((catchL [("ZeroElement", true, (((R.ok true >>= fun x => .ok !x) >>= fun x => if x then .ok true else (R.ok true >>= fun x => .ok !x)) >>= fun x => if x then (R.ok false >>= fun r => .ok (Sum.inr (r))) else (((R.ok false >>= fun x => .ok !x) >>= fun x => if x then (R.ok false >>= fun x => .ok !x) else .ok false) >>= fun r => .ok (Sum.inr (r)))))] (((R.ok word >>= fun x => R.ok ("inv" : Str) >>= fun y => .ok (decide (x = y))) >>= fun x => if x then (((R.ok b >>= fun x => R.ok () >>= fun y => .ok (x, y)) >>= fun p : Int × Unit => (inv p.1)) >>= fun _ => R.ok ()) else (((R.ok a >>= fun x => (R.ok b >>= fun x => R.ok () >>= fun y => .ok (x, y)) >>= fun y => .ok (x, y)) >>= fun p : Int × Int × Unit => (div p.1 p.2.1)) >>= fun _ => R.ok ())) >>= fun j_2 : Unit => R.ok (Sum.inl ()))) >>= sumK (fun j_1 : Unit => (R.ok false >>= fun r => .ok (r))) .ok)
theorem ok__law_refuses (Tx : Tx K mg) : FnOk P w K mg base (L2.CX P w) 5 Tx.a__law_refuses Tx.d__law_refuses ["word", "a", "b"]
    (SpF ⟨K, mg⟩ (fun p : Str × Int × Int × Unit => [D.str p.1, D.int p.2.1, D.int p.2.2.1]) (fun r : Bool => .imm (D.bl r)) (fun p => _law_refuses p.1 p.2.1 p.2.2.1)) := by
  refine fn_pure Tx.F__law_refuses sc__law_refuses (fun _ => rfl) fun cdv A outer s H E hr p => ?_
  obtain ⟨word, a, b, _⟩ := p
  exact bk_consX (Γ1 := fun j_1 : Unit => [.ow (.imm (D.str word)), .ow (.imm (D.int a)), .ow (.imm (D.int b)), .un]) (st_rr (st_tryAsL (Γt := [.ow (.imm (D.str word)), .ow (.imm (D.int a)), .ow (.imm (D.int b)), .un]) 3 sc__law_refuses.nd (show Names _ "CairnError" _ from ⟨rfl, by decide, .inl Tx.gc_CairnError⟩) (takes_of rfl rfl rfl rfl) (fun W' pn xe tk' po' => bk_cons (Γ1 := fun j_2 : Unit => [.ow (.imm (D.str word)), .ow (.imm (D.int a)), .ow (.imm (D.int b)), .un]) (st_if (dt_eqS (dd_var (emb := D.str) 0 rfl) dd_str) (bk_cons (st_expr (db_of_dd (dd_imm (df_call (ok_inv Tx) (hr.mono (by decide)) Tx.g_inv Tx.F_inv.kp Tx.b_inv tk' (da_cons (dd_var (emb := D.int) 2 rfl) da_nil)))) ⟨rfl, rfl, rfl, trivial⟩) fun _ => bk_nil (o := ()) rfl ⟨rfl, rfl, rfl, trivial⟩) (bk_cons (st_expr (db_of_dd (dd_imm (df_call (ok_div Tx) (hr.mono (by decide)) Tx.g_div Tx.F_div.kp Tx.b_div tk' (da_cons (dd_var (emb := D.int) 1 rfl) (da_cons (dd_var (emb := D.int) 2 rfl) da_nil))))) ⟨rfl, rfl, rfl, trivial⟩) fun _ => bk_nil (o := ()) rfl ⟨rfl, rfl, rfl, trivial⟩) ⟨rfl, rfl, rfl, trivial⟩) fun j_2 => bk_nil (o := (Sum.inl ())) rfl ⟨rfl, rfl, rfl, trivial⟩) (List.forall_mem_cons.mpr ⟨xm_at Tx.x_ZeroElement.g Tx.xm_ZeroElement_CairnError, (List.forall_mem_nil _)⟩) (List.forall_mem_cons.mpr ⟨(fun _ D g a oe pn hz hv => by obtain rfl : Tx.e_ZeroElement = D := Value.ref.inj (Option.some.inj (Tx.x_ZeroElement.g.symm.trans g)); exact bk_ifX (dt_dw (dw_or (dt_not (dt_bl (dd_isE (cV := .ref Tx.e_ZeroElement) 3 rfl Tx.xc_ZeroElement hz hv Tx.b_isinstance (pe_glob rfl Tx.gc_ZeroElement rfl) (fun _ h => h) Tx.ki_ZeroElement_ZeroElement))) (dw_one (dt_not (dt_bl (dd_isE (cV := .ty "ValueError") 3 rfl Tx.xc_ZeroElement hz hv Tx.b_isinstance (pe_bltn rfl Tx.b_ValueError (by decide +kernel) rfl) (fun _ h => h) Tx.ki_ZeroElement_ValueError))) (by first | exact .inl rfl | exact .inr rfl)))) (bk_ret (df_of_dd dd_bl) (g := fun r => Sum.inr (r)) (fun _ => rfl) trivial trivial) (bk_ret (df_of_dd (dd_andB (dd_notB (dd_isE (cV := .ref Tx.e_DuplicatePoint) 3 rfl Tx.xc_ZeroElement hz hv Tx.b_isinstance (pe_glob rfl Tx.gc_DuplicatePoint rfl) (fun _ h => h) Tx.ki_ZeroElement_DuplicatePoint)) (dd_one (dd_notB (dd_isE (cV := .ref Tx.e_ShapeMismatch) 3 rfl Tx.xc_ZeroElement hz hv Tx.b_isinstance (pe_glob rfl Tx.gc_ShapeMismatch rfl) (fun _ h => h) Tx.ki_ZeroElement_ShapeMismatch))))) (g := fun r => Sum.inr (r)) (fun _ => rfl) trivial trivial) trivial), (List.forall_mem_nil _)⟩) trivial)) fun j_1 => bk_ret (df_of_dd dd_bl) (g := fun r => r) (fun _ => rfl) trivial trivial

theorem sc_law : FnScope ["script", "cell", "choice", "n", "a", "b", "c", "x", "y", "opposite", "quotient", "m"] ["script"] (defScope s_law) := ⟨rfl, rfl, rfl, by decide +kernel, rfl, by decide +kernel, by decide +kernel⟩
noncomputable def law (script : (List Int)) : R Bool :=
  (((R.ok script >>= fun x => (R.ok (0 : Int) >>= fun x => R.ok () >>= fun y => .ok (x, y)) >>= fun y => .ok (x, y)) >>= fun p : (List Int) × Int × Unit => (_law_cell p.1 p.2.1)) >>= fun cell_1 => ((((R.ok cell_1 >>= fun x => (R.ok (3 : Int) >>= fun x => (R.ok (256 : Int) >>= fun x => R.ok () >>= fun y => .ok (x, y)) >>= fun y => .ok (x, y)) >>= fun y => .ok (x, y)) >>= fun p : Int × Int × Int × Unit => (_law_digits p.1 p.2.1 p.2.2.1)) >>= fun xs => ofO (unp3 xs)) >>= fun u_2 => ((((R.ok script >>= fun x => (R.ok (1 : Int) >>= fun x => R.ok () >>= fun y => .ok (x, y)) >>= fun y => .ok (x, y)) >>= fun p : (List Int) × Int × Unit => (_law_cell p.1 p.2.1)) >>= fun x => .ok (x % 4)) >>= fun choice_3 => (((R.ok choice_3 >>= fun x => R.ok (1 : Int) >>= fun y => .ok (decide (x = y))) >>= fun x => if x then (R.ok (0 : Int) >>= fun a_5 => R.ok a_5) else R.ok u_2.1) >>= fun j_4 : Int => (((R.ok choice_3 >>= fun x => R.ok (2 : Int) >>= fun y => .ok (decide (x = y))) >>= fun x => if x then (R.ok (0 : Int) >>= fun b_7 => R.ok b_7) else R.ok u_2.2.1) >>= fun j_6 : Int => ((((R.ok script >>= fun x => (R.ok (2 : Int) >>= fun x => R.ok () >>= fun y => .ok (x, y)) >>= fun y => .ok (x, y)) >>= fun p : (List Int) × Int × Unit => (_law_cell p.1 p.2.1)) >>= fun x => .ok (x % 1001)) >>= fun n_8 => ((((((R.ok j_4 >>= fun x => (R.ok j_6 >>= fun x => R.ok () >>= fun y => .ok (x, y)) >>= fun y => .ok (x, y)) >>= fun p => .ok ((fun p : Int × Int × Unit => ((p.1, p.2.1) : (Int × Int))) p)) >>= fun x => (((R.ok j_6 >>= fun x => (R.ok j_4 >>= fun x => R.ok () >>= fun y => .ok (x, y)) >>= fun y => .ok (x, y)) >>= fun p => .ok ((fun p : Int × Int × Unit => ((p.1, p.2.1) : (Int × Int))) p)) >>= fun x => (((R.ok j_4 >>= fun x => (R.ok u_2.2.2 >>= fun x => R.ok () >>= fun y => .ok (x, y)) >>= fun y => .ok (x, y)) >>= fun p => .ok ((fun p : Int × Int × Unit => ((p.1, p.2.1) : (Int × Int))) p)) >>= fun x => (((R.ok j_4 >>= fun x => (R.ok j_4 >>= fun x => R.ok () >>= fun y => .ok (x, y)) >>= fun y => .ok (x, y)) >>= fun p => .ok ((fun p : Int × Int × Unit => ((p.1, p.2.1) : (Int × Int))) p)) >>= fun x => R.ok () >>= fun y => .ok (x, y)) >>= fun y => .ok (x, y)) >>= fun y => .ok (x, y)) >>= fun y => .ok (x, y)) >>= fun p => .ok ((fun p : (Int × Int) × (Int × Int) × (Int × Int) × (Int × Int) × Unit => ([p.1, p.2.1, p.2.2.1, p.2.2.2.1] : List (Int × Int))) p)) >>= fun xs => forX (fun (x_10 : (Int × Int)) (s_9 : Unit) => (((((((R.ok x_10.1 >>= fun x => (R.ok x_10.2 >>= fun x => R.ok () >>= fun y => .ok (x, y)) >>= fun y => .ok (x, y)) >>= fun p : Int × Int × Unit => (add p.1 p.2.1)) >>= fun x => R.ok () >>= fun y => .ok (x, y)) >>= fun p : Int × Unit => (_law_is_integer p.1)) >>= fun x => .ok !x) >>= fun x => if x then .ok true else (((R.ok x_10.1 >>= fun x => (R.ok x_10.2 >>= fun x => R.ok () >>= fun y => .ok (x, y)) >>= fun y => .ok (x, y)) >>= fun p : Int × Int × Unit => (add p.1 p.2.1)) >>= fun x => (R.ok x_10.1 >>= fun x => R.ok x_10.2 >>= fun y => .ok (Builtin.bitXor x y)) >>= fun y => .ok (!decide (x = y)))) >>= fun x => if x then (R.ok false >>= fun r => .ok (Lo.ex (r))) else (((((((R.ok x_10.1 >>= fun x => (R.ok x_10.2 >>= fun x => R.ok () >>= fun y => .ok (x, y)) >>= fun y => .ok (x, y)) >>= fun p : Int × Int × Unit => (mul p.1 p.2.1)) >>= fun x => R.ok () >>= fun y => .ok (x, y)) >>= fun p : Int × Unit => (_law_is_integer p.1)) >>= fun x => .ok !x) >>= fun x => if x then .ok true else (((R.ok x_10.1 >>= fun x => (R.ok x_10.2 >>= fun x => R.ok () >>= fun y => .ok (x, y)) >>= fun y => .ok (x, y)) >>= fun p : Int × Int × Unit => (mul p.1 p.2.1)) >>= fun x => ((R.ok x_10.1 >>= fun x => (R.ok x_10.2 >>= fun x => R.ok () >>= fun y => .ok (x, y)) >>= fun y => .ok (x, y)) >>= fun p : Int × Int × Unit => (_law_mul p.1 p.2.1)) >>= fun y => .ok (!decide (x = y)))) >>= fun x => if x then (R.ok false >>= fun r => .ok (Lo.ex (r))) else ((R.ok x_10.2 >>= fun x => R.ok (0 : Int) >>= fun y => .ok (decide (x = y))) >>= fun x => if x then (((((R.ok ("div" : Str) >>= fun x => (R.ok x_10.1 >>= fun x => (R.ok x_10.2 >>= fun x => R.ok () >>= fun y => .ok (x, y)) >>= fun y => .ok (x, y)) >>= fun y => .ok (x, y)) >>= fun p : Str × Int × Int × Unit => (_law_refuses p.1 p.2.1 p.2.2.1)) >>= fun x => .ok !x) >>= fun x => if x then .ok true else (((R.ok ("inv" : Str) >>= fun x => (R.ok x_10.1 >>= fun x => (R.ok x_10.2 >>= fun x => R.ok () >>= fun y => .ok (x, y)) >>= fun y => .ok (x, y)) >>= fun y => .ok (x, y)) >>= fun p : Str × Int × Int × Unit => (_law_refuses p.1 p.2.1 p.2.2.1)) >>= fun x => .ok !x)) >>= fun x => if x then (R.ok false >>= fun r => .ok (Lo.ex (r))) else R.ok (Lo.nx ())) else (((R.ok x_10.2 >>= fun x => R.ok () >>= fun y => .ok (x, y)) >>= fun p : Int × Unit => (inv p.1)) >>= fun opposite_11 => (((((R.ok opposite_11 >>= fun x => R.ok () >>= fun y => .ok (x, y)) >>= fun p : Int × Unit => (_law_is_integer p.1)) >>= fun x => .ok !x) >>= fun x => if x then .ok true else ((R.ok opposite_11 >>= fun x => R.ok (1 : Int) >>= fun y => .ok (decide (x < y))) >>= fun x => if x then .ok true else ((R.ok opposite_11 >>= fun x => R.ok (255 : Int) >>= fun y => .ok (decide (y < x))) >>= fun x => if x then .ok true else (((R.ok x_10.2 >>= fun x => (R.ok opposite_11 >>= fun x => R.ok () >>= fun y => .ok (x, y)) >>= fun y => .ok (x, y)) >>= fun p : Int × Int × Unit => (_law_mul p.1 p.2.1)) >>= fun x => R.ok (1 : Int) >>= fun y => .ok (!decide (x = y)))))) >>= fun x => if x then (R.ok false >>= fun r => .ok (Lo.ex (r))) else (((R.ok x_10.1 >>= fun x => (R.ok x_10.2 >>= fun x => R.ok () >>= fun y => .ok (x, y)) >>= fun y => .ok (x, y)) >>= fun p : Int × Int × Unit => (div p.1 p.2.1)) >>= fun quotient_12 => (((((R.ok quotient_12 >>= fun x => R.ok () >>= fun y => .ok (x, y)) >>= fun p : Int × Unit => (_law_is_integer p.1)) >>= fun x => .ok !x) >>= fun x => if x then .ok true else (R.ok quotient_12 >>= fun x => ((R.ok x_10.1 >>= fun x => (R.ok opposite_11 >>= fun x => R.ok () >>= fun y => .ok (x, y)) >>= fun y => .ok (x, y)) >>= fun p : Int × Int × Unit => (_law_mul p.1 p.2.1)) >>= fun y => .ok (!decide (x = y)))) >>= fun x => if x then (R.ok false >>= fun r => .ok (Lo.ex (r))) else R.ok (Lo.nx ()))))))))) xs ()) >>= sumK (fun s_13 : Unit => ((((((R.ok j_4 >>= fun x => (R.ok n_8 >>= fun x => R.ok () >>= fun y => .ok (x, y)) >>= fun y => .ok (x, y)) >>= fun p => .ok ((fun p : Int × Int × Unit => ((p.1, p.2.1) : (Int × Int))) p)) >>= fun x => (((R.ok j_6 >>= fun x => ((R.ok n_8 >>= fun x => .ok (x / 7)) >>= fun x => R.ok () >>= fun y => .ok (x, y)) >>= fun y => .ok (x, y)) >>= fun p => .ok ((fun p : Int × Int × Unit => ((p.1, p.2.1) : (Int × Int))) p)) >>= fun x => (((R.ok (0 : Int) >>= fun x => (R.ok n_8 >>= fun x => R.ok () >>= fun y => .ok (x, y)) >>= fun y => .ok (x, y)) >>= fun p => .ok ((fun p : Int × Int × Unit => ((p.1, p.2.1) : (Int × Int))) p)) >>= fun x => (((R.ok u_2.2.2 >>= fun x => (R.ok (0 : Int) >>= fun x => R.ok () >>= fun y => .ok (x, y)) >>= fun y => .ok (x, y)) >>= fun p => .ok ((fun p : Int × Int × Unit => ((p.1, p.2.1) : (Int × Int))) p)) >>= fun x => (((R.ok u_2.2.2 >>= fun x => (R.ok (255 : Int) >>= fun x => R.ok () >>= fun y => .ok (x, y)) >>= fun y => .ok (x, y)) >>= fun p => .ok ((fun p : Int × Int × Unit => ((p.1, p.2.1) : (Int × Int))) p)) >>= fun x => R.ok () >>= fun y => .ok (x, y)) >>= fun y => .ok (x, y)) >>= fun y => .ok (x, y)) >>= fun y => .ok (x, y)) >>= fun y => .ok (x, y)) >>= fun p => .ok ((fun p : (Int × Int) × (Int × Int) × (Int × Int) × (Int × Int) × (Int × Int) × Unit => ([p.1, p.2.1, p.2.2.1, p.2.2.2.1, p.2.2.2.2.1] : List (Int × Int))) p)) >>= fun xs => forX (fun (x_15 : (Int × Int)) (s_14 : Unit) => (((((((R.ok x_15.1 >>= fun x => (R.ok x_15.2 >>= fun x => R.ok () >>= fun y => .ok (x, y)) >>= fun y => .ok (x, y)) >>= fun p : Int × Int × Unit => (power p.1 p.2.1)) >>= fun x => R.ok () >>= fun y => .ok (x, y)) >>= fun p : Int × Unit => (_law_is_integer p.1)) >>= fun x => .ok !x) >>= fun x => if x then .ok true else (((R.ok x_15.1 >>= fun x => (R.ok x_15.2 >>= fun x => R.ok () >>= fun y => .ok (x, y)) >>= fun y => .ok (x, y)) >>= fun p : Int × Int × Unit => (power p.1 p.2.1)) >>= fun x => ((R.ok x_15.1 >>= fun x => (R.ok x_15.2 >>= fun x => R.ok () >>= fun y => .ok (x, y)) >>= fun y => .ok (x, y)) >>= fun p : Int × Int × Unit => (_law_power p.1 p.2.1)) >>= fun y => .ok (!decide (x = y)))) >>= fun x => if x then (R.ok false >>= fun r => .ok (Lo.ex (r))) else R.ok (Lo.nx ()))) xs ()) >>= sumK (fun s_16 : Unit => (R.ok true >>= fun r => .ok (r))) .ok)) .ok)))))))
theorem ok_law (Tx : Tx K mg) : FnOk P w K mg base (L2.CX P w) 6 Tx.a_law Tx.d_law ["script"]
    (SpF ⟨K, mg⟩ (fun p : (List Int) × Unit => [D.frl ((p.1).map D.int)]) (fun r : Bool => .imm (D.bl r)) (fun p => law p.1)) := by
  refine fn_pure Tx.F_law sc_law (fun _ => rfl) fun cdv A outer s H E hr p => ?_
  obtain ⟨script, _⟩ := p
  exact bk_cons (st_set 1 (df_of_dd (dd_imm (df_call (ok__law_cell Tx) (hr.mono (by decide)) Tx.g__law_cell Tx.F__law_cell.kp Tx.b__law_cell (takes_of rfl rfl rfl rfl) (da_cons (dd_var (emb := (fun xs : (List Int) => D.frl (xs.map D.int))) 0 rfl) (da_cons dd_int da_nil))))) trivial rfl sc_law.nd) fun cell_1 => bk_cons (st_asg (dd_unp3L (ei := D.int) (dd_list (ε := D.int) (df_call (ok__law_digits Tx) (hr.mono (by decide)) Tx.g__law_digits Tx.F__law_digits.kp Tx.b__law_digits (takes_of rfl rfl rfl rfl) (da_cons (dd_var (emb := D.int) 1 rfl) (da_cons dd_int (da_cons dd_int da_nil)))))) (fun u_2 => dg_unl rfl (dgs_cons (dg_name 4 sc_law.nd) (dgs_cons (dg_name 5 sc_law.nd) (dgs_cons (dg_name 6 sc_law.nd) dgs_nil)))) trivial) fun u_2 => bk_cons (st_set 2 (df_of_dd (dd_modC (dd_intI (dd_imm (df_call (ok__law_cell Tx) (hr.mono (by decide)) Tx.g__law_cell Tx.F__law_cell.kp Tx.b__law_cell (takes_of rfl rfl rfl rfl) (da_cons (dd_var (emb := (fun xs : (List Int) => D.frl (xs.map D.int))) 0 rfl) (da_cons dd_int da_nil)))) Tx.b_int) dd_int (by decide))) trivial rfl sc_law.nd) fun choice_3 => bk_cons (Γ1 := fun j_4 : Int => [.ow (.imm (D.frl ((script).map D.int))), .ow (.imm (D.int cell_1)), .ow (.imm (D.int choice_3)), .un, .ow (.imm (D.int j_4)), .ow (.imm (D.int u_2.2.1)), .ow (.imm (D.int u_2.2.2)), .un, .un, .un, .un, .un]) (st_if (dt_eqI (dd_var (emb := D.int) 2 rfl) dd_int) (bk_cons (st_set 4 (df_of_dd dd_int) trivial rfl sc_law.nd) fun a_5 => bk_nil (o := a_5) rfl ⟨rfl, rfl, rfl, rfl, rfl, rfl, trivial⟩) (bk_nil (o := u_2.1) rfl ⟨rfl, rfl, rfl, rfl, rfl, rfl, trivial⟩) trivial) fun j_4 => bk_cons (Γ1 := fun j_6 : Int => [.ow (.imm (D.frl ((script).map D.int))), .ow (.imm (D.int cell_1)), .ow (.imm (D.int choice_3)), .un, .ow (.imm (D.int j_4)), .ow (.imm (D.int j_6)), .ow (.imm (D.int u_2.2.2)), .un, .un, .un, .un, .un]) (st_if (dt_eqI (dd_var (emb := D.int) 2 rfl) dd_int) (bk_cons (st_set 5 (df_of_dd dd_int) trivial rfl sc_law.nd) fun b_7 => bk_nil (o := b_7) rfl ⟨rfl, rfl, rfl, rfl, rfl, rfl, trivial⟩) (bk_nil (o := u_2.2.1) rfl ⟨rfl, rfl, rfl, rfl, rfl, rfl, trivial⟩) trivial) fun j_6 => bk_cons (st_set 3 (df_of_dd (dd_modC (dd_intI (dd_imm (df_call (ok__law_cell Tx) (hr.mono (by decide)) Tx.g__law_cell Tx.F__law_cell.kp Tx.b__law_cell (takes_of rfl rfl rfl rfl) (da_cons (dd_var (emb := (fun xs : (List Int) => D.frl (xs.map D.int))) 0 rfl) (da_cons dd_int da_nil)))) Tx.b_int) dd_int (by decide))) trivial rfl sc_law.nd) fun n_8 => bk_consX (Γ1 := fun s_9 : Unit => [.ow (.imm (D.frl ((script).map D.int))), .ow (.imm (D.int cell_1)), .ow (.imm (D.int choice_3)), .ow (.imm (D.int n_8)), .ow (.imm (D.int j_4)), .ow (.imm (D.int j_6)), .ow (.imm (D.int u_2.2.2)), .un, .un, .un, .un, .un]) (st_rr (st_for (Γs := fun s_9 : Unit => [.ow (.imm (D.frl ((script).map D.int))), .ow (.imm (D.int cell_1)), .ow (.imm (D.int choice_3)), .ow (.imm (D.int n_8)), .ow (.imm (D.int j_4)), .ow (.imm (D.int j_6)), .ow (.imm (D.int u_2.2.2)), .un, .un, .un, .un, .un]) (ei := (fun p : (Int × Int) => D.tup [D.int p.1, D.int p.2])) () (passes_of rfl) rfl (di_list (ei := (fun p : (Int × Int) => D.tup [D.int p.1, D.int p.2])) (dd_list (ε := (fun p : (Int × Int) => D.tup [D.int p.1, D.int p.2])) (df_disp (ei := (fun p : (Int × Int) => D.tup [D.int p.1, D.int p.2])) (da_cons (dd_tup (et := (fun p : (Int × Int) => D.tup [D.int p.1, D.int p.2])) (da_cons (dd_var (emb := D.int) 4 rfl) (da_cons (dd_var (emb := D.int) 5 rfl) da_nil)) (fun p : Int × Int × Unit => ((p.1, p.2.1) : (Int × Int)))) (da_cons (dd_tup (et := (fun p : (Int × Int) => D.tup [D.int p.1, D.int p.2])) (da_cons (dd_var (emb := D.int) 5 rfl) (da_cons (dd_var (emb := D.int) 4 rfl) da_nil)) (fun p : Int × Int × Unit => ((p.1, p.2.1) : (Int × Int)))) (da_cons (dd_tup (et := (fun p : (Int × Int) => D.tup [D.int p.1, D.int p.2])) (da_cons (dd_var (emb := D.int) 4 rfl) (da_cons (dd_var (emb := D.int) 6 rfl) da_nil)) (fun p : Int × Int × Unit => ((p.1, p.2.1) : (Int × Int)))) (da_cons (dd_tup (et := (fun p : (Int × Int) => D.tup [D.int p.1, D.int p.2])) (da_cons (dd_var (emb := D.int) 4 rfl) (da_cons (dd_var (emb := D.int) 4 rfl) da_nil)) (fun p : Int × Int × Unit => ((p.1, p.2.1) : (Int × Int)))) da_nil)))) (fun p : (Int × Int) × (Int × Int) × (Int × Int) × (Int × Int) × Unit => ([p.1, p.2.1, p.2.2.1, p.2.2.2.1] : List (Int × Int)))))) (fun s_9 x_10 => (dg_tup rfl (dgs_cons (dg_name 7 sc_law.nd) (dgs_cons (dg_name 8 sc_law.nd) dgs_nil)))) (fun s_9 x_10 => bk_ifX (dt_dw (dw_or (dt_not (dt_bl (dd_imm (df_call (ok__law_is_integer Tx) (hr.mono (by decide)) Tx.g__law_is_integer Tx.F__law_is_integer.kp Tx.b__law_is_integer (takes_of rfl rfl rfl rfl) (da_cons (dd_imm (df_call (ok_add Tx) (hr.mono (by decide)) Tx.g_add Tx.F_add.kp Tx.b_add (takes_of rfl rfl rfl rfl) (da_cons (dd_var (emb := D.int) 7 rfl) (da_cons (dd_var (emb := D.int) 8 rfl) da_nil)))) da_nil))))) (dw_one (dt_neI (dd_imm (df_call (ok_add Tx) (hr.mono (by decide)) Tx.g_add Tx.F_add.kp Tx.b_add (takes_of rfl rfl rfl rfl) (da_cons (dd_var (emb := D.int) 7 rfl) (da_cons (dd_var (emb := D.int) 8 rfl) da_nil)))) (dd_xor (dd_var (emb := D.int) 7 rfl) (dd_var (emb := D.int) 8 rfl))) (by first | exact .inl rfl | exact .inr rfl)))) (bk_ret (df_of_dd dd_bl) (g := fun r => Lo.ex (r)) (fun _ => rfl) trivial trivial) (bk_ifX (dt_dw (dw_or (dt_not (dt_bl (dd_imm (df_call (ok__law_is_integer Tx) (hr.mono (by decide)) Tx.g__law_is_integer Tx.F__law_is_integer.kp Tx.b__law_is_integer (takes_of rfl rfl rfl rfl) (da_cons (dd_imm (df_call (ok_mul Tx) (hr.mono (by decide)) Tx.g_mul Tx.F_mul.kp Tx.b_mul (takes_of rfl rfl rfl rfl) (da_cons (dd_var (emb := D.int) 7 rfl) (da_cons (dd_var (emb := D.int) 8 rfl) da_nil)))) da_nil))))) (dw_one (dt_neI (dd_imm (df_call (ok_mul Tx) (hr.mono (by decide)) Tx.g_mul Tx.F_mul.kp Tx.b_mul (takes_of rfl rfl rfl rfl) (da_cons (dd_var (emb := D.int) 7 rfl) (da_cons (dd_var (emb := D.int) 8 rfl) da_nil)))) (dd_imm (df_call (ok__law_mul Tx) (hr.mono (by decide)) Tx.g__law_mul Tx.F__law_mul.kp Tx.b__law_mul (takes_of rfl rfl rfl rfl) (da_cons (dd_var (emb := D.int) 7 rfl) (da_cons (dd_var (emb := D.int) 8 rfl) da_nil))))) (by first | exact .inl rfl | exact .inr rfl)))) (bk_ret (df_of_dd dd_bl) (g := fun r => Lo.ex (r)) (fun _ => rfl) trivial trivial) (bk_ifX (dt_eqI (dd_var (emb := D.int) 8 rfl) dd_int) (bk_ifX (dt_dw (dw_or (dt_not (dt_bl (dd_imm (df_call (ok__law_refuses Tx) (hr.mono (by decide)) Tx.g__law_refuses Tx.F__law_refuses.kp Tx.b__law_refuses (takes_of rfl rfl rfl rfl) (da_cons dd_str (da_cons (dd_var (emb := D.int) 7 rfl) (da_cons (dd_var (emb := D.int) 8 rfl) da_nil))))))) (dw_one (dt_not (dt_bl (dd_imm (df_call (ok__law_refuses Tx) (hr.mono (by decide)) Tx.g__law_refuses Tx.F__law_refuses.kp Tx.b__law_refuses (takes_of rfl rfl rfl rfl) (da_cons dd_str (da_cons (dd_var (emb := D.int) 7 rfl) (da_cons (dd_var (emb := D.int) 8 rfl) da_nil))))))) (by first | exact .inl rfl | exact .inr rfl)))) (bk_ret (df_of_dd dd_bl) (g := fun r => Lo.ex (r)) (fun _ => rfl) trivial trivial) (bk_cont (o := (Lo.nx ())) rfl ⟨rfl, rfl, rfl, rfl, rfl, rfl, rfl, trivial⟩) trivial) (bk_cons (st_set 9 (df_of_dd (dd_imm (df_call (ok_inv Tx) (hr.mono (by decide)) Tx.g_inv Tx.F_inv.kp Tx.b_inv (takes_of rfl rfl rfl rfl) (da_cons (dd_var (emb := D.int) 8 rfl) da_nil)))) trivial rfl sc_law.nd) fun opposite_11 => bk_ifX (dt_dw (dw_or (dt_not (dt_bl (dd_imm (df_call (ok__law_is_integer Tx) (hr.mono (by decide)) Tx.g__law_is_integer Tx.F__law_is_integer.kp Tx.b__law_is_integer (takes_of rfl rfl rfl rfl) (da_cons (dd_var (emb := D.int) 9 rfl) da_nil))))) (dw_or (dt_lt (dd_var (emb := D.int) 9 rfl) dd_int) (dw_or (dt_gt (dd_var (emb := D.int) 9 rfl) dd_int) (dw_one (dt_neI (dd_imm (df_call (ok__law_mul Tx) (hr.mono (by decide)) Tx.g__law_mul Tx.F__law_mul.kp Tx.b__law_mul (takes_of rfl rfl rfl rfl) (da_cons (dd_var (emb := D.int) 8 rfl) (da_cons (dd_var (emb := D.int) 9 rfl) da_nil)))) dd_int) (by first | exact .inl rfl | exact .inr rfl)))))) (bk_ret (df_of_dd dd_bl) (g := fun r => Lo.ex (r)) (fun _ => rfl) trivial trivial) (bk_cons (st_set 10 (df_of_dd (dd_imm (df_call (ok_div Tx) (hr.mono (by decide)) Tx.g_div Tx.F_div.kp Tx.b_div (takes_of rfl rfl rfl rfl) (da_cons (dd_var (emb := D.int) 7 rfl) (da_cons (dd_var (emb := D.int) 8 rfl) da_nil))))) trivial rfl sc_law.nd) fun quotient_12 => bk_ifX (dt_dw (dw_or (dt_not (dt_bl (dd_imm (df_call (ok__law_is_integer Tx) (hr.mono (by decide)) Tx.g__law_is_integer Tx.F__law_is_integer.kp Tx.b__law_is_integer (takes_of rfl rfl rfl rfl) (da_cons (dd_var (emb := D.int) 10 rfl) da_nil))))) (dw_one (dt_neI (dd_var (emb := D.int) 10 rfl) (dd_imm (df_call (ok__law_mul Tx) (hr.mono (by decide)) Tx.g__law_mul Tx.F__law_mul.kp Tx.b__law_mul (takes_of rfl rfl rfl rfl) (da_cons (dd_var (emb := D.int) 7 rfl) (da_cons (dd_var (emb := D.int) 9 rfl) da_nil))))) (by first | exact .inl rfl | exact .inr rfl)))) (bk_ret (df_of_dd dd_bl) (g := fun r => Lo.ex (r)) (fun _ => rfl) trivial trivial) (bk_nil (o := (Lo.nx ())) rfl ⟨rfl, rfl, rfl, rfl, rfl, rfl, rfl, trivial⟩) trivial) trivial) trivial) trivial) trivial) ⟨rfl, rfl, rfl, rfl, rfl, rfl, rfl, trivial⟩ trivial)) fun s_13 => bk_consX (Γ1 := fun s_14 : Unit => [.ow (.imm (D.frl ((script).map D.int))), .ow (.imm (D.int cell_1)), .ow (.imm (D.int choice_3)), .ow (.imm (D.int n_8)), .ow (.imm (D.int j_4)), .ow (.imm (D.int j_6)), .ow (.imm (D.int u_2.2.2)), .un, .un, .un, .un, .un]) (st_rr (st_for (Γs := fun s_14 : Unit => [.ow (.imm (D.frl ((script).map D.int))), .ow (.imm (D.int cell_1)), .ow (.imm (D.int choice_3)), .ow (.imm (D.int n_8)), .ow (.imm (D.int j_4)), .ow (.imm (D.int j_6)), .ow (.imm (D.int u_2.2.2)), .un, .un, .un, .un, .un]) (ei := (fun p : (Int × Int) => D.tup [D.int p.1, D.int p.2])) () (passes_of rfl) rfl (di_list (ei := (fun p : (Int × Int) => D.tup [D.int p.1, D.int p.2])) (dd_list (ε := (fun p : (Int × Int) => D.tup [D.int p.1, D.int p.2])) (df_disp (ei := (fun p : (Int × Int) => D.tup [D.int p.1, D.int p.2])) (da_cons (dd_tup (et := (fun p : (Int × Int) => D.tup [D.int p.1, D.int p.2])) (da_cons (dd_var (emb := D.int) 4 rfl) (da_cons (dd_var (emb := D.int) 3 rfl) da_nil)) (fun p : Int × Int × Unit => ((p.1, p.2.1) : (Int × Int)))) (da_cons (dd_tup (et := (fun p : (Int × Int) => D.tup [D.int p.1, D.int p.2])) (da_cons (dd_var (emb := D.int) 5 rfl) (da_cons (dd_divC (dd_var (emb := D.int) 3 rfl) dd_int (by decide)) da_nil)) (fun p : Int × Int × Unit => ((p.1, p.2.1) : (Int × Int)))) (da_cons (dd_tup (et := (fun p : (Int × Int) => D.tup [D.int p.1, D.int p.2])) (da_cons dd_int (da_cons (dd_var (emb := D.int) 3 rfl) da_nil)) (fun p : Int × Int × Unit => ((p.1, p.2.1) : (Int × Int)))) (da_cons (dd_tup (et := (fun p : (Int × Int) => D.tup [D.int p.1, D.int p.2])) (da_cons (dd_var (emb := D.int) 6 rfl) (da_cons dd_int da_nil)) (fun p : Int × Int × Unit => ((p.1, p.2.1) : (Int × Int)))) (da_cons (dd_tup (et := (fun p : (Int × Int) => D.tup [D.int p.1, D.int p.2])) (da_cons (dd_var (emb := D.int) 6 rfl) (da_cons dd_int da_nil)) (fun p : Int × Int × Unit => ((p.1, p.2.1) : (Int × Int)))) da_nil))))) (fun p : (Int × Int) × (Int × Int) × (Int × Int) × (Int × Int) × (Int × Int) × Unit => ([p.1, p.2.1, p.2.2.1, p.2.2.2.1, p.2.2.2.2.1] : List (Int × Int)))))) (fun s_14 x_15 => (dg_tup rfl (dgs_cons (dg_name 7 sc_law.nd) (dgs_cons (dg_name 11 sc_law.nd) dgs_nil)))) (fun s_14 x_15 => bk_ifX (dt_dw (dw_or (dt_not (dt_bl (dd_imm (df_call (ok__law_is_integer Tx) (hr.mono (by decide)) Tx.g__law_is_integer Tx.F__law_is_integer.kp Tx.b__law_is_integer (takes_of rfl rfl rfl rfl) (da_cons (dd_imm (df_call (ok_power Tx) (hr.mono (by decide)) Tx.g_power Tx.F_power.kp Tx.b_power (takes_of rfl rfl rfl rfl) (da_cons (dd_var (emb := D.int) 7 rfl) (da_cons (dd_var (emb := D.int) 11 rfl) da_nil)))) da_nil))))) (dw_one (dt_neI (dd_imm (df_call (ok_power Tx) (hr.mono (by decide)) Tx.g_power Tx.F_power.kp Tx.b_power (takes_of rfl rfl rfl rfl) (da_cons (dd_var (emb := D.int) 7 rfl) (da_cons (dd_var (emb := D.int) 11 rfl) da_nil)))) (dd_imm (df_call (ok__law_power Tx) (hr.mono (by decide)) Tx.g__law_power Tx.F__law_power.kp Tx.b__law_power (takes_of rfl rfl rfl rfl) (da_cons (dd_var (emb := D.int) 7 rfl) (da_cons (dd_var (emb := D.int) 11 rfl) da_nil))))) (by first | exact .inl rfl | exact .inr rfl)))) (bk_ret (df_of_dd dd_bl) (g := fun r => Lo.ex (r)) (fun _ => rfl) trivial trivial) (bk_nil (o := (Lo.nx ())) rfl ⟨rfl, rfl, rfl, rfl, rfl, rfl, rfl, trivial⟩) trivial) ⟨rfl, rfl, rfl, rfl, rfl, rfl, rfl, trivial⟩ trivial)) fun s_16 => bk_ret (df_of_dd dd_bl) (g := fun r => r) (fun _ => rfl) trivial trivial

def cellv (script : List Int) (k : Nat) : Int := script.getD k 0
theorem m_cell (script : List Int) (k : Nat) : _law_cell script (k : Int) = .ok (cellv script k) := by
  unfold _law_cell cellv
  simp only [bind_ok]
  by_cases h : k < script.length
  · rw [if_pos (decide_eq_true (by omega)), atI_nat' h, ofO_some, bind_ok, List.getD_eq_getElem?_getD, List.getElem?_eq_getElem h]
    rfl
  · rw [if_neg (by rw [decide_eq_true_iff]; omega)]
    rw [List.getD_eq_getElem?_getD, List.getElem?_eq_none (by omega)]; rfl
theorem m_mixed (c k : Int) : ∃ v, _law_mixed c k = .ok v := by
  unfold _law_mixed
  simp only [bind_ok]
  exact ⟨_, rfl⟩
theorem m_dig_app {m : Int} (h0 : 0 < m) (ds : List Int) (x : Int) (h : ∀ d ∈ ds, 0 ≤ d ∧ d < m) : ∀ d ∈ ds ++ [x % m], 0 ≤ d ∧ d < m := fun d hd => by
  rcases List.mem_append.mp hd with z | z
  · exact h d z
  · rw [List.mem_singleton.mp z]
    exact ⟨Int.emod_nonneg _ (by omega), Int.emod_lt_of_pos _ h0⟩
theorem m_digits (c : Int) {n : Nat} {m : Int} (hn : n < 16777216) (h0 : 0 < m) (h1 : m < 1073741824) : ∃ ds, _law_digits c (n : Int) m = .ok ds ∧ ds.length = n ∧ ∀ d ∈ ds, 0 ≤ d ∧ d < m := by
  unfold _law_digits
  simp only [bind_ok, rangeO_nat (show n < 4611686018427387904 by omega), ofO_some]
  cases decide (c < 1000000000000000000) with
  | true =>
    simp only [if_true]
    refine forS_ex (I := fun i ds => ds.length = i ∧ ∀ d ∈ ds, 0 ≤ d ∧ d < m) ⟨rfl, fun _ z => nomatch z⟩ (fun i hi ds q => ?_) fun ds q => ⟨ds, rfl, by rw [irange_lenN] at q; exact q⟩
    obtain ⟨v, ev⟩ := m_mixed c (irange 0 (n : Int))[i]
    rw [irange_lenN] at hi
    exact ⟨ds ++ [v % m], by simp only [ev, bind_ok, modO_pos h0, ofO_some, appO_ok (show ds.length < 16777216 by omega)], by rw [List.length_append, q.1]; rfl, m_dig_app h0 ds v q.2⟩
  | false =>
    simp only [Bool.false_eq_true, if_false]
    refine forS_ex (I := fun i s => s.2.length = i ∧ ∀ d ∈ s.2, 0 ≤ d ∧ d < m) ⟨rfl, fun _ z => nomatch z⟩ (fun i hi s q => ?_) fun s q => ⟨s.2, rfl, by rw [irange_lenN] at q; exact q⟩
    rw [irange_lenN] at hi
    exact ⟨(s.1 / m, s.2 ++ [s.1 % m]), by simp only [bind_ok, modO_pos h0, divO_pos h0 h1, ofO_some, appO_ok (show s.2.length < 16777216 by omega)], by rw [List.length_append, q.1]; rfl, m_dig_app h0 s.2 s.1 q.2⟩
theorem band1 (b : Nat) : Builtin.bitAnd (b : Int) 1 = ((b % 2 : Nat) : Int) := by rw [PyProof.Rows.bitAnd_m1]; omega
theorem odd_b (b : Nat) : (((b % 2 : Nat) : Int) != 0) = (b % 2 == 1) := by rcases Nat.mod_two_eq_zero_or_one b with y | y <;> rw [y] <;> rfl
theorem half_b (b : Nat) : (b : Int) / 2 ^ (1 : Int).toNat = ((b / 2 : Nat) : Int) := by show (b : Int) / (2 ^ 1) = _; omega
theorem dbl_b {a : Nat} (h : a < 256) : shlO (a : Int) 1 = some ((2 * a : Nat) : Int) := by
  rw [show (1 : Int) = ((1 : Nat) : Int) from rfl, shlO_ok (i := (a : Int)) (by omega) (by omega) (by decide)]
  rw [show (a : Int) * 2 ^ 1 = ((2 * a : Nat) : Int) by omega]
theorem bx285 (a : Nat) : Builtin.bitXor (a : Int) 285 = ((a ^^^ 285 : Nat) : Int) := bx a 285
theorem xt_big {a : Nat} (h : a < 256) : (Builtin.bitAnd ((2 * a : Nat) : Int) 256 != 0) = Nat.ble 128 a := by
  rw [show (256 : Int) = ((256 : Nat) : Int) from rfl, band_nat]
  have := allB_of (p := fun a => (((2 * a) &&& 256 != 0) == Nat.ble 128 a)) (n := 256) (by decide +kernel) a h
  have e := eq_of_beq this
  rw [← e]
  show (!(((2 * a &&& 256 : Nat) : Int) == ((0 : Nat) : Int))) = !(_ == _)
  congr 1
  rw [Bool.eq_iff_iff, beq_iff_eq, beq_iff_eq]
  omega
theorem xt_if (a : Nat) : (if Nat.ble 128 a = true then R.ok (((2 * a ^^^ 285 : Nat)) : Int) else R.ok ((2 * a : Nat) : Int)) = R.ok ((xt a : Nat) : Int) := by
  unfold xt
  cases Nat.ble 128 a <;> rfl
theorem pr_if (b p a : Nat) : (if (b % 2 == 1) = true then R.ok ((p ^^^ a : Nat) : Int) else R.ok (p : Int)) = R.ok (((bif b % 2 == 1 then p ^^^ a else p) : Nat) : Int) := by
  cases (b % 2 == 1) <;> rfl
theorem pr_lt {b p a : Nat} (hp : p < 256) (ha : a < 256) : (bif b % 2 == 1 then p ^^^ a else p) < 256 := by
  cases (b % 2 == 1) with
  | true => exact x_lt hp ha
  | false => exact hp
theorem m_mul {a b : Nat} (ha : a < 256) (hb : b < 256) : mul (a : Int) (b : Int) = .ok ((gm a b : Nat) : Int) := by
  unfold mul
  simp only [bind_ok]
  refine whileS_to (I := fun k s => ∃ a' b' p : Nat, s = ((a' : Int), (b' : Int), (p : Int)) ∧ a' < 256 ∧ p < 256 ∧ b' < 2 ^ k ∧ mulN k a' b' p = gm a b) 8 ⟨a, b, 0, rfl, ha, by decide, hb, rfl⟩ fun k s i => ?_
  obtain ⟨a', b', p, e, h1, h2, h3, h4⟩ := i
  subst e
  by_cases z : b' = 0
  · subst z
    left
    rw [mulN_zero] at h4
    exact ⟨rfl, by rw [h4]⟩
  · right
    refine ⟨by show R.ok ((b' : Int) != 0) = _; rw [show ((b' : Int) != 0) = true by rw [bne_iff_ne]; omega], ?_⟩
    cases k with
    | zero => rw [Nat.pow_zero] at h3; omega
    | succ k => exact ⟨_, k, Nat.lt_succ_self k, by simp only [bind_ok, band1, odd_b, dbl_b h1, ofO_some, xt_big h1, bx285, bx, half_b, xt_if, pr_if], xt a', b' / 2, _, rfl, xt_lt h1, pr_lt h2 h1, by rw [Nat.pow_succ] at h3; omega, h4⟩
theorem gp_if (b p a : Nat) : (if (b % 2 == 1) = true then R.ok ((gm p a : Nat) : Int) else R.ok (p : Int)) = R.ok (((bif b % 2 == 1 then gm p a else p) : Nat) : Int) := by
  cases (b % 2 == 1) <;> rfl
theorem gp_step {a b p : Nat} (h1 : a < 256) (h2 : p < 256) : gm (bif b % 2 == 1 then gm p a else p) (gpow (gm a a) (b / 2)) = gm p (gpow a b) := by
  rw [gpow_sq h1]
  rcases Nat.mod_two_eq_zero_or_one b with y | y
  · rw [y]
    show gm p _ = _
    rw [show 2 * (b / 2) = b by omega]
  · rw [y]
    show gm (gm p a) _ = _
    have e3 : gpow a b = gm a (gpow a (2 * (b / 2))) := by
      conv => lhs; rw [show b = 1 + 2 * (b / 2) by omega]
      rw [gpow_add h1]
      show gm (gm 1 a) _ = _
      rw [one_gm h1]
    rw [e3, gm_assoc h2 h1 (gpow_lt h1 _)]
theorem m_power {a : Nat} (ha : a < 256) (n : Nat) : power (a : Int) (n : Int) = .ok ((gpow a n : Nat) : Int) := by
  unfold power
  simp only [bind_ok]
  refine whileS_to (I := fun k s => ∃ a' b' p : Nat, s = ((a' : Int), (b' : Int), (p : Int)) ∧ a' < 256 ∧ p < 256 ∧ b' = k ∧ gm p (gpow a' b') = gpow a n) n ⟨a, n, 1, rfl, ha, by decide, rfl, one_gm (gpow_lt ha n)⟩ fun k s i => ?_
  obtain ⟨a', b', p, e, h1, h2, h3, h4⟩ := i
  subst e
  by_cases z : b' = 0
  · subst z
    left
    rw [show gpow a' 0 = 1 from rfl, gm_one h2] at h4
    exact ⟨rfl, by rw [h4]⟩
  · right
    refine ⟨by show R.ok ((b' : Int) != 0) = _; rw [show ((b' : Int) != 0) = true by rw [bne_iff_ne]; omega], (((gm a' a' : Nat) : Int), ((b' / 2 : Nat) : Int), ((bif b' % 2 == 1 then gm p a' else p : Nat) : Int)), b' / 2, by omega, by simp only [bind_ok, band1, odd_b, m_mul h2 h1, m_mul h1 h1, half_b, gp_if], gm a' a', b' / 2, bif b' % 2 == 1 then gm p a' else p, rfl, gm_lt h1 _, ?_, rfl, ?_⟩
    · cases (b' % 2 == 1) with
      | true => exact gm_lt h2 _
      | false => exact h2
    · rw [gp_step h1 h2, h4]
theorem m_inv0 : inv 0 = .err "ZeroElement" := rfl
theorem m_inv {a : Nat} (ha : a < 256) (h0 : a ≠ 0) : inv (a : Int) = .ok ((ginv a : Nat) : Int) := by
  unfold inv
  simp only [bind_ok]
  rw [if_neg (by rw [decide_eq_true_iff]; omega), show (254 : Int) = ((254 : Nat) : Int) from rfl, m_power ha]
  rfl
theorem m_div0 (a : Int) : div a 0 = .err "ZeroElement" := rfl
theorem m_div {a b : Nat} (ha : a < 256) (hb : b < 256) (h0 : b ≠ 0) : div (a : Int) (b : Int) = .ok ((gm a (ginv b) : Nat) : Int) := by
  unfold div
  simp only [bind_ok, m_inv hb h0, m_mul ha (ginv_lt hb)]
theorem xt_big2 {a : Nat} (h : a < 256) : decide ((255 : Int) < ((2 * a : Nat) : Int)) = Nat.ble 128 a := by
  rw [Bool.eq_iff_iff, decide_eq_true_iff, Nat.ble_eq]
  omega
theorem m_lmul {a b : Nat} (ha : a < 256) (hb : b < 256) : _law_mul (a : Int) (b : Int) = .ok ((gm a b : Nat) : Int) := by
  unfold _law_mul
  simp only [bind_ok]
  rw [show (8 : Int) = ((8 : Nat) : Int) from rfl, rangeO_nat (by decide), ofO_some, bind_ok]
  refine forS_to (I := fun k s => ∃ a' b' p : Nat, s = ((a' : Int), (b' : Int), (p : Int)) ∧ a' < 256 ∧ p < 256 ∧ mulN (8 - k) a' b' p = gm a b) ⟨a, b, 0, rfl, ha, by decide, rfl⟩ (fun k hk s i => ?_) fun s i => ?_
  · obtain ⟨a', b', p, e, h1, h2, h4⟩ := i
    subst e
    rw [irange_lenN] at hk
    exact ⟨(((xt a' : Nat) : Int), ((b' / 2 : Nat) : Int), ((bif b' % 2 == 1 then p ^^^ a' else p : Nat) : Int)), by simp only [bind_ok, band1, odd_b, dbl_b h1, ofO_some, xt_big2 h1, bx285, bx, half_b, xt_if, pr_if], xt a', b' / 2, _, rfl, xt_lt h1, pr_lt h2 h1, by rw [show 8 - k = (8 - (k + 1)) + 1 by omega] at h4; exact h4⟩
  · obtain ⟨a', b', p, es, _, _, h4⟩ := i
    rw [irange_lenN] at h4
    have h4 : p = gm a b := h4
    rw [es, h4]
theorem m_lpower {a : Nat} (ha : a < 256) {n : Nat} (hn : n < 4611686018427387904) : _law_power (a : Int) (n : Int) = .ok ((gpow a n : Nat) : Int) := by
  unfold _law_power
  simp only [bind_ok, rangeO_nat hn, ofO_some]
  refine forS_to (I := fun k s => s = ((gpow a k : Nat) : Int)) rfl (fun k hk s i => ?_) fun s i => ?_
  · subst i
    exact ⟨((gm (gpow a k) a : Nat) : Int), by simp only [bind_ok, m_lmul (gpow_lt ha k) ha], rfl⟩
  · rw [irange_lenN] at i
    rw [i]
theorem m_isint (i : Int) : _law_is_integer i = .ok true := rfl
theorem m_add (a b : Int) : add a b = .ok (Builtin.bitXor a b) := rfl
theorem m_ref1 (a : Int) : _law_refuses "div" a 0 = .ok true := rfl
theorem m_ref2 (a : Int) : _law_refuses "inv" a 0 = .ok true := rfl
theorem nat3 {ds : List Int} (h : ds.length = 3) (hb : ∀ d ∈ ds, 0 ≤ d ∧ d < 256) : ∃ a b c : Nat, ds = [(a : Int), (b : Int), (c : Int)] ∧ a < 256 ∧ b < 256 ∧ c < 256 := by
  match ds, h with
  | [x, y, z], _ =>
    have hx := hb x (by simp)
    have hy := hb y (by simp)
    have hz := hb z (by simp)
    exact ⟨x.toNat, y.toNat, z.toNat, by rw [Int.toNat_of_nonneg hx.1, Int.toNat_of_nonneg hy.1, Int.toNat_of_nonneg hz.1], by omega, by omega, by omega⟩
theorem z_if (c : Bool) (a : Nat) (h : a < 256) : ∃ a' : Nat, (if c = true then R.ok 0 else R.ok (a : Int)) = R.ok (a' : Int) ∧ a' < 256 := by
  cases c with
  | true => exact ⟨0, rfl, by decide⟩
  | false => exact ⟨a, rfl, h⟩
theorem law_true (ns : List Int) (h : ns.length ≤ 63) : law ns = .ok true := by
  unfold law
  obtain ⟨ds, ed, hl, hbb⟩ := m_digits (cellv ns 0) (n := 3) (m := 256) (by decide) (by decide) (by decide)
  obtain ⟨a, b, c, e3, ha, hb, hc⟩ := nat3 hl hbb
  subst e3
  have c0 : _law_cell ns 0 = .ok (cellv ns 0) := m_cell ns 0
  have c1 : _law_cell ns 1 = .ok (cellv ns 1) := m_cell ns 1
  have c2 : _law_cell ns 2 = .ok (cellv ns 2) := m_cell ns 2
  have ed : _law_digits (cellv ns 0) 3 256 = .ok [(a : Int), (b : Int), (c : Int)] := ed
  obtain ⟨a', ea, ha'⟩ := z_if (decide (cellv ns 1 % 4 = 1)) a ha
  obtain ⟨b', eb, hb'⟩ := z_if (decide (cellv ns 1 % 4 = 2)) b hb
  obtain ⟨n, en⟩ : ∃ n : Nat, cellv ns 2 % 1001 = (n : Int) := ⟨(cellv ns 2 % 1001).toNat, by omega⟩
  have hn : n < 1001 := by omega
  simp only [bind_ok, c0, c1, c2, ed, unp3, ofO_some, ea, eb, en]
  refine forX_pass (fun x hx => ?_) (forX_pass (fun x hx => ?_) rfl)
  · obtain ⟨x1, x2, e, h1, h2⟩ : ∃ x1 x2 : Nat, x = ((x1 : Int), (x2 : Int)) ∧ x1 < 256 ∧ x2 < 256 := by
      simp only [List.mem_cons, List.not_mem_nil, or_false] at hx
      rcases hx with e | e | e | e
      · exact ⟨_, _, e, ha', hb'⟩
      · exact ⟨_, _, e, hb', ha'⟩
      · exact ⟨_, _, e, ha', hc⟩
      · exact ⟨_, _, e, ha', ha'⟩
    subst e
    simp only [bind_ok, m_add, m_isint, Bool.not_true, Bool.false_eq_true, if_false, decide_true, m_mul h1 h2, m_lmul h1 h2]
    by_cases z : x2 = 0
    · subst z
      have r1 : _law_refuses "div" (x1 : Int) ((0 : Nat) : Int) = .ok true := rfl
      have r2 : _law_refuses "inv" (x1 : Int) ((0 : Nat) : Int) = .ok true := rfl
      rw [if_pos (show decide (((0 : Nat) : Int) = 0) = true from rfl)]
      simp only [r1, r2, bind_ok, Bool.not_true, Bool.false_eq_true, if_false]
    · rw [if_neg (by rw [decide_eq_true_iff]; omega)]
      have hl := ginv_lt h2
      have hne := ginv_ne h2 z
      simp only [m_inv h2 z, bind_ok, m_isint, Bool.not_true, Bool.false_eq_true, if_false, m_lmul h2 hl, m_div h1 h2 z, m_lmul h1 hl, gm_ginv h2 z, decide_true]
      rw [if_neg (by rw [decide_eq_true_iff]; omega), if_neg (by rw [decide_eq_true_iff]; omega)]
      rfl
  · obtain ⟨x1, x2, e, h1, h2⟩ : ∃ x1 x2 : Nat, x = ((x1 : Int), (x2 : Int)) ∧ x1 < 256 ∧ x2 < 4611686018427387904 := by
      simp only [List.mem_cons, List.not_mem_nil, or_false] at hx
      rcases hx with e | e | e | e | e
      · exact ⟨a', n, e, ha', by omega⟩
      · exact ⟨b', n / 7, by rw [e]; simp, hb', by omega⟩
      · exact ⟨0, n, e, by decide, by omega⟩
      · exact ⟨c, 0, e, hc, by decide⟩
      · exact ⟨c, 255, e, hc, by decide⟩
    subst e
    simp only [bind_ok, m_isint, Bool.not_true, Bool.false_eq_true, if_false, decide_true, m_power h1, m_lpower h1 h2]
end K01
namespace K01
open PySem PySem.Spec L2 Cn
theorem all_mk {l : PySem.W.OpenLaw} {w : World} {K : PySem.W.Frag} {h : Heap} {mg : Str → Option Value} {fa : Addr} {f__law_cell : Addr} {od__law_cell an__law_cell : Option Addr} {sl__law_cell : Array (Option Value)} {oc__law_cell kV__law_cell dc__law_cell pm__law_cell cd__law_cell ct__law_cell : Value}
{f__law_mixed : Addr} {od__law_mixed an__law_mixed : Option Addr} {sl__law_mixed : Array (Option Value)} {oc__law_mixed kV__law_mixed dc__law_mixed pm__law_mixed cd__law_mixed ct__law_mixed : Value}
{f__law_digits : Addr} {od__law_digits an__law_digits : Option Addr} {sl__law_digits : Array (Option Value)} {oc__law_digits kV__law_digits dc__law_digits pm__law_digits cd__law_digits ct__law_digits : Value}
{f_mul : Addr} {od_mul an_mul : Option Addr} {sl_mul : Array (Option Value)} {oc_mul kV_mul dc_mul pm_mul cd_mul ct_mul : Value}
{f_power : Addr} {od_power an_power : Option Addr} {sl_power : Array (Option Value)} {oc_power kV_power dc_power pm_power cd_power ct_power : Value}
{f_inv : Addr} {od_inv an_inv : Option Addr} {sl_inv : Array (Option Value)} {oc_inv kV_inv dc_inv pm_inv cd_inv ct_inv : Value}
{f_div : Addr} {od_div an_div : Option Addr} {sl_div : Array (Option Value)} {oc_div kV_div dc_div pm_div cd_div ct_div : Value}
{f__law_is_integer : Addr} {od__law_is_integer an__law_is_integer : Option Addr} {sl__law_is_integer : Array (Option Value)} {oc__law_is_integer kV__law_is_integer dc__law_is_integer pm__law_is_integer cd__law_is_integer ct__law_is_integer : Value}
{f_add : Addr} {od_add an_add : Option Addr} {sl_add : Array (Option Value)} {oc_add kV_add dc_add pm_add cd_add ct_add : Value}
{f__law_mul : Addr} {od__law_mul an__law_mul : Option Addr} {sl__law_mul : Array (Option Value)} {oc__law_mul kV__law_mul dc__law_mul pm__law_mul cd__law_mul ct__law_mul : Value}
{f__law_power : Addr} {od__law_power an__law_power : Option Addr} {sl__law_power : Array (Option Value)} {oc__law_power kV__law_power dc__law_power pm__law_power cd__law_power ct__law_power : Value}
{f__law_refuses : Addr} {od__law_refuses an__law_refuses : Option Addr} {sl__law_refuses : Array (Option Value)} {oc__law_refuses kV__law_refuses dc__law_refuses pm__law_refuses cd__law_refuses ct__law_refuses : Value}
{f_law : Addr} {od_law an_law : Option Addr} {sl_law : Array (Option Value)} {oc_law kV_law dc_law pm_law cd_law ct_law : Value}
{C_ZeroElement : Addr}
{C_CairnError : Addr}
{C_DuplicatePoint : Addr}
{C_ShapeMismatch : Addr}
    (X : K.In h) (G : h.Ns mainGlobals mg) (hfa : mg "law" = some (.ref fa))     (a__law_cell : PySem.W.nsIn K mainGlobals "_law_cell" = some (some (.ref f__law_cell)))
    (l__law_cell : K.lookup f__law_cell = some ⟨oc__law_cell, od__law_cell, .func (PySem.W.fnOf "_law_cell" "_law_cell" (defArgs s__law_cell) (defBody s__law_cell) (defScope s__law_cell) .none kV__law_cell dc__law_cell pm__law_cell an__law_cell cd__law_cell ct__law_cell), sl__law_cell⟩)
    (c__law_cell : PySem.W.codeIn K cd__law_cell "_law_cell" = true)
    (k__law_cell : PySem.W.keepIn K (.ref f__law_cell) = true)
    (a__law_mixed : PySem.W.nsIn K mainGlobals "_law_mixed" = some (some (.ref f__law_mixed)))
    (l__law_mixed : K.lookup f__law_mixed = some ⟨oc__law_mixed, od__law_mixed, .func (PySem.W.fnOf "_law_mixed" "_law_mixed" (defArgs s__law_mixed) (defBody s__law_mixed) (defScope s__law_mixed) .none kV__law_mixed dc__law_mixed pm__law_mixed an__law_mixed cd__law_mixed ct__law_mixed), sl__law_mixed⟩)
    (c__law_mixed : PySem.W.codeIn K cd__law_mixed "_law_mixed" = true)
    (k__law_mixed : PySem.W.keepIn K (.ref f__law_mixed) = true)
    (a__law_digits : PySem.W.nsIn K mainGlobals "_law_digits" = some (some (.ref f__law_digits)))
    (l__law_digits : K.lookup f__law_digits = some ⟨oc__law_digits, od__law_digits, .func (PySem.W.fnOf "_law_digits" "_law_digits" (defArgs s__law_digits) (defBody s__law_digits) (defScope s__law_digits) .none kV__law_digits dc__law_digits pm__law_digits an__law_digits cd__law_digits ct__law_digits), sl__law_digits⟩)
    (c__law_digits : PySem.W.codeIn K cd__law_digits "_law_digits" = true)
    (k__law_digits : PySem.W.keepIn K (.ref f__law_digits) = true)
    (a_mul : PySem.W.nsIn K mainGlobals "mul" = some (some (.ref f_mul)))
    (l_mul : K.lookup f_mul = some ⟨oc_mul, od_mul, .func (PySem.W.fnOf "mul" "mul" (defArgs s_mul) (defBody s_mul) (defScope s_mul) .none kV_mul dc_mul pm_mul an_mul cd_mul ct_mul), sl_mul⟩)
    (c_mul : PySem.W.codeIn K cd_mul "mul" = true)
    (k_mul : PySem.W.keepIn K (.ref f_mul) = true)
    (a_power : PySem.W.nsIn K mainGlobals "power" = some (some (.ref f_power)))
    (l_power : K.lookup f_power = some ⟨oc_power, od_power, .func (PySem.W.fnOf "power" "power" (defArgs s_power) (defBody s_power) (defScope s_power) .none kV_power dc_power pm_power an_power cd_power ct_power), sl_power⟩)
    (c_power : PySem.W.codeIn K cd_power "power" = true)
    (k_power : PySem.W.keepIn K (.ref f_power) = true)
    (a_inv : PySem.W.nsIn K mainGlobals "inv" = some (some (.ref f_inv)))
    (l_inv : K.lookup f_inv = some ⟨oc_inv, od_inv, .func (PySem.W.fnOf "inv" "inv" (defArgs s_inv) (defBody s_inv) (defScope s_inv) .none kV_inv dc_inv pm_inv an_inv cd_inv ct_inv), sl_inv⟩)
    (c_inv : PySem.W.codeIn K cd_inv "inv" = true)
    (k_inv : PySem.W.keepIn K (.ref f_inv) = true)
    (a_div : PySem.W.nsIn K mainGlobals "div" = some (some (.ref f_div)))
    (l_div : K.lookup f_div = some ⟨oc_div, od_div, .func (PySem.W.fnOf "div" "div" (defArgs s_div) (defBody s_div) (defScope s_div) .none kV_div dc_div pm_div an_div cd_div ct_div), sl_div⟩)
    (c_div : PySem.W.codeIn K cd_div "div" = true)
    (k_div : PySem.W.keepIn K (.ref f_div) = true)
    (a__law_is_integer : PySem.W.nsIn K mainGlobals "_law_is_integer" = some (some (.ref f__law_is_integer)))
    (l__law_is_integer : K.lookup f__law_is_integer = some ⟨oc__law_is_integer, od__law_is_integer, .func (PySem.W.fnOf "_law_is_integer" "_law_is_integer" (defArgs s__law_is_integer) (defBody s__law_is_integer) (defScope s__law_is_integer) .none kV__law_is_integer dc__law_is_integer pm__law_is_integer an__law_is_integer cd__law_is_integer ct__law_is_integer), sl__law_is_integer⟩)
    (c__law_is_integer : PySem.W.codeIn K cd__law_is_integer "_law_is_integer" = true)
    (k__law_is_integer : PySem.W.keepIn K (.ref f__law_is_integer) = true)
    (a_add : PySem.W.nsIn K mainGlobals "add" = some (some (.ref f_add)))
    (l_add : K.lookup f_add = some ⟨oc_add, od_add, .func (PySem.W.fnOf "add" "add" (defArgs s_add) (defBody s_add) (defScope s_add) .none kV_add dc_add pm_add an_add cd_add ct_add), sl_add⟩)
    (c_add : PySem.W.codeIn K cd_add "add" = true)
    (k_add : PySem.W.keepIn K (.ref f_add) = true)
    (a__law_mul : PySem.W.nsIn K mainGlobals "_law_mul" = some (some (.ref f__law_mul)))
    (l__law_mul : K.lookup f__law_mul = some ⟨oc__law_mul, od__law_mul, .func (PySem.W.fnOf "_law_mul" "_law_mul" (defArgs s__law_mul) (defBody s__law_mul) (defScope s__law_mul) .none kV__law_mul dc__law_mul pm__law_mul an__law_mul cd__law_mul ct__law_mul), sl__law_mul⟩)
    (c__law_mul : PySem.W.codeIn K cd__law_mul "_law_mul" = true)
    (k__law_mul : PySem.W.keepIn K (.ref f__law_mul) = true)
    (a__law_power : PySem.W.nsIn K mainGlobals "_law_power" = some (some (.ref f__law_power)))
    (l__law_power : K.lookup f__law_power = some ⟨oc__law_power, od__law_power, .func (PySem.W.fnOf "_law_power" "_law_power" (defArgs s__law_power) (defBody s__law_power) (defScope s__law_power) .none kV__law_power dc__law_power pm__law_power an__law_power cd__law_power ct__law_power), sl__law_power⟩)
    (c__law_power : PySem.W.codeIn K cd__law_power "_law_power" = true)
    (k__law_power : PySem.W.keepIn K (.ref f__law_power) = true)
    (a__law_refuses : PySem.W.nsIn K mainGlobals "_law_refuses" = some (some (.ref f__law_refuses)))
    (l__law_refuses : K.lookup f__law_refuses = some ⟨oc__law_refuses, od__law_refuses, .func (PySem.W.fnOf "_law_refuses" "_law_refuses" (defArgs s__law_refuses) (defBody s__law_refuses) (defScope s__law_refuses) .none kV__law_refuses dc__law_refuses pm__law_refuses an__law_refuses cd__law_refuses ct__law_refuses), sl__law_refuses⟩)
    (c__law_refuses : PySem.W.codeIn K cd__law_refuses "_law_refuses" = true)
    (k__law_refuses : PySem.W.keepIn K (.ref f__law_refuses) = true)
    (a_law : PySem.W.nsIn K mainGlobals "law" = some (some (.ref f_law)))
    (l_law : K.lookup f_law = some ⟨oc_law, od_law, .func (PySem.W.fnOf "law" "law" (defArgs s_law) (defBody s_law) (defScope s_law) .none kV_law dc_law pm_law an_law cd_law ct_law), sl_law⟩)
    (c_law : PySem.W.codeIn K cd_law "law" = true)
    (k_law : PySem.W.keepIn K (.ref f_law) = true)
    (z_ValueError : PySem.W.nsIn K mainGlobals "ValueError" = some none)
    (z_bool : PySem.W.nsIn K mainGlobals "bool" = some none)
    (z_int : PySem.W.nsIn K mainGlobals "int" = some none)
    (z_isinstance : PySem.W.nsIn K mainGlobals "isinstance" = some none)
    (z_len : PySem.W.nsIn K mainGlobals "len" = some none)
    (z_range : PySem.W.nsIn K mainGlobals "range" = some none)
    (a_ZeroElement : PySem.W.nsIn K mainGlobals "ZeroElement" = some (some (.ref C_ZeroElement)))
    (b_ZeroElement : PySem.W.subIn K (.ref C_ZeroElement) (.type "BaseException") = some true)
    (t_ZeroElement : PySem.W.typeIn K (.ref C_ZeroElement) = some (.type "type"))
    (h_ZeroElement : PySem.W.hasDictIn K C_ZeroElement = true)
    (x_ZeroElement : PySem.W.excIn K C_ZeroElement [.type "ValueError", .type "Exception", .type "BaseException", .type "object"] "ValueError.__new__" = true)
    (k_ZeroElement : PySem.W.keepIn K (.ref C_ZeroElement) = true)
    (a_CairnError : PySem.W.nsIn K mainGlobals "CairnError" = some (some (.ref C_CairnError)))
    (b_CairnError : PySem.W.subIn K (.ref C_CairnError) (.type "BaseException") = some true)
    (t_CairnError : PySem.W.typeIn K (.ref C_CairnError) = some (.type "type"))
    (h_CairnError : PySem.W.hasDictIn K C_CairnError = true)
    (a_DuplicatePoint : PySem.W.nsIn K mainGlobals "DuplicatePoint" = some (some (.ref C_DuplicatePoint)))
    (b_DuplicatePoint : PySem.W.subIn K (.ref C_DuplicatePoint) (.type "BaseException") = some true)
    (t_DuplicatePoint : PySem.W.typeIn K (.ref C_DuplicatePoint) = some (.type "type"))
    (h_DuplicatePoint : PySem.W.hasDictIn K C_DuplicatePoint = true)
    (a_ShapeMismatch : PySem.W.nsIn K mainGlobals "ShapeMismatch" = some (some (.ref C_ShapeMismatch)))
    (b_ShapeMismatch : PySem.W.subIn K (.ref C_ShapeMismatch) (.type "BaseException") = some true)
    (t_ShapeMismatch : PySem.W.typeIn K (.ref C_ShapeMismatch) = some (.type "type"))
    (h_ShapeMismatch : PySem.W.hasDictIn K C_ShapeMismatch = true)
    (xa_ZeroElement : PySem.W.findIn K (.ref C_ZeroElement) "__getattribute__" = some (some (.builtin "BaseException.__getattribute__")))
    (xb_ZeroElement : PySem.W.findIn K (.ref C_ZeroElement) "__getattr__" = some none)
    (xd_ZeroElement : PySem.W.findIn K (.ref C_ZeroElement) "__class__" = some (some (.builtin "object.__class__")))
    (xm_ZeroElement : PySem.W.mroIn K C_ZeroElement (.type "object") = some true)
    (xsp : PySem.W.specialIn K (.builtin "object.__class__") "__get__" = some (some (.builtin "getset_descriptor.__get__")))
    (xtk : PySem.W.takesIn K (.builtin "object.__class__") = some true)
    (sb_ZeroElement_CairnError : PySem.W.subIn K (.ref C_ZeroElement) (.ref C_CairnError) = some true)
    (sb_ZeroElement_DuplicatePoint : PySem.W.subIn K (.ref C_ZeroElement) (.ref C_DuplicatePoint) = some false)
    (ne_ZeroElement_DuplicatePoint : (((.ref C_ZeroElement : Value) == .ref C_DuplicatePoint) && !false) = false)
    (sb_ZeroElement_ShapeMismatch : PySem.W.subIn K (.ref C_ZeroElement) (.ref C_ShapeMismatch) = some false)
    (ne_ZeroElement_ShapeMismatch : (((.ref C_ZeroElement : Value) == .ref C_ShapeMismatch) && !false) = false)
    (sb_ZeroElement_ValueError : PySem.W.subIn K (.ref C_ZeroElement) (.type "ValueError") = some true)
    (sb_ZeroElement_ZeroElement : PySem.W.subIn K (.ref C_ZeroElement) (.ref C_ZeroElement) = some true)
    (ne_ZeroElement_ZeroElement : (((.ref C_ZeroElement : Value) == .ref C_ZeroElement) && !true) = false) :
    ∃ fd : FuncData, (∀ (s : Shared) (v : Value), BindsTo s fd ⟨[v], []⟩ [("script", v)]) ∧ ∀ base : Heap, K.In base → base.Ns mainGlobals mg → FnOk l.prog w K mg base (L2.CX l.prog w) 6 fa fd ["script"] (spLaw K) := by
  have e := hfa.symm.trans (PySem.W.mg_of X G a_law)
  cases e
  have F__law_cell := fun_mk (st := s__law_cell) l__law_cell c__law_cell k__law_cell
  have F__law_mixed := fun_mk (st := s__law_mixed) l__law_mixed c__law_mixed k__law_mixed
  have F__law_digits := fun_mk (st := s__law_digits) l__law_digits c__law_digits k__law_digits
  have F_mul := fun_mk (st := s_mul) l_mul c_mul k_mul
  have F_power := fun_mk (st := s_power) l_power c_power k_power
  have F_inv := fun_mk (st := s_inv) l_inv c_inv k_inv
  have F_div := fun_mk (st := s_div) l_div c_div k_div
  have F__law_is_integer := fun_mk (st := s__law_is_integer) l__law_is_integer c__law_is_integer k__law_is_integer
  have F_add := fun_mk (st := s_add) l_add c_add k_add
  have F__law_mul := fun_mk (st := s__law_mul) l__law_mul c__law_mul k__law_mul
  have F__law_power := fun_mk (st := s__law_power) l__law_power c__law_power k__law_power
  have F__law_refuses := fun_mk (st := s__law_refuses) l__law_refuses c__law_refuses k__law_refuses
  have F_law := fun_mk (st := s_law) l_law c_law k_law
  let tx : Tx K mg := {
    a__law_cell := f__law_cell,
    d__law_cell := _,
    F__law_cell := F__law_cell,
    b__law_cell := (F__law_cell.binds (ps := ["script", "k"]) fun _ _ _ _ _ _ us hl => match us, hl with | [_, _], _ => rfl),
    g__law_cell := PySem.W.mg_of X G a__law_cell,
    a__law_mixed := f__law_mixed,
    d__law_mixed := _,
    F__law_mixed := F__law_mixed,
    b__law_mixed := (F__law_mixed.binds (ps := ["cell", "k"]) fun _ _ _ _ _ _ us hl => match us, hl with | [_, _], _ => rfl),
    g__law_mixed := PySem.W.mg_of X G a__law_mixed,
    a__law_digits := f__law_digits,
    d__law_digits := _,
    F__law_digits := F__law_digits,
    b__law_digits := (F__law_digits.binds (ps := ["cell", "count", "many"]) fun _ _ _ _ _ _ us hl => match us, hl with | [_, _, _], _ => rfl),
    g__law_digits := PySem.W.mg_of X G a__law_digits,
    a_mul := f_mul,
    d_mul := _,
    F_mul := F_mul,
    b_mul := (F_mul.binds (ps := ["a", "b"]) fun _ _ _ _ _ _ us hl => match us, hl with | [_, _], _ => rfl),
    g_mul := PySem.W.mg_of X G a_mul,
    a_power := f_power,
    d_power := _,
    F_power := F_power,
    b_power := (F_power.binds (ps := ["a", "n"]) fun _ _ _ _ _ _ us hl => match us, hl with | [_, _], _ => rfl),
    g_power := PySem.W.mg_of X G a_power,
    a_inv := f_inv,
    d_inv := _,
    F_inv := F_inv,
    b_inv := (F_inv.binds (ps := ["a"]) fun _ _ _ _ _ _ us hl => match us, hl with | [_], _ => rfl),
    g_inv := PySem.W.mg_of X G a_inv,
    a_div := f_div,
    d_div := _,
    F_div := F_div,
    b_div := (F_div.binds (ps := ["a", "b"]) fun _ _ _ _ _ _ us hl => match us, hl with | [_, _], _ => rfl),
    g_div := PySem.W.mg_of X G a_div,
    a__law_is_integer := f__law_is_integer,
    d__law_is_integer := _,
    F__law_is_integer := F__law_is_integer,
    b__law_is_integer := (F__law_is_integer.binds (ps := ["actual"]) fun _ _ _ _ _ _ us hl => match us, hl with | [_], _ => rfl),
    g__law_is_integer := PySem.W.mg_of X G a__law_is_integer,
    a_add := f_add,
    d_add := _,
    F_add := F_add,
    b_add := (F_add.binds (ps := ["a", "b"]) fun _ _ _ _ _ _ us hl => match us, hl with | [_, _], _ => rfl),
    g_add := PySem.W.mg_of X G a_add,
    a__law_mul := f__law_mul,
    d__law_mul := _,
    F__law_mul := F__law_mul,
    b__law_mul := (F__law_mul.binds (ps := ["a", "b"]) fun _ _ _ _ _ _ us hl => match us, hl with | [_, _], _ => rfl),
    g__law_mul := PySem.W.mg_of X G a__law_mul,
    a__law_power := f__law_power,
    d__law_power := _,
    F__law_power := F__law_power,
    b__law_power := (F__law_power.binds (ps := ["a", "n"]) fun _ _ _ _ _ _ us hl => match us, hl with | [_, _], _ => rfl),
    g__law_power := PySem.W.mg_of X G a__law_power,
    a__law_refuses := f__law_refuses,
    d__law_refuses := _,
    F__law_refuses := F__law_refuses,
    b__law_refuses := (F__law_refuses.binds (ps := ["word", "a", "b"]) fun _ _ _ _ _ _ us hl => match us, hl with | [_, _, _], _ => rfl),
    g__law_refuses := PySem.W.mg_of X G a__law_refuses,
    a_law := fa,
    d_law := _,
    F_law := F_law,
    b_law := (F_law.binds (ps := ["script"]) fun _ _ _ _ _ _ us hl => match us, hl with | [_], _ => rfl),
    g_law := PySem.W.mg_of X G a_law,
    b_ValueError := PySem.W.mg_none_of X G z_ValueError,
    b_bool := PySem.W.mg_none_of X G z_bool,
    b_int := PySem.W.mg_none_of X G z_int,
    b_isinstance := PySem.W.mg_none_of X G z_isinstance,
    b_len := PySem.W.mg_none_of X G z_len,
    b_range := PySem.W.mg_none_of X G z_range,
    e_ZeroElement := C_ZeroElement,
    x_ZeroElement := ⟨PySem.W.mg_of X G a_ZeroElement, x_ZeroElement, k_ZeroElement, b_ZeroElement, t_ZeroElement⟩,
    gc_ZeroElement := PySem.W.mg_of X G a_ZeroElement,
    e_CairnError := C_CairnError,
    gc_CairnError := PySem.W.mg_of X G a_CairnError,
    e_DuplicatePoint := C_DuplicatePoint,
    gc_DuplicatePoint := PySem.W.mg_of X G a_DuplicatePoint,
    e_ShapeMismatch := C_ShapeMismatch,
    gc_ShapeMismatch := PySem.W.mg_of X G a_ShapeMismatch,
    xc_ZeroElement := ⟨xa_ZeroElement, xb_ZeroElement, b_ZeroElement, h_ZeroElement, xd_ZeroElement, xsp, xtk, xm_ZeroElement⟩,
    xm_ZeroElement_CairnError := PySem.W.exm_ref b_CairnError h_CairnError t_CairnError sb_ZeroElement_CairnError,
    ki_ZeroElement_DuplicatePoint := kit_ref h_DuplicatePoint t_DuplicatePoint sb_ZeroElement_DuplicatePoint ne_ZeroElement_DuplicatePoint,
    ki_ZeroElement_ShapeMismatch := kit_ref h_ShapeMismatch t_ShapeMismatch sb_ZeroElement_ShapeMismatch ne_ZeroElement_ShapeMismatch,
    ki_ZeroElement_ValueError := kit_type (by decide +kernel) sb_ZeroElement_ValueError,
    ki_ZeroElement_ZeroElement := kit_ref h_ZeroElement t_ZeroElement sb_ZeroElement_ZeroElement ne_ZeroElement_ZeroElement }
  exact ⟨tx.d_law, fun s v => .of_eq rfl, fun base _ _ => law_of law_true (ok_law tx)⟩
end K01
open PySem PySem.W PyProof.Rows
set_option maxHeartbeats 0 in
theorem PySem.Challenge.cw_cairnhouse_k01_field_arithmetic_holds : PySem.Challenge.rw_cairnhouse_k01_field_arithmetic.Holds := by
  w_on; o_law; k_head; (case hw => w_witness2)
  k_fill
  refine L2.walk_of (l := PySem.Challenge.rw_cairnhouse_k01_field_arithmetic) (n := 63) (k := 6) (x := "script") (CX := fun w => L2.CX PySem.Challenge.rw_cairnhouse_k01_field_arithmetic.prog w) (sp := fun w => Cn.spLaw _) rfl (by decide) rfl ⟨rfl, by decide, by decide⟩ (fun w h Y => PySem.W.kIn_of Y) ?F (fun _ _ a ns hl _ hS => ⟨a, ns, rfl, hS, hl, fun _ => rfl⟩) (fun _ _ _ _ _ h => Cn.cx_false h)
  case F =>
    intro w mg fa h KX G hmg
    refine' K01.all_mk KX G hmg ?a__law_cell ?l__law_cell ?c__law_cell ?k__law_cell ?a__law_mixed ?l__law_mixed ?c__law_mixed ?k__law_mixed ?a__law_digits ?l__law_digits ?c__law_digits ?k__law_digits ?a_mul ?l_mul ?c_mul ?k_mul ?a_power ?l_power ?c_power ?k_power ?a_inv ?l_inv ?c_inv ?k_inv ?a_div ?l_div ?c_div ?k_div ?a__law_is_integer ?l__law_is_integer ?c__law_is_integer ?k__law_is_integer ?a_add ?l_add ?c_add ?k_add ?a__law_mul ?l__law_mul ?c__law_mul ?k__law_mul ?a__law_power ?l__law_power ?c__law_power ?k__law_power ?a__law_refuses ?l__law_refuses ?c__law_refuses ?k__law_refuses ?a_law ?l_law ?c_law ?k_law ?z_ValueError ?z_bool ?z_int ?z_isinstance ?z_len ?z_range ?a_ZeroElement ?b_ZeroElement ?t_ZeroElement ?h_ZeroElement ?x_ZeroElement ?k_ZeroElement ?a_CairnError ?b_CairnError ?t_CairnError ?h_CairnError ?a_DuplicatePoint ?b_DuplicatePoint ?t_DuplicatePoint ?h_DuplicatePoint ?a_ShapeMismatch ?b_ShapeMismatch ?t_ShapeMismatch ?h_ShapeMismatch ?xa_ZeroElement ?xb_ZeroElement ?xd_ZeroElement ?xm_ZeroElement ?xsp ?xtk ?sb_ZeroElement_CairnError ?sb_ZeroElement_DuplicatePoint ?ne_ZeroElement_DuplicatePoint ?sb_ZeroElement_ShapeMismatch ?ne_ZeroElement_ShapeMismatch ?sb_ZeroElement_ValueError ?sb_ZeroElement_ZeroElement ?ne_ZeroElement_ZeroElement
    (case a__law_cell => k_is); (case l__law_cell => k_is); (case c__law_cell => k_is); (case k__law_cell => k_is); (case a__law_mixed => k_is); (case l__law_mixed => k_is); (case c__law_mixed => k_is); (case k__law_mixed => k_is); (case a__law_digits => k_is); (case l__law_digits => k_is); (case c__law_digits => k_is); (case k__law_digits => k_is); (case a_mul => k_is); (case l_mul => k_is); (case c_mul => k_is); (case k_mul => k_is); (case a_power => k_is); (case l_power => k_is); (case c_power => k_is); (case k_power => k_is); (case a_inv => k_is); (case l_inv => k_is); (case c_inv => k_is); (case k_inv => k_is); (case a_div => k_is); (case l_div => k_is); (case c_div => k_is); (case k_div => k_is); (case a__law_is_integer => k_is); (case l__law_is_integer => k_is); (case c__law_is_integer => k_is); (case k__law_is_integer => k_is); (case a_add => k_is); (case l_add => k_is); (case c_add => k_is); (case k_add => k_is); (case a__law_mul => k_is); (case l__law_mul => k_is); (case c__law_mul => k_is); (case k__law_mul => k_is); (case a__law_power => k_is); (case l__law_power => k_is); (case c__law_power => k_is); (case k__law_power => k_is); (case a__law_refuses => k_is); (case l__law_refuses => k_is); (case c__law_refuses => k_is); (case k__law_refuses => k_is); (case a_law => k_is); (case l_law => k_is); (case c_law => k_is); (case k_law => k_is); (case z_ValueError => k_is); (case z_bool => k_is); (case z_int => k_is); (case z_isinstance => k_is); (case z_len => k_is); (case z_range => k_is); (case a_ZeroElement => k_is); (case b_ZeroElement => k_is); (case t_ZeroElement => k_is); (case h_ZeroElement => k_is); (case x_ZeroElement => k_exc); (case k_ZeroElement => k_is); (case a_CairnError => k_is); (case b_CairnError => k_is); (case t_CairnError => k_is); (case h_CairnError => k_is); (case a_DuplicatePoint => k_is); (case b_DuplicatePoint => k_is); (case t_DuplicatePoint => k_is); (case h_DuplicatePoint => k_is); (case a_ShapeMismatch => k_is); (case b_ShapeMismatch => k_is); (case t_ShapeMismatch => k_is); (case h_ShapeMismatch => k_is); (case xa_ZeroElement => k_is); (case xb_ZeroElement => k_is); (case xd_ZeroElement => k_is); (case xm_ZeroElement => k_is); (case xsp => k_is); (case xtk => k_is); (case sb_ZeroElement_CairnError => k_is); (case sb_ZeroElement_DuplicatePoint => k_is); (case ne_ZeroElement_DuplicatePoint => decide +kernel); (case sb_ZeroElement_ShapeMismatch => k_is); (case ne_ZeroElement_ShapeMismatch => decide +kernel); (case sb_ZeroElement_ValueError => k_is); (case sb_ZeroElement_ZeroElement => k_is); (case ne_ZeroElement_ZeroElement => decide +kernel)
