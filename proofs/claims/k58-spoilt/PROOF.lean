import PyProof.Rows.All
import Wide.All
import OpenK.AllK
import Wide.FinOn
import HandS.ForSpec
import HandS.ForMost
import HandS.TupAny
import HandS.NoneIn
import HandS.Conv
import HandS.Rev
import HandS.SortInts
import HandS.IsInst
import HandS.Style
import HandS.Flow
import HandS.ExcIs
import HandS.TryOnly
import HandS.ExcOwn
import HandS.Exc
import KE.KTupSum
import HandS.Iter
import HandS.RevRange
import KE.KRevSl
import PySem.Challenge.RW_cairnhouse_k58_sieves_of_spoilt_streams
set_option Elab.async false
set_option linter.all false
set_option maxRecDepth 100000
set_option maxHeartbeats 4000000
/-! Cn0: what a value stands for (D, T), heaps that grow, the state of a body -/
namespace Cn
open PySem PySem.Spec L2

/-- a result: stuck, an exception of a class, a value -/
inductive R (α : Type) where
  | bad
  | err (c : Str)
  | ok (a : α)
def R.bind {α β : Type} (m : R α) (f : α → R β) : R β :=
  match m with
  | .bad => .bad
  | .err c => .err c
  | .ok a => f a
instance : Monad R where
  pure := R.ok
  bind := R.bind
theorem bind_ok {α β : Type} {a : α} {f : α → R β} : (R.ok a >>= f) = f a := rfl
theorem bind_bad {α β : Type} {f : α → R β} : ((R.bad : R α) >>= f) = R.bad := rfl
theorem bind_err {α β : Type} {c : Str} {f : α → R β} : ((R.err c : R α) >>= f) = R.err c := rfl
/-- what holds of a result: nothing is said of one that is stuck -/
def Po {α : Type} (m : R α) (Q : α → Prop) (E : Str → Prop) : Prop :=
  match m with
  | .bad => False
  | .err c => E c
  | .ok a => Q a
theorem Po.bind {α β : Type} {m : R α} {f : α → R β} {Q : β → Prop} {E : Str → Prop} (h : Po (m >>= f) Q E) : Po m (fun a => Po (f a) Q E) E := by
  cases m with
  | bad => exact h
  | err c => exact h
  | ok a => exact h
theorem Po.imp {α : Type} {m : R α} {Q Q' : α → Prop} {E E' : Str → Prop} (h : Po m Q E) (hq : ∀ a, m = .ok a → Q a → Q' a) (he : ∀ c, E c → E' c) : Po m Q' E' := by
  cases m with
  | bad => exact h
  | err c => exact he c h
  | ok a => exact hq a rfl h

/-- data as a whole; what is shared and stays -/
inductive D where
  /-- anything -/
  | any
  /-- this value -/
  | val (v : V)
  | non
  | bl (b : Bool)
  | int (i : Int)
  | str (s : Str)
  | tup (ds : List D)
  | lst (ds : List D)
  /-- a list that is read alone (the script, a list of the module's) -/
  | frl (ds : List D)
  | dic (ks : List Key) (ds : List D)
  | dit (ks : List (List Key)) (ds : List D)
  | obj (C : Str) (fs : List Str) (ds : List D)
/-- .. and what is one's own -/
inductive T where
  | imm (d : D)
  | lst (ts : List T)
  | dic (ks : List Key) (ts : List T)
  | dit (ks : List (List Key)) (ts : List T)
  | obj (C : Str) (fs : List Str) (ts : List T)
structure Ctx where
  K : PySem.W.Frag
  mg : Str → Option Value
mutual
/-- v stands for d in the heap M -/
def Rep (G : Ctx) (M : Hp) : D → V → Prop
  | .any, _ => True
  | .val w, v => v = w
  | .non, v => v = .non
  | .bl b, v => v = .bl b
  | .int i, v => v = .int i
  | .str s, v => v = .str s
  | .tup ds, v => ∃ a vs, v = .ref a ∧ SqT G.K M a vs ∧ Reps G M ds vs
  | .lst ds, v => ∃ a vs, v = .ref a ∧ M a = some (.lst vs) ∧ Reps G M ds vs
  | .frl ds, v => ∃ a vs, v = .ref a ∧ SqL G.K M a vs ∧ Reps G M ds vs
  | .dic ks ds, v => ∃ a kvs, v = .ref a ∧ M a = some (.dK kvs) ∧ kvs.map (·.1) = ks ∧ Reps G M ds (kvs.map (·.2))
  | .dit ks ds, v => ∃ a kvs, v = .ref a ∧ M a = some (.dT kvs) ∧ kvs.map (·.1) = ks ∧ Reps G M ds (kvs.map (·.2))
  | .obj C fs ds, v => ∃ a c dx kvs, v = .ref a ∧ G.mg C = some (.ref c) ∧ M a = some (.ins c dx kvs) ∧ kvs.map (·.1) = fs ∧ Reps G M ds (kvs.map (·.2))
def Reps (G : Ctx) (M : Hp) : List D → List V → Prop
  | [], vs => vs = []
  | d :: ds, vs => ∃ v r, vs = v :: r ∧ Rep G M d v ∧ Reps G M ds r
end
mutual
/-- v is the tree t: its own addresses are as, what is shared stands in M -/
def Own (G : Ctx) (M H : Hp) : T → V → List Addr → Prop
  | .imm d, v, as => as = [] ∧ Rep G M d v
  | .lst ts, v, as => ∃ a vs r, v = .ref a ∧ as = a :: r ∧ H a = some (.lst vs) ∧ Owns G M H ts vs r
  | .dic ks ts, v, as => ∃ a kvs r, v = .ref a ∧ as = a :: r ∧ H a = some (.dK kvs) ∧ kvs.map (·.1) = ks ∧ Owns G M H ts (kvs.map (·.2)) r
  | .dit ks ts, v, as => ∃ a kvs r, v = .ref a ∧ as = a :: r ∧ H a = some (.dT kvs) ∧ kvs.map (·.1) = ks ∧ Owns G M H ts (kvs.map (·.2)) r
  | .obj C fs ts, v, as => ∃ a c dx kvs r, v = .ref a ∧ as = a :: r ∧ G.mg C = some (.ref c) ∧ H a = some (.ins c dx kvs) ∧ kvs.map (·.1) = fs ∧ Owns G M H ts (kvs.map (·.2)) r
def Owns (G : Ctx) (M H : Hp) : List T → List V → List Addr → Prop
  | [], vs, as => vs = [] ∧ as = []
  | t :: ts, vs, as => ∃ v r a1 a2, vs = v :: r ∧ as = a1 ++ a2 ∧ Own G M H t v a1 ∧ Owns G M H ts r a2
end
section
variable {G : Ctx} {M M' H H' : Hp}
theorem same_sqt {a : Addr} {xs : List V} {K : PySem.W.Frag} (e : Same M M') (h : SqT K M a xs) : SqT K M' a xs := by
  rcases h with (h | ⟨o, h⟩) | h
  · exact .inl (.inl (e _ _ h))
  · exact .inl (.inr ⟨o, e _ _ h⟩)
  · exact .inr h
mutual
theorem Rep.mono (e : Same M M') : ∀ (d : D) (v : V), Rep G M d v → Rep G M' d v
  | .any, v, h => h
  | .val w, v, h => h
  | .non, v, h => h
  | .bl b, v, h => h
  | .int i, v, h => h
  | .str s, v, h => h
  | .tup ds, v, ⟨a, vs, h1, h2, h3⟩ => ⟨a, vs, h1, same_sqt e h2, Reps.mono e ds vs h3⟩
  | .lst ds, v, ⟨a, vs, h1, h2, h3⟩ => ⟨a, vs, h1, e _ _ h2, Reps.mono e ds vs h3⟩
  | .frl ds, v, ⟨a, vs, h1, h2, h3⟩ => ⟨a, vs, h1, e.seq h2, Reps.mono e ds vs h3⟩
  | .dic ks ds, v, ⟨a, vs, h1, h2, h4, h3⟩ => ⟨a, vs, h1, e _ _ h2, h4, Reps.mono e ds _ h3⟩
  | .dit ks ds, v, ⟨a, vs, h1, h2, h4, h3⟩ => ⟨a, vs, h1, e _ _ h2, h4, Reps.mono e ds _ h3⟩
  | .obj C fs ds, v, ⟨a, c, dx, vs, h1, h5, h2, h4, h3⟩ => ⟨a, c, dx, vs, h1, h5, e _ _ h2, h4, Reps.mono e ds _ h3⟩
theorem Reps.mono (e : Same M M') : ∀ (ds : List D) (vs : List V), Reps G M ds vs → Reps G M' ds vs
  | [], vs, h => h
  | d :: ds, vs, ⟨v, r, h1, h2, h3⟩ => ⟨v, r, h1, Rep.mono e d v h2, Reps.mono e ds r h3⟩
end
mutual
theorem Own.keep (e : Same M M') : ∀ (t : T) (v : V) (as : List Addr), (∀ a ∈ as, ∀ o, H a = some o → H' a = some o) → Own G M H t v as → Own G M' H' t v as
  | .imm d, v, as, f, ⟨h1, h2⟩ => ⟨h1, Rep.mono e d v h2⟩
  | .lst ts, v, as, f, ⟨a, vs, r, h1, h2, h3, h4⟩ => by
    subst h2
    exact ⟨a, vs, r, h1, rfl, f _ List.mem_cons_self _ h3, Owns.keep e ts _ _ (fun b hb => f b (List.mem_cons_of_mem _ hb)) h4⟩
  | .dic ks ts, v, as, f, ⟨a, vs, r, h1, h2, h3, h5, h4⟩ => by
    subst h2
    exact ⟨a, vs, r, h1, rfl, f _ List.mem_cons_self _ h3, h5, Owns.keep e ts _ _ (fun b hb => f b (List.mem_cons_of_mem _ hb)) h4⟩
  | .dit ks ts, v, as, f, ⟨a, vs, r, h1, h2, h3, h5, h4⟩ => by
    subst h2
    exact ⟨a, vs, r, h1, rfl, f _ List.mem_cons_self _ h3, h5, Owns.keep e ts _ _ (fun b hb => f b (List.mem_cons_of_mem _ hb)) h4⟩
  | .obj C fs ts, v, as, f, ⟨a, c, dx, vs, r, h1, h2, h6, h3, h5, h4⟩ => by
    subst h2
    exact ⟨a, c, dx, vs, r, h1, rfl, h6, f _ List.mem_cons_self _ h3, h5, Owns.keep e ts _ _ (fun b hb => f b (List.mem_cons_of_mem _ hb)) h4⟩
theorem Owns.keep (e : Same M M') : ∀ (ts : List T) (vs : List V) (as : List Addr), (∀ a ∈ as, ∀ o, H a = some o → H' a = some o) → Owns G M H ts vs as → Owns G M' H' ts vs as
  | [], vs, as, f, h => h
  | t :: ts, vs, as, f, ⟨v, r, a1, a2, h1, h2, h3, h4⟩ => by
    subst h2
    exact ⟨v, r, a1, a2, h1, rfl, Own.keep e t v a1 (fun b hb => f b (List.mem_append_left _ hb)) h3, Owns.keep e ts r a2 (fun b hb => f b (List.mem_append_right _ hb)) h4⟩
end
mutual
theorem Own.there : ∀ (t : T) (v : V) (as : List Addr), Own G M H t v as → ∀ a ∈ as, H a ≠ none
  | .imm d, v, as, ⟨h1, h2⟩, b, hb => by rw [h1] at hb; cases hb
  | .lst ts, v, as, ⟨a, vs, r, h1, h2, h3, h4⟩, b, hb => by
    subst h2
    rcases List.mem_cons.mp hb with z | z
    · rw [z, h3]; exact fun q => nomatch q
    · exact Owns.there ts _ _ h4 b z
  | .dic ks ts, v, as, ⟨a, vs, r, h1, h2, h3, h5, h4⟩, b, hb => by
    subst h2
    rcases List.mem_cons.mp hb with z | z
    · rw [z, h3]; exact fun q => nomatch q
    · exact Owns.there ts _ _ h4 b z
  | .dit ks ts, v, as, ⟨a, vs, r, h1, h2, h3, h5, h4⟩, b, hb => by
    subst h2
    rcases List.mem_cons.mp hb with z | z
    · rw [z, h3]; exact fun q => nomatch q
    · exact Owns.there ts _ _ h4 b z
  | .obj C fs ts, v, as, ⟨a, c, dx, vs, r, h1, h2, h6, h3, h5, h4⟩, b, hb => by
    subst h2
    rcases List.mem_cons.mp hb with z | z
    · rw [z, h3]; exact fun q => nomatch q
    · exact Owns.there ts _ _ h4 b z
theorem Owns.there : ∀ (ts : List T) (vs : List V) (as : List Addr), Owns G M H ts vs as → ∀ a ∈ as, H a ≠ none
  | [], vs, as, ⟨h1, h2⟩, b, hb => by rw [h2] at hb; cases hb
  | t :: ts, vs, as, ⟨v, r, a1, a2, h1, h2, h3, h4⟩, b, hb => by
    subst h2
    rcases List.mem_append.mp hb with z | z
    · exact Own.there t v a1 h3 b z
    · exact Owns.there ts r a2 h4 b z
end
mutual
/-- frozen -/
def fz : T → D
  | .imm d => d
  | .lst ts => .lst (fzs ts)
  | .dic ks ts => .dic ks (fzs ts)
  | .dit ks ts => .dit ks (fzs ts)
  | .obj C fs ts => .obj C fs (fzs ts)
def fzs : List T → List D
  | [] => []
  | t :: ts => fz t :: fzs ts
end
theorem fzs_map {α : Type} (e : α → T) (xs : List α) : fzs (xs.map e) = xs.map fun x => fz (e x) := by
  induction xs with
  | nil => rfl
  | cons x r ih => show fz (e x) :: fzs (r.map e) = _; rw [ih]; rfl
mutual
theorem Own.freeze (e : Same M M') : ∀ (t : T) (v : V) (as : List Addr), (∀ a ∈ as, ∀ o, H a = some o → M' a = some o) → Own G M H t v as → Rep G M' (fz t) v
  | .imm d, v, as, f, ⟨h1, h2⟩ => Rep.mono e d v h2
  | .lst ts, v, as, f, ⟨a, vs, r, h1, h2, h3, h4⟩ => by
    subst h2
    exact ⟨a, vs, h1, f _ List.mem_cons_self _ h3, Owns.freeze e ts _ _ (fun b hb => f b (List.mem_cons_of_mem _ hb)) h4⟩
  | .dic ks ts, v, as, f, ⟨a, vs, r, h1, h2, h3, h5, h4⟩ => by
    subst h2
    exact ⟨a, vs, h1, f _ List.mem_cons_self _ h3, h5, Owns.freeze e ts _ _ (fun b hb => f b (List.mem_cons_of_mem _ hb)) h4⟩
  | .dit ks ts, v, as, f, ⟨a, vs, r, h1, h2, h3, h5, h4⟩ => by
    subst h2
    exact ⟨a, vs, h1, f _ List.mem_cons_self _ h3, h5, Owns.freeze e ts _ _ (fun b hb => f b (List.mem_cons_of_mem _ hb)) h4⟩
  | .obj C fs ts, v, as, f, ⟨a, c, dx, vs, r, h1, h2, h6, h3, h5, h4⟩ => by
    subst h2
    exact ⟨a, c, dx, vs, h1, h6, f _ List.mem_cons_self _ h3, h5, Owns.freeze e ts _ _ (fun b hb => f b (List.mem_cons_of_mem _ hb)) h4⟩
theorem Owns.freeze (e : Same M M') : ∀ (ts : List T) (vs : List V) (as : List Addr), (∀ a ∈ as, ∀ o, H a = some o → M' a = some o) → Owns G M H ts vs as → Reps G M' (fzs ts) vs
  | [], vs, as, f, h => h.1
  | t :: ts, vs, as, f, ⟨v, r, a1, a2, h1, h2, h3, h4⟩ => by
    subst h2
    exact ⟨v, r, h1, Own.freeze e t v a1 (fun b hb => f b (List.mem_append_left _ hb)) h3, Owns.freeze e ts r a2 (fun b hb => f b (List.mem_append_right _ hb)) h4⟩
end
end
/-! ### lists of data by places -/
section
variable {G : Ctx} {M H : Hp}
theorem Reps.len : ∀ {ds : List D} {vs : List V}, Reps G M ds vs → vs.length = ds.length
  | [], vs, h => by rw [show vs = [] from h]; rfl
  | d :: ds, vs, ⟨v, r, h1, h2, h3⟩ => by rw [h1, List.length_cons, List.length_cons, Reps.len h3]
theorem Reps.get : ∀ {ds : List D} {vs : List V} {i : Nat} {d : D}, Reps G M ds vs → ds[i]? = some d → ∃ v, vs[i]? = some v ∧ Rep G M d v
  | [], vs, i, d, h, e => by simp at e
  | d :: ds, vs, 0, x, ⟨v, r, h1, h2, h3⟩, e => by
    have z : d = x := Option.some.inj e
    subst z; subst h1
    exact ⟨v, rfl, h2⟩
  | d :: ds, vs, i + 1, x, ⟨v, r, h1, h2, h3⟩, e => by
    subst h1
    exact Reps.get (i := i) h3 e
theorem Reps.app : ∀ {ds es : List D} {vs ws : List V}, Reps G M ds vs → Reps G M es ws → Reps G M (ds ++ es) (vs ++ ws)
  | [], es, vs, ws, h, k => by rw [show vs = [] from h]; exact k
  | d :: ds, es, vs, ws, ⟨v, r, h1, h2, h3⟩, k => ⟨v, r ++ ws, by rw [h1]; rfl, h2, Reps.app h3 k⟩
theorem Reps.drop : ∀ {ds : List D} {vs : List V} (n : Nat), Reps G M ds vs → Reps G M (ds.drop n) (vs.drop n)
  | ds, vs, 0, h => h
  | [], vs, n + 1, h => by rw [show vs = [] from h]; exact rfl
  | d :: ds, vs, n + 1, ⟨v, r, h1, h2, h3⟩ => by subst h1; exact Reps.drop n h3
theorem Reps.take : ∀ {ds : List D} {vs : List V} (n : Nat), Reps G M ds vs → Reps G M (ds.take n) (vs.take n)
  | ds, vs, 0, h => rfl
  | [], vs, n + 1, h => by rw [show vs = [] from h]; exact rfl
  | d :: ds, vs, n + 1, ⟨v, r, h1, h2, h3⟩ => by subst h1; exact ⟨v, r.take n, rfl, h2, Reps.take n h3⟩
theorem Owns.len : ∀ {ts : List T} {vs : List V} {as : List Addr}, Owns G M H ts vs as → vs.length = ts.length
  | [], vs, as, h => by rw [h.1]; rfl
  | t :: ts, vs, as, ⟨v, r, a1, a2, h1, h2, h3, h4⟩ => by rw [h1, List.length_cons, List.length_cons, Owns.len h4]
theorem Owns.get : ∀ {ts : List T} {vs : List V} {as : List Addr} {i : Nat} {t : T}, Owns G M H ts vs as → ts[i]? = some t → ∃ v a, vs[i]? = some v ∧ Own G M H t v a ∧ ∀ b ∈ a, b ∈ as
  | [], vs, as, i, t, h, e => by simp at e
  | t :: ts, vs, as, 0, x, ⟨v, r, a1, a2, h1, h2, h3, h4⟩, e => by
    have z : t = x := Option.some.inj e
    subst z; subst h1; subst h2
    exact ⟨v, a1, rfl, h3, fun b hb => List.mem_append_left _ hb⟩
  | t :: ts, vs, as, i + 1, x, ⟨v, r, a1, a2, h1, h2, h3, h4⟩, e => by
    subst h1; subst h2
    obtain ⟨w, a, q1, q2, q3⟩ := Owns.get (i := i) h4 e
    exact ⟨w, a, q1, q2, fun b hb => List.mem_append_right _ (q3 b hb)⟩
theorem Owns.app : ∀ {ts us : List T} {vs ws : List V} {as bs : List Addr}, Owns G M H ts vs as → Owns G M H us ws bs → Owns G M H (ts ++ us) (vs ++ ws) (as ++ bs)
  | [], us, vs, ws, as, bs, h, k => by rw [h.1, h.2]; exact k
  | t :: ts, us, vs, ws, as, bs, ⟨v, r, a1, a2, h1, h2, h3, h4⟩, k => ⟨v, r ++ ws, a1, a2 ++ bs, by rw [h1]; rfl, by rw [h2, List.append_assoc], h3, Owns.app h4 k⟩
theorem Owns.imm : ∀ {ds : List D} {vs : List V}, Reps G M ds vs → Owns G M H (ds.map .imm) vs []
  | [], vs, h => ⟨h, rfl⟩
  | d :: ds, vs, ⟨v, r, h1, h2, h3⟩ => ⟨v, r, [], [], h1, rfl, ⟨rfl, h2⟩, Owns.imm h3⟩
theorem Owns.of_imm : ∀ {ds : List D} {vs : List V} {as : List Addr}, Owns G M H (ds.map .imm) vs as → Reps G M ds vs ∧ as = []
  | [], vs, as, h => ⟨h.1, h.2⟩
  | d :: ds, vs, as, ⟨v, r, a1, a2, h1, h2, h3, h4⟩ => by
    obtain ⟨q1, q2⟩ := Owns.of_imm h4
    exact ⟨⟨v, r, h1, h3.2, q1⟩, by rw [h2, h3.1, q2]; rfl⟩
end
end Cn
/-! Cn1: the state of a body, judgements -/
namespace Cn
open PySem PySem.Spec L2
/-- a slot: unknown, a tree, a tree whose value is known -/
inductive Sl where
  | un
  | ow (t : T)
  | pn (v : V) (t : T)
  /-- a tree that is looked at: it stays as it is -/
  | lk (t : T)
def Sat (G : Ctx) (F M H : Hp) : List Sl → St → List Addr → Prop
  | [], σ, as => σ = [] ∧ as = []
  | .un :: Γ, σ, as => ∃ x r, σ = x :: r ∧ Sat G F M H Γ r as
  | .ow t :: Γ, σ, as => ∃ v r a1 a2, σ = some v :: r ∧ as = a1 ++ a2 ∧ Own G M H t v a1 ∧ Sat G F M H Γ r a2
  | .pn w t :: Γ, σ, as => ∃ r a1 a2, σ = some w :: r ∧ as = a1 ++ a2 ∧ Own G M H t w a1 ∧ Sat G F M H Γ r a2
  | .lk t :: Γ, σ, as => ∃ v r a0, σ = some v :: r ∧ Own G M F t v a0 ∧ Sat G F M H Γ r as
structure Fr0 (F M0 M H : Hp) (as : List Addr) : Prop where
  fh : Same F H
  mm : Same M0 M
  mh : Same M H
  nw : ∀ a, M a ≠ none → M0 a ≠ none ∨ F a = none
  nd : as.Nodup
  fa : ∀ a ∈ as, F a = none
  ma : ∀ a ∈ as, M a = none
/-- the state: F what must stay, M0 what was shared at the entry, M what is shared -/
def S (G : Ctx) (F M0 M H : Hp) (σ : St) (Γ : List Sl) : Prop := ∃ as, Fr0 F M0 M H as ∧ Sat G F M H Γ σ as
/-- the heap has grown -/
structure Gr (M H M' H' : Hp) : Prop where
  hh : Same H H'
  mm : Same M M'
  mh : Same M' H'
  nw : ∀ a, M' a ≠ none → M a ≠ none ∨ H a = none
theorem Gr.refl {M H : Hp} (h : Same M H) : Gr M H M H := ⟨.refl _, .refl _, h, fun _ z => .inl z⟩
theorem Gr.trans {M H M1 H1 M2 H2 : Hp} (a : Gr M H M1 H1) (b : Gr M1 H1 M2 H2) : Gr M H M2 H2 :=
  ⟨a.hh.trans b.hh, a.mm.trans b.mm, b.mh, fun x z => by
    rcases b.nw x z with q | q
    · exact a.nw x q
    · exact .inr (a.hh.free q)⟩
theorem Same.of_some {M H : Hp} (h : Same M H) {a : Addr} (z : M a ≠ none) : H a ≠ none := by
  cases e : M a with
  | none => exact absurd e z
  | some o => rw [h a o e]; exact fun q => nomatch q
section
variable {G : Ctx} {F M0 M M' H H' : Hp}
theorem Sat.keep (e : Same M M') : ∀ (Γ : List Sl) (σ : St) (as : List Addr), (∀ a ∈ as, ∀ o, H a = some o → H' a = some o) → Sat G F M H Γ σ as → Sat G F M' H' Γ σ as
  | [], σ, as, f, h => h
  | .un :: Γ, σ, as, f, ⟨x, r, h1, h2⟩ => ⟨x, r, h1, Sat.keep e Γ r as f h2⟩
  | .ow t :: Γ, σ, as, f, ⟨v, r, a1, a2, h1, h2, h3, h4⟩ => by
    subst h2
    exact ⟨v, r, a1, a2, h1, rfl, Own.keep e t v a1 (fun b hb => f b (List.mem_append_left _ hb)) h3, Sat.keep e Γ r a2 (fun b hb => f b (List.mem_append_right _ hb)) h4⟩
  | .pn w t :: Γ, σ, as, f, ⟨r, a1, a2, h1, h2, h3, h4⟩ => by
    subst h2
    exact ⟨r, a1, a2, h1, rfl, Own.keep e t w a1 (fun b hb => f b (List.mem_append_left _ hb)) h3, Sat.keep e Γ r a2 (fun b hb => f b (List.mem_append_right _ hb)) h4⟩
  | .lk t :: Γ, σ, as, f, ⟨v, r, a0, h1, h2, h3⟩ => ⟨v, r, a0, h1, Own.keep e t v a0 (fun _ _ _ q => q) h2, Sat.keep e Γ r as f h3⟩
theorem Sat.there : ∀ (Γ : List Sl) (σ : St) (as : List Addr), Sat G F M H Γ σ as → ∀ a ∈ as, H a ≠ none
  | [], σ, as, h, b, hb => by rw [h.2] at hb; cases hb
  | .un :: Γ, σ, as, ⟨x, r, h1, h2⟩, b, hb => Sat.there Γ r as h2 b hb
  | .ow t :: Γ, σ, as, ⟨v, r, a1, a2, h1, h2, h3, h4⟩, b, hb => by
    subst h2
    rcases List.mem_append.mp hb with z | z
    · exact Own.there t v a1 h3 b z
    · exact Sat.there Γ r a2 h4 b z
  | .pn w t :: Γ, σ, as, ⟨r, a1, a2, h1, h2, h3, h4⟩, b, hb => by
    subst h2
    rcases List.mem_append.mp hb with z | z
    · exact Own.there t w a1 h3 b z
    · exact Sat.there Γ r a2 h4 b z
  | .lk t :: Γ, σ, as, ⟨v, r, a0, h1, h2, h3⟩, b, hb => Sat.there Γ r as h3 b hb
theorem Fr0.grow {as : List Addr} (f : Fr0 F M0 M H as) (th : ∀ a ∈ as, H a ≠ none) (g : Gr M H M' H') : Fr0 F M0 M' H' as where
  fh := f.fh.trans g.hh
  mm := f.mm.trans g.mm
  mh := g.mh
  nw := fun a z => by
    rcases g.nw a z with q | q
    · exact f.nw a q
    · exact .inr (f.fh.free q)
  nd := f.nd
  fa := f.fa
  ma := fun a ha => by
    cases e : M' a with
    | none => rfl
    | some o =>
      rcases g.nw a (by rw [e]; exact fun q => nomatch q) with q | q
      · exact absurd (f.ma a ha) q
      · exact absurd q (th a ha)
theorem S.grow {σ : St} {Γ : List Sl} (h : S G F M0 M H σ Γ) (g : Gr M H M' H') : S G F M0 M' H' σ Γ := by
  obtain ⟨as, f, s⟩ := h
  exact ⟨as, f.grow (Sat.there Γ σ as s) g, Sat.keep g.mm Γ σ as (fun a _ o e => g.hh a o e) s⟩
theorem S.mh {σ : St} {Γ : List Sl} (h : S G F M0 M H σ Γ) : Same M H := let ⟨_, f, _⟩ := h; f.mh
theorem S.fh {σ : St} {Γ : List Sl} (h : S G F M0 M H σ Γ) : Same F H := let ⟨_, f, _⟩ := h; f.fh
/-- a slot that is read -/
theorem Sat.get : ∀ {Γ : List Sl} {σ : St} {as : List Addr} {i : Nat} {t : T}, Sat G F M H Γ σ as → Γ[i]? = some (.ow t) → ∃ v a, σ[i]? = some (some v) ∧ Own G M H t v a ∧ ∀ b ∈ a, b ∈ as
  | [], σ, as, i, t, h, e => by simp at e
  | .un :: Γ, σ, as, 0, t, h, e => nomatch (Option.some.inj e)
  | .un :: Γ, σ, as, i + 1, t, ⟨x, r, h1, h2⟩, e => by
    subst h1
    exact Sat.get (i := i) h2 e
  | .ow t' :: Γ, σ, as, 0, t, ⟨v, r, a1, a2, h1, h2, h3, h4⟩, e => by
    have z : t' = t := Sl.ow.inj (Option.some.inj e)
    subst z; subst h1; subst h2
    exact ⟨v, a1, rfl, h3, fun b hb => List.mem_append_left _ hb⟩
  | .ow t' :: Γ, σ, as, i + 1, t, ⟨v, r, a1, a2, h1, h2, h3, h4⟩, e => by
    subst h1; subst h2
    obtain ⟨w, a, q1, q2, q3⟩ := Sat.get (i := i) h4 e
    exact ⟨w, a, q1, q2, fun b hb => List.mem_append_right _ (q3 b hb)⟩
  | .pn w t' :: Γ, σ, as, 0, t, h, e => nomatch (Option.some.inj e)
  | .pn w t' :: Γ, σ, as, i + 1, t, ⟨r, a1, a2, h1, h2, h3, h4⟩, e => by
    subst h1; subst h2
    obtain ⟨w, a, q1, q2, q3⟩ := Sat.get (i := i) h4 e
    exact ⟨w, a, q1, q2, fun b hb => List.mem_append_right _ (q3 b hb)⟩
  | .lk t' :: Γ, σ, as, 0, t, h, e => nomatch (Option.some.inj e)
  | .lk t' :: Γ, σ, as, i + 1, t, ⟨v, r, a0, h1, h2, h3⟩, e => by
    subst h1
    exact Sat.get (i := i) h3 e
theorem Sat.getP : ∀ {Γ : List Sl} {σ : St} {as : List Addr} {i : Nat} {w : V} {t : T}, Sat G F M H Γ σ as → Γ[i]? = some (.pn w t) → σ[i]? = some (some w) ∧ ∃ a, Own G M H t w a ∧ ∀ b ∈ a, b ∈ as
  | [], σ, as, i, w, t, h, e => by simp at e
  | .un :: Γ, σ, as, 0, w, t, h, e => nomatch (Option.some.inj e)
  | .un :: Γ, σ, as, i + 1, w, t, ⟨x, r, h1, h2⟩, e => by
    subst h1
    exact Sat.getP (i := i) h2 e
  | .ow t' :: Γ, σ, as, 0, w, t, h, e => nomatch (Option.some.inj e)
  | .ow t' :: Γ, σ, as, i + 1, w, t, ⟨v, r, a1, a2, h1, h2, h3, h4⟩, e => by
    subst h1; subst h2
    obtain ⟨q0, a, q2, q3⟩ := Sat.getP (i := i) h4 e
    exact ⟨q0, a, q2, fun b hb => List.mem_append_right _ (q3 b hb)⟩
  | .pn w' t' :: Γ, σ, as, 0, w, t, ⟨r, a1, a2, h1, h2, h3, h4⟩, e => by
    obtain ⟨z1, z2⟩ := Sl.pn.inj (Option.some.inj e)
    subst z1; subst z2; subst h1; subst h2
    exact ⟨rfl, a1, h3, fun b hb => List.mem_append_left _ hb⟩
  | .pn w' t' :: Γ, σ, as, i + 1, w, t, ⟨r, a1, a2, h1, h2, h3, h4⟩, e => by
    subst h1; subst h2
    obtain ⟨q0, a, q2, q3⟩ := Sat.getP (i := i) h4 e
    exact ⟨q0, a, q2, fun b hb => List.mem_append_right _ (q3 b hb)⟩
  | .lk t' :: Γ, σ, as, 0, w, t, h, e => nomatch (Option.some.inj e)
  | .lk t' :: Γ, σ, as, i + 1, w, t, ⟨v, r, a0, h1, h2, h3⟩, e => by
    subst h1
    exact Sat.getP (i := i) h3 e
/-- a slot is stored: what it owned is let go; n: the new addresses -/
theorem Sat.put : ∀ {Γ : List Sl} {σ : St} {as n : List Addr} {i : Nat} {t : T} {v : V}, Sat G F M H Γ σ as → i < Γ.length → Own G M H t v n → ∃ bs l r, Sat G F M H (Γ.set i (.ow t)) (σ.set i (some v)) bs ∧ bs = l ++ n ++ r ∧ (l ++ r).Sublist as
  | [], σ, as, n, i, t, v, h, hi, o => absurd hi (Nat.not_lt_zero _)
  | .un :: Γ, σ, as, n, 0, t, v, ⟨x, r, h1, h2⟩, hi, o => by
    subst h1
    exact ⟨n ++ as, [], as, ⟨v, r, n, as, rfl, rfl, o, h2⟩, rfl, by simp⟩
  | .ow t' :: Γ, σ, as, n, 0, t, v, ⟨w, r, a1, a2, h1, h2, h3, h4⟩, hi, o => by
    subst h1; subst h2
    exact ⟨n ++ a2, [], a2, ⟨v, r, n, a2, rfl, rfl, o, h4⟩, rfl, by simp⟩
  | .pn w t' :: Γ, σ, as, n, 0, t, v, ⟨r, a1, a2, h1, h2, h3, h4⟩, hi, o => by
    subst h1; subst h2
    exact ⟨n ++ a2, [], a2, ⟨v, r, n, a2, rfl, rfl, o, h4⟩, rfl, by simp⟩
  | .lk t' :: Γ, σ, as, n, 0, t, v, ⟨w, r, a0, h1, h2, h3⟩, hi, o => by
    subst h1
    exact ⟨n ++ as, [], as, ⟨v, r, n, as, rfl, rfl, o, h3⟩, rfl, by simp⟩
  | .lk t' :: Γ, σ, as, n, i + 1, t, v, ⟨w, r, a0, h1, h2, h3⟩, hi, o => by
    subst h1
    obtain ⟨bs, l, r', s, e, sub⟩ := Sat.put (i := i) h3 (Nat.lt_of_succ_lt_succ hi) o
    exact ⟨bs, l, r', ⟨w, _, a0, rfl, h2, s⟩, e, sub⟩
  | .un :: Γ, σ, as, n, i + 1, t, v, ⟨x, r, h1, h2⟩, hi, o => by
    subst h1
    obtain ⟨bs, l, r', s, e, sub⟩ := Sat.put (i := i) h2 (Nat.lt_of_succ_lt_succ hi) o
    exact ⟨bs, l, r', ⟨x, _, rfl, s⟩, e, sub⟩
  | .ow t' :: Γ, σ, as, n, i + 1, t, v, ⟨w, r, a1, a2, h1, h2, h3, h4⟩, hi, o => by
    subst h1; subst h2
    obtain ⟨bs, l, r', s, e, sub⟩ := Sat.put (i := i) h4 (Nat.lt_of_succ_lt_succ hi) o
    subst e
    exact ⟨a1 ++ (l ++ n ++ r'), a1 ++ l, r', ⟨w, _, a1, _, rfl, rfl, h3, s⟩, by simp, by rw [List.append_assoc]; exact List.Sublist.append_left sub a1⟩
  | .pn w t' :: Γ, σ, as, n, i + 1, t, v, ⟨r, a1, a2, h1, h2, h3, h4⟩, hi, o => by
    subst h1; subst h2
    obtain ⟨bs, l, r', s, e, sub⟩ := Sat.put (i := i) h4 (Nat.lt_of_succ_lt_succ hi) o
    subst e
    exact ⟨a1 ++ (l ++ n ++ r'), a1 ++ l, r', ⟨_, a1, _, rfl, rfl, h3, s⟩, by simp, by rw [List.append_assoc]; exact List.Sublist.append_left sub a1⟩
/-- weaken a slot -/
theorem Sat.drop : ∀ {Γ : List Sl} {σ : St} {as : List Addr} {i : Nat}, Sat G F M H Γ σ as → ∃ bs, Sat G F M H (Γ.set i .un) σ bs ∧ bs.Sublist as
  | [], σ, as, i, h => ⟨as, h, .refl _⟩
  | .un :: Γ, σ, as, 0, ⟨x, r, h1, h2⟩ => ⟨as, ⟨x, r, h1, h2⟩, .refl _⟩
  | .ow t' :: Γ, σ, as, 0, ⟨w, r, a1, a2, h1, h2, h3, h4⟩ => ⟨a2, ⟨some w, r, h1, h4⟩, by rw [h2]; exact List.sublist_append_right _ _⟩
  | .pn w t' :: Γ, σ, as, 0, ⟨r, a1, a2, h1, h2, h3, h4⟩ => ⟨a2, ⟨some w, r, h1, h4⟩, by rw [h2]; exact List.sublist_append_right _ _⟩
  | .lk t' :: Γ, σ, as, 0, ⟨w, r, a0, h1, h2, h3⟩ => ⟨as, ⟨some w, r, h1, h3⟩, .refl _⟩
  | .lk t' :: Γ, σ, as, i + 1, ⟨w, r, a0, h1, h2, h3⟩ => by
    obtain ⟨bs, s, sub⟩ := Sat.drop (i := i) h3
    exact ⟨bs, ⟨w, r, a0, h1, h2, s⟩, sub⟩
  | .un :: Γ, σ, as, i + 1, ⟨x, r, h1, h2⟩ => by
    obtain ⟨bs, s, sub⟩ := Sat.drop (i := i) h2
    exact ⟨bs, ⟨x, r, h1, s⟩, sub⟩
  | .ow t' :: Γ, σ, as, i + 1, ⟨w, r, a1, a2, h1, h2, h3, h4⟩ => by
    obtain ⟨bs, s, sub⟩ := Sat.drop (i := i) h4
    exact ⟨a1 ++ bs, ⟨w, r, a1, bs, h1, rfl, h3, s⟩, by rw [h2]; exact List.Sublist.append_left sub a1⟩
  | .pn w t' :: Γ, σ, as, i + 1, ⟨r, a1, a2, h1, h2, h3, h4⟩ => by
    obtain ⟨bs, s, sub⟩ := Sat.drop (i := i) h4
    exact ⟨a1 ++ bs, ⟨r, a1, bs, h1, rfl, h3, s⟩, by rw [h2]; exact List.Sublist.append_left sub a1⟩
theorem Fr0.sub {as bs : List Addr} (f : Fr0 F M0 M H as) (s : bs.Sublist as) : Fr0 F M0 M H bs :=
  ⟨f.fh, f.mm, f.mh, f.nw, f.nd.sublist s, fun a h => f.fa a (s.subset h), fun a h => f.ma a (s.subset h)⟩
/-- fresh addresses beside the ones that are owned -/
theorem Fr0.add {as n l r : List Addr} (f : Fr0 F M0 M H as) (s : (l ++ r).Sublist as) (nn : n.Nodup) (nf : ∀ a ∈ n, F a = none) (nm : ∀ a ∈ n, M a = none) (dj : ∀ a ∈ n, a ∉ as) : Fr0 F M0 M H (l ++ n ++ r) where
  fh := f.fh
  mm := f.mm
  mh := f.mh
  nw := f.nw
  nd := by
    have h := f.nd.sublist s
    have dl : ∀ a ∈ l, a ∈ as := fun a z => s.subset (List.mem_append_left _ z)
    have dr : ∀ a ∈ r, a ∈ as := fun a z => s.subset (List.mem_append_right _ z)
    rw [List.nodup_append] at h
    rw [List.append_assoc, List.nodup_append]
    refine ⟨h.1, ?_, fun a ha b hb e => ?_⟩
    · rw [List.nodup_append]
      exact ⟨nn, h.2.1, fun a ha b hb e => dj a ha (by rw [e]; exact dr b hb)⟩
    · rcases List.mem_append.mp hb with z | z
      · exact dj b z (by rw [← e]; exact dl a ha)
      · exact h.2.2 a ha b z e
  fa := fun a h => by
    rcases List.mem_append.mp h with z | z
    · rcases List.mem_append.mp z with z | z
      · exact f.fa a (s.subset (List.mem_append_left _ z))
      · exact nf a z
    · exact f.fa a (s.subset (List.mem_append_right _ z))
  ma := fun a h => by
    rcases List.mem_append.mp h with z | z
    · rcases List.mem_append.mp z with z | z
      · exact f.ma a (s.subset (List.mem_append_left _ z))
      · exact nm a z
    · exact f.ma a (s.subset (List.mem_append_right _ z))
end
/-- what is wanted where an exception of the class c leaves -/
abbrev _root_.L2.Cx.G (X : Cx) : Ctx := ⟨X.K, X.mg⟩
def Er (G : Ctx) (W : WX) (c : Str) (σ : St) (H : Hp) : Prop := ∀ a, G.mg c = some (.ref a) → W (.ref a) none σ H
/-! the semantics' own readings -/
def wE (X : Cx) (e : Expr) : TE := fun σ H Q => ∀ pins s, Inv X pins σ H s → wpAny (model X.prog X.w) X.A (eval e X.env) (EP X pins σ Q) X.xe s
def wT (X : Cx) (e : Expr) : TT := fun σ H Q => ∀ pins s, Inv X pins σ H s → wpAny (model X.prog X.w) X.A (isTrue e X.env (eval e X.env)) (TP X pins σ Q) X.xe s
def wW (X : Cx) (e : Expr) : TT := fun σ H Q => ∀ whole pins s, Inv X pins σ H s → wpAny (model X.prog X.w) X.A (isTrue e X.env whole) (TP X pins σ Q) X.xe s
def wA (X : Cx) (es : List Expr) : TA := fun σ H Q => ∀ pos pins s, Inv X pins σ H s → wpAny (model X.prog X.w) X.A (spliced (backTo pos (starEach es X.env))) (AP X pins σ Q) X.xe s
def wS (X : Cx) (st : Stmt) : TS := fun D σ H => ∀ pins s, Inv X pins σ H s → wpAny (model X.prog X.w) X.A (exec st X.env) (SP X pins D) X.xe s
def wSs (X : Cx) (st : List Stmt) : TS := fun D σ H => ∀ pins s, Inv X pins σ H s → wpAny (model X.prog X.w) X.A (execs st X.env) (SP X pins D) X.xe s
def wI (X : Cx) (tg e : Expr) : TI := fun σ H R => ∀ pins s, Inv X pins σ H s → wpAny (model X.prog X.w) X.A (eval e X.env) (fun v s1 => wpAny (model X.prog X.w) X.A (pyIter v) (PIE X pins σ tg R) X.xe s1) X.xe s
def wG (X : Cx) (tg : Expr) : TG := fun v σ H Q => ∀ pins s u, Inv X pins σ H s → RelV v u → wpAny (model X.prog X.w) X.A (assign tg X.env u) (fun _ s' => ∃ σ' H', Inv X pins σ' H' s' ∧ Q σ' H') X.xe s
section
variable (X : Cx) (e tg : Expr) (es : List Expr) (st : Stmt) (ss : List Stmt)
theorem pe_w : PE X e (wE X e) := ⟨fun pins s σ H Q I h => h pins s I⟩
theorem pt_w : PT X e (wT X e) := ⟨fun pins s σ H Q I h => h pins s I⟩
theorem pw_w : PW X e (wW X e) := ⟨fun whole pins s σ H Q I h => h whole pins s I⟩
theorem pa_w : PA X es (wA X es) := ⟨fun pos pins s σ H Q I h => h pos pins s I⟩
theorem ps_w : PS X st (wS X st) := ⟨fun pins s σ H Q I h => h pins s I⟩
theorem pss_w : PSs X ss (wSs X ss) := ⟨fun pins s σ H Q I h => h pins s I⟩
theorem pi_w : PI X tg e (wI X tg e) := ⟨fun pins s σ H Q I h => h pins s I⟩
theorem pg_w : PG X tg (wG X tg) := ⟨fun pins s σ H v u Q I r h => h pins s u I r⟩
end
/-- a judgement: whatever is asked of the outcome holds behind it -/
structure JQ {Y : Type} (X : Cx) (Γ : List Sl) (w : St → Hp → Y → Prop) (Pre : Hp → Hp → Hp → Hp → St → Y → Prop) : Prop where
  run : ∀ F M0 M H σ Q, S X.G F M0 M H σ Γ → Pre F M0 M H σ Q → w σ H Q
instance {Y : Type} {X : Cx} {Γ : List Sl} {w : St → Hp → Y → Prop} {Pre : Hp → Hp → Hp → Hp → St → Y → Prop} : CoeFun (JQ X Γ w Pre) (fun _ => ∀ F M0 M H σ Q, S X.G F M0 M H σ Γ → Pre F M0 M H σ Q → w σ H Q) := ⟨fun h => h.run⟩
section
variable {X : Cx} {Γ : List Sl} {e tg : Expr} {es : List Expr} {st : Stmt} {ss : List Stmt}
theorem dmk {Pre : Hp → Hp → Hp → Hp → St → VK → Prop} (h : ∃ te, PE X e te ∧ ∀ F M0 M H σ Q, S X.G F M0 M H σ Γ → Pre F M0 M H σ Q → te σ H Q) : JQ X Γ (wE X e) Pre := ⟨fun F M0 M H σ Q s p pins sh I => by
  obtain ⟨te, pe, q⟩ := h
  exact pe.run pins sh σ H Q I (q F M0 M H σ Q s p)⟩
theorem tmk {Pre : Hp → Hp → Hp → Hp → St → (Bool → Hp → Prop) → Prop} (h : ∃ te, PT X e te ∧ ∀ F M0 M H σ Q, S X.G F M0 M H σ Γ → Pre F M0 M H σ Q → te σ H Q) : JQ X Γ (wT X e) Pre := ⟨fun F M0 M H σ Q s p pins sh I => by
  obtain ⟨te, pe, q⟩ := h
  exact pe.run pins sh σ H Q I (q F M0 M H σ Q s p)⟩
theorem wmk {Pre : Hp → Hp → Hp → Hp → St → (Bool → Hp → Prop) → Prop} (h : ∃ te, PW X e te ∧ ∀ F M0 M H σ Q, S X.G F M0 M H σ Γ → Pre F M0 M H σ Q → te σ H Q) : JQ X Γ (wW X e) Pre := ⟨fun F M0 M H σ Q s p wh pins sh I => by
  obtain ⟨te, pe, q⟩ := h
  exact pe.run wh pins sh σ H Q I (q F M0 M H σ Q s p)⟩
theorem amk {Pre : Hp → Hp → Hp → Hp → St → (List V → Hp → Prop) → Prop} (h : ∃ te, PA X es te ∧ ∀ F M0 M H σ Q, S X.G F M0 M H σ Γ → Pre F M0 M H σ Q → te σ H Q) : JQ X Γ (wA X es) Pre := ⟨fun F M0 M H σ Q s p pos pins sh I => by
  obtain ⟨te, pe, q⟩ := h
  exact pe.run pos pins sh σ H Q I (q F M0 M H σ Q s p)⟩
theorem smk {Pre : Hp → Hp → Hp → Hp → St → Ends → Prop} (h : ∃ te, PS X st te ∧ ∀ F M0 M H σ Q, S X.G F M0 M H σ Γ → Pre F M0 M H σ Q → te Q σ H) : JQ X Γ (fun σ H Q => wS X st Q σ H) Pre := ⟨fun F M0 M H σ Q s p pins sh I => by
  obtain ⟨te, pe, q⟩ := h
  exact pe.run pins sh σ H Q I (q F M0 M H σ Q s p)⟩
theorem bmk {Pre : Hp → Hp → Hp → Hp → St → Ends → Prop} (h : ∃ te, PSs X ss te ∧ ∀ F M0 M H σ Q, S X.G F M0 M H σ Γ → Pre F M0 M H σ Q → te Q σ H) : JQ X Γ (fun σ H Q => wSs X ss Q σ H) Pre := ⟨fun F M0 M H σ Q s p pins sh I => by
  obtain ⟨te, pe, q⟩ := h
  exact pe.run pins sh σ H Q I (q F M0 M H σ Q s p)⟩
end
/-- an expression whose value is shared data -/
abbrev DD (X : Cx) (W : WX) (Γ : List Sl) (e : Expr) {α : Type} (emb : α → D) (m : R α) : Prop :=
  JQ X Γ (wE X e) fun F M0 M H σ Q => Po m (fun x => ∀ v M' H', Gr M H M' H' → Rep X.G M' (emb x) v → Q v H') (fun c => ∀ M' H', Gr M H M' H' → Er X.G W c σ H')
/-- .. a new tree -/
abbrev DF (X : Cx) (W : WX) (Γ : List Sl) (e : Expr) {α : Type} (emb : α → T) (m : R α) : Prop :=
  JQ X Γ (wE X e) fun F M0 M H σ Q => Po m (fun x => ∀ v M' H' as, Gr M H M' H' → Own X.G M' H' (emb x) v as → as.Nodup → (∀ a ∈ as, H a = none ∧ M' a = none) → Q v H') (fun c => ∀ M' H', Gr M H M' H' → Er X.G W c σ H')
/-- .. a tree that is only looked at -/
abbrev DB (X : Cx) (W : WX) (Γ : List Sl) (e : Expr) {α : Type} (emb : α → T) (m : R α) : Prop :=
  JQ X Γ (wE X e) fun F M0 M H σ Q => Po m (fun x => ∀ v M' H' as, Gr M H M' H' → Own X.G M' H' (emb x) v as → Q v H') (fun c => ∀ M' H', Gr M H M' H' → Er X.G W c σ H')
/-- a test -/
abbrev DT (X : Cx) (W : WX) (Γ : List Sl) (e : Expr) (m : R Bool) : Prop :=
  JQ X Γ (wT X e) fun F M0 M H σ Q => Po m (fun x => ∀ M' H', Gr M H M' H' → Q x H') (fun c => ∀ M' H', Gr M H M' H' → Er X.G W c σ H')
abbrev DW (X : Cx) (W : WX) (Γ : List Sl) (e : Expr) (m : R Bool) : Prop :=
  JQ X Γ (wW X e) fun F M0 M H σ Q => Po m (fun x => ∀ M' H', Gr M H M' H' → Q x H') (fun c => ∀ M' H', Gr M H M' H' → Er X.G W c σ H')
/-- arguments -/
abbrev DA (X : Cx) (W : WX) (Γ : List Sl) (es : List Expr) {α : Type} (emb : α → List D) (m : R α) : Prop :=
  JQ X Γ (wA X es) fun F M0 M H σ Q => Po m (fun x => ∀ vs M' H', Gr M H M' H' → Reps X.G M' (emb x) vs → Q vs H') (fun c => ∀ M' H', Gr M H M' H' → Er X.G W c σ H')
/-- Γe knows no more than Γ -/
def Wk : List Sl → List Sl → Prop
  | [], [] => True
  | .un :: Γe, _ :: Γ => Wk Γe Γ
  | .ow t :: Γe, .ow t' :: Γ => t = t' ∧ Wk Γe Γ
  | .pn v t :: Γe, .pn v' t' :: Γ => v = v' ∧ t = t' ∧ Wk Γe Γ
  | .ow t :: Γe, .pn _ t' :: Γ => t = t' ∧ Wk Γe Γ
  | .lk t :: Γe, .lk t' :: Γ => t = t' ∧ Wk Γe Γ
  | _, _ => False
theorem Sat.wk {G : Ctx} {F M H : Hp} : ∀ {Γe Γ : List Sl} {σ : St} {as : List Addr}, Wk Γe Γ → Sat G F M H Γ σ as → ∃ bs, Sat G F M H Γe σ bs ∧ bs.Sublist as
  | [], [], σ, as, _, h => ⟨as, h, .refl _⟩
  | .un :: Γe, .un :: Γ, σ, as, w, ⟨x, r, h1, h2⟩ => by
    obtain ⟨bs, s, sub⟩ := Sat.wk (Γe := Γe) w h2
    exact ⟨bs, ⟨x, r, h1, s⟩, sub⟩
  | .un :: Γe, .ow t :: Γ, σ, as, w, ⟨v, r, a1, a2, h1, h2, h3, h4⟩ => by
    obtain ⟨bs, s, sub⟩ := Sat.wk (Γe := Γe) w h4
    exact ⟨bs, ⟨some v, r, h1, s⟩, by rw [h2]; exact sub.trans (List.sublist_append_right _ _)⟩
  | .un :: Γe, .lk t :: Γ, σ, as, w, ⟨v, r, a0, h1, h2, h3⟩ => by
    obtain ⟨bs, s, sub⟩ := Sat.wk (Γe := Γe) w h3
    exact ⟨bs, ⟨some v, r, h1, s⟩, sub⟩
  | .lk t :: Γe, .lk t' :: Γ, σ, as, ⟨e, w⟩, ⟨v, r, a0, h1, h2, h3⟩ => by
    obtain ⟨bs, s, sub⟩ := Sat.wk (Γe := Γe) w h3
    exact ⟨bs, ⟨v, r, a0, h1, by rw [e]; exact h2, s⟩, sub⟩
  | .un :: Γe, .pn v t :: Γ, σ, as, w, ⟨r, a1, a2, h1, h2, h3, h4⟩ => by
    obtain ⟨bs, s, sub⟩ := Sat.wk (Γe := Γe) w h4
    exact ⟨bs, ⟨some v, r, h1, s⟩, by rw [h2]; exact sub.trans (List.sublist_append_right _ _)⟩
  | .ow t :: Γe, .ow t' :: Γ, σ, as, ⟨e, w⟩, ⟨v, r, a1, a2, h1, h2, h3, h4⟩ => by
    obtain ⟨bs, s, sub⟩ := Sat.wk (Γe := Γe) w h4
    exact ⟨a1 ++ bs, ⟨v, r, a1, bs, h1, rfl, by rw [e]; exact h3, s⟩, by rw [h2]; exact List.Sublist.append_left sub a1⟩
  | .ow t :: Γe, .pn v t' :: Γ, σ, as, ⟨e, w⟩, ⟨r, a1, a2, h1, h2, h3, h4⟩ => by
    obtain ⟨bs, s, sub⟩ := Sat.wk (Γe := Γe) w h4
    exact ⟨a1 ++ bs, ⟨v, r, a1, bs, h1, rfl, by rw [e]; exact h3, s⟩, by rw [h2]; exact List.Sublist.append_left sub a1⟩
  | .pn v t :: Γe, .pn v' t' :: Γ, σ, as, ⟨e0, e, w⟩, ⟨r, a1, a2, h1, h2, h3, h4⟩ => by
    obtain ⟨bs, s, sub⟩ := Sat.wk (Γe := Γe) w h4
    exact ⟨a1 ++ bs, ⟨r, a1, bs, by rw [e0]; exact h1, rfl, by rw [e, e0]; exact h3, s⟩, by rw [h2]; exact List.Sublist.append_left sub a1⟩
theorem S.wk {G : Ctx} {F M0 M H : Hp} {σ : St} {Γe Γ : List Sl} (w : Wk Γe Γ) (h : S G F M0 M H σ Γ) : S G F M0 M H σ Γe := by
  obtain ⟨as, f, s⟩ := h
  obtain ⟨bs, s', sub⟩ := Sat.wk w s
  exact ⟨bs, f.sub sub, s'⟩
end Cn
/-! Cn2: expressions -/
namespace Cn
open PySem PySem.Spec L2
def isStar : Expr → Bool
  | .Starred _ _ => true
  | _ => false
theorem star_cons {e : Expr} {es : List Expr} {env : Env} (h : isStar e = false) : starEach (e :: es) env = (false, eval e env) :: starEach es env := by
  cases e with
  | Starred _ _ => cases h
  | _ => rfl
theorem star_one {e : Expr} {env : Env} (h : isStar e = false) : starEach [e] env = [(false, eval e env)] := star_cons h
def noStar : List Expr → Bool
  | [] => true
  | e :: es => !isStar e && noStar es
theorem star_none {pos : Pos} {es : List Expr} {env : Env} (h : noStar es = true) : (backTo pos (starEach es env)).any (·.1) = false := by
  induction es with
  | nil => rfl
  | cons e es ih =>
    have h : (!isStar e && noStar es) = true := h
    rw [Bool.and_eq_true] at h
    rw [star_cons (by cases z : isStar e with
      | true => rw [z] at h; cases h.1
      | false => rfl)]
    exact ih h.2
section
variable {X : Cx} {W : WX} {Γ : List Sl} {a b e : Expr} {es : List Expr} {α β γ : Type} {pos : Pos}
/-! ### from one kind to another -/
theorem db_of_dd {emb : α → D} {m : R α} (h : DD X W Γ e emb m) : DB X W Γ e (fun x => .imm (emb x)) m := by
  have p := pe_w X e; have q := h
  exact dmk ⟨_, p, fun F M0 M H σ Q s po => q F M0 M H σ Q s (po.imp (fun x _ k v M' H' g r => k v M' H' [] g ⟨rfl, r⟩) fun _ z => z)⟩
theorem df_of_dd {emb : α → D} {m : R α} (h : DD X W Γ e emb m) : DF X W Γ e (fun x => .imm (emb x)) m := by
  have p := pe_w X e; have q := h
  exact dmk ⟨_, p, fun F M0 M H σ Q s po => q F M0 M H σ Q s (po.imp (fun x _ k v M' H' g r => k v M' H' [] g ⟨rfl, r⟩ List.nodup_nil (fun _ z => nomatch z)) fun _ z => z)⟩
theorem db_of_df {emb : α → T} {m : R α} (h : DF X W Γ e emb m) : DB X W Γ e emb m := by
  have p := pe_w X e; have q := h
  exact dmk ⟨_, p, fun F M0 M H σ Q s po => q F M0 M H σ Q s (po.imp (fun x _ k v M' H' as g o _ _ => k v M' H' as g o) fun _ z => z)⟩
/-- fresh addresses are given away -/
theorem gr_freeze {M H M1 H1 : Hp} {as : List Addr} (g : Gr M H M1 H1) (th : ∀ a ∈ as, H1 a ≠ none) (fr : ∀ a ∈ as, H a = none ∧ M1 a = none) :
    ∃ M2, Gr M H M2 H1 ∧ Same M1 M2 ∧ ∀ a ∈ as, ∀ o, H1 a = some o → M2 a = some o := by
  refine ⟨fun a => if a ∈ as then H1 a else M1 a, ⟨g.hh, fun b o e => ?_, fun b o e => ?_, fun b z => ?_⟩, fun b o e => ?_, fun b hb o e => ?_⟩
  · show (if b ∈ as then H1 b else M1 b) = some o
    by_cases hb : b ∈ as
    · have := (fr b hb).2
      rw [g.mm b o e] at this; cases this
    · rw [if_neg hb]; exact g.mm b o e
  · have e' : (if b ∈ as then H1 b else M1 b) = some o := e
    by_cases hb : b ∈ as
    · rw [if_pos hb] at e'; exact e'
    · rw [if_neg hb] at e'; exact g.mh b o e'
  · have z' : (if b ∈ as then H1 b else M1 b) ≠ none := z
    by_cases hb : b ∈ as
    · exact .inr (fr b hb).1
    · rw [if_neg hb] at z'; exact g.nw b z'
  · show (if b ∈ as then H1 b else M1 b) = some o
    by_cases hb : b ∈ as
    · have := (fr b hb).2
      rw [e] at this; cases this
    · rw [if_neg hb]; exact e
  · show (if b ∈ as then H1 b else M1 b) = some o
    rw [if_pos hb]; exact e
theorem dd_of_df {emb : α → T} {emb' : α → D} {m : R α} (h : DF X W Γ e emb m) (he : ∀ x, fz (emb x) = emb' x) : DD X W Γ e emb' m := by
  have p := pe_w X e; have q := h
  refine dmk ⟨_, p, fun F M0 M H σ Q s po => q F M0 M H σ Q s (po.imp (fun x _ k v M' H' as g o nd fr => ?_) fun _ z => z)⟩
  obtain ⟨M2, g2, s2, k2⟩ := gr_freeze g (Own.there _ _ _ o) fr
  refine k v M2 H' g2 ?_
  rw [← he]
  exact Own.freeze s2 _ _ _ k2 o
theorem dd_imm {emb : α → D} {m : R α} (h : DF X W Γ e (fun x => .imm (emb x)) m) : DD X W Γ e emb m := dd_of_df h fun _ => rfl
theorem fz_list {ε : α → D} (xs : List α) : fz (.lst (xs.map fun x => .imm (ε x))) = .lst (xs.map ε) := by
  show D.lst (fzs _) = _
  rw [fzs_map]
  rfl
theorem dd_list {ε : β → D} {m : R (List β)} (h : DF X W Γ e (fun xs => .lst (xs.map fun x => .imm (ε x))) m) : DD X W Γ e (fun xs => .lst (xs.map ε)) m := dd_of_df h fun xs => fz_list xs
/-! ### names and constants -/
theorem dd_var {emb : α → D} {x : α} {n : Str} (i : Nat) (h : Γ[i]? = some (.ow (.imm (emb x)))) (hN : X.N[i]? = some n := by rfl) (hv : Vis X.env.scope n := by first | exact Or.inl rfl | exact Or.inr (Or.inl rfl) | exact Or.inr (Or.inr rfl))
    (hd : (n == ("__debug__" : Str)) = false := by decide) (hcd : (n == ("__classdict__" : Str)) = false := by decide) : DD X W Γ (.Name n pos) emb (.ok x) := dmk
  ⟨_, pe_var hN hv hd hcd, fun F M0 M H σ Q s po => by
    obtain ⟨as, f, sa⟩ := s
    obtain ⟨v, a, h1, h2, h3⟩ := Sat.get sa h
    exact ⟨v, h1, po v M H (.refl f.mh) h2.2⟩⟩
theorem db_var {emb : α → T} {x : α} {n : Str} (i : Nat) (h : Γ[i]? = some (.ow (emb x))) (hN : X.N[i]? = some n := by rfl) (hv : Vis X.env.scope n := by first | exact Or.inl rfl | exact Or.inr (Or.inl rfl) | exact Or.inr (Or.inr rfl))
    (hd : (n == ("__debug__" : Str)) = false := by decide) (hcd : (n == ("__classdict__" : Str)) = false := by decide) : DB X W Γ (.Name n pos) emb (.ok x) := dmk
  ⟨_, pe_var hN hv hd hcd, fun F M0 M H σ Q s po => by
    obtain ⟨as, f, sa⟩ := s
    obtain ⟨v, a, h1, h2, h3⟩ := Sat.get sa h
    exact ⟨v, h1, po v M H a (.refl f.mh) h2⟩⟩
theorem dd_c {v : V} {d : α → D} {x : α} (p : PE X e (tC v)) (r : ∀ M, Rep X.G M (d x) v) : DD X W Γ e d (.ok x) := dmk
  ⟨_, p, fun F M0 M H σ Q s po => po v M H (.refl s.mh) (r M)⟩
theorem dd_int {i : Int} {j} : DD X W Γ (.Constant (.int i) j pos) D.int (.ok i) := dd_c pe_int fun _ => rfl
theorem dd_bl {i : Bool} {j} : DD X W Γ (.Constant (.bool i) j pos) D.bl (.ok i) := dd_c pe_bl fun _ => rfl
theorem dd_str {i : Str} {j} : DD X W Γ (.Constant (.str i) j pos) D.str (.ok i) := dd_c pe_str fun _ => rfl
theorem dd_non {j} : DD X W Γ (.Constant .none j pos) (fun _ : Unit => D.non) (.ok ()) := dd_c pe_non fun _ => rfl
theorem dd_gint {i : Int} {t : Tok} {n : Str} (hm : X.mg n = some (.int i t)) (hg : Gl X n := by rfl) (hd : (n == ("__debug__" : Str)) = false := by decide) : DD X W Γ (.Name n pos) D.int (.ok i) := dd_c (pe_glob (v := .int i) hg hm ⟨t, rfl⟩ hd) fun _ => rfl
/-! ### two operands -/
def ofO {γ : Type} : Option γ → R γ
  | none => .bad
  | some z => .ok z
theorem Po.ofO {γ : Type} {o : Option γ} {Q : γ → Prop} {E : Str → Prop} (h : Po (ofO o) Q E) : ∃ z, o = some z ∧ Q z := by
  cases o with
  | none => exact h.elim
  | some z => exact ⟨z, rfl, h⟩
/-- what is wanted of a value that stands for z: for shared data, for a new tree -/
abbrev WD (G : Ctx) (M H : Hp) (d : D) (Q : VK) : Prop := ∀ v M' H', Gr M H M' H' → Rep G M' d v → Q v H'
abbrev WF (G : Ctx) (M H : Hp) (t : T) (Q : VK) : Prop := ∀ v M' H' as, Gr M H M' H' → Own G M' H' t v as → as.Nodup → (∀ a ∈ as, H a = none ∧ M' a = none) → Q v H'
/-- what an operator's rule makes of data -/
def Op2 (G : Ctx) (r : R2) (ea : α → D) (eb : β → D) (er : γ → D) (f : α → β → Option γ) : Prop :=
  ∀ x y z (M H : Hp) v w (Q : VK), Same M H → Rep G M (ea x) v → Rep G M (eb y) w → f x y = some z → WD G M H (er z) Q → r v w H Q
/-- .. of trees that are looked at; a new tree -/
def Op2F (G : Ctx) (r : R2) (ea : α → T) (eb : β → T) (er : γ → T) (f : α → β → Option γ) : Prop :=
  ∀ x y z (M H : Hp) v w as bs (Q : VK), Same M H → Own G M H (ea x) v as → Own G M H (eb y) w bs → f x y = some z → WF G M H (er z) Q → r v w H Q
def Op2B (G : Ctx) (r : R2) (ea : α → T) (eb : β → T) (er : γ → D) (f : α → β → Option γ) : Prop :=
  ∀ x y z (M H : Hp) v w as bs (Q : VK), Same M H → Own G M H (ea x) v as → Own G M H (eb y) w bs → f x y = some z → WD G M H (er z) Q → r v w H Q
theorem two_dd {ta tb : TE} {r : R2} {ea : α → D} {eb : β → D} {er : γ → D} {f : α → β → Option γ} {ma : R α} {mb : R β} (hr : Op2 X.G r ea eb er f) {F M0 M H : Hp} {σ : St} {Q : VK}
    (qa : ∀ F M0 M H σ Q, S X.G F M0 M H σ Γ → Po ma (fun x => WD X.G M H (ea x) Q) (fun c => ∀ M' H', Gr M H M' H' → Er X.G W c σ H') → ta σ H Q)
    (qb : ∀ F M0 M H σ Q, S X.G F M0 M H σ Γ → Po mb (fun x => WD X.G M H (eb x) Q) (fun c => ∀ M' H', Gr M H M' H' → Er X.G W c σ H') → tb σ H Q)
    (s : S X.G F M0 M H σ Γ) (po : Po (ma >>= fun x => mb >>= fun y => ofO (f x y)) (fun x => WD X.G M H (er x) Q) (fun c => ∀ M' H', Gr M H M' H' → Er X.G W c σ H')) :
    tOp r ta tb σ H Q := by
  refine qa F M0 M H σ _ s (po.bind.imp (fun x _ k v M1 H1 g1 r1 => ?_) fun _ z => z)
  refine qb F M0 M1 H1 σ _ (s.grow g1) (k.bind.imp (fun y _ k w M2 H2 g2 r2 => ?_) fun c z M' H' g => z M' H' (g1.trans g))
  obtain ⟨z, e, k⟩ := k.ofO
  exact hr x y z M2 H2 v w Q g2.mh (Rep.mono g2.mm _ _ r1) r2 e fun v' M' H' g q => k v' M' H' ((g1.trans g2).trans g) q
theorem two_db {ta tb : TE} {r : R2} {ea : α → T} {eb : β → T} {er : γ → D} {f : α → β → Option γ} {ma : R α} {mb : R β} (hr : Op2B X.G r ea eb er f) {F M0 M H : Hp} {σ : St} {Q : VK}
    (qa : ∀ F M0 M H σ Q, S X.G F M0 M H σ Γ → Po ma (fun x => ∀ v M' H' as, Gr M H M' H' → Own X.G M' H' (ea x) v as → Q v H') (fun c => ∀ M' H', Gr M H M' H' → Er X.G W c σ H') → ta σ H Q)
    (qb : ∀ F M0 M H σ Q, S X.G F M0 M H σ Γ → Po mb (fun x => ∀ v M' H' as, Gr M H M' H' → Own X.G M' H' (eb x) v as → Q v H') (fun c => ∀ M' H', Gr M H M' H' → Er X.G W c σ H') → tb σ H Q)
    (s : S X.G F M0 M H σ Γ) (po : Po (ma >>= fun x => mb >>= fun y => ofO (f x y)) (fun x => WD X.G M H (er x) Q) (fun c => ∀ M' H', Gr M H M' H' → Er X.G W c σ H')) :
    tOp r ta tb σ H Q := by
  refine qa F M0 M H σ _ s (po.bind.imp (fun x _ k v M1 H1 as g1 r1 => ?_) fun _ z => z)
  refine qb F M0 M1 H1 σ _ (s.grow g1) (k.bind.imp (fun y _ k w M2 H2 bs g2 r2 => ?_) fun c z M' H' g => z M' H' (g1.trans g))
  obtain ⟨z, e, k⟩ := k.ofO
  exact hr x y z M2 H2 v w as bs Q g2.mh (Own.keep g2.mm _ _ _ (fun a _ o q => g2.hh a o q) r1) r2 e fun v' M' H' g q => k v' M' H' ((g1.trans g2).trans g) q
theorem two_df {ta tb : TE} {r : R2} {ea : α → T} {eb : β → T} {er : γ → T} {f : α → β → Option γ} {ma : R α} {mb : R β} (hr : Op2F X.G r ea eb er f) {F M0 M H : Hp} {σ : St} {Q : VK}
    (qa : ∀ F M0 M H σ Q, S X.G F M0 M H σ Γ → Po ma (fun x => ∀ v M' H' as, Gr M H M' H' → Own X.G M' H' (ea x) v as → Q v H') (fun c => ∀ M' H', Gr M H M' H' → Er X.G W c σ H') → ta σ H Q)
    (qb : ∀ F M0 M H σ Q, S X.G F M0 M H σ Γ → Po mb (fun x => ∀ v M' H' as, Gr M H M' H' → Own X.G M' H' (eb x) v as → Q v H') (fun c => ∀ M' H', Gr M H M' H' → Er X.G W c σ H') → tb σ H Q)
    (s : S X.G F M0 M H σ Γ) (po : Po (ma >>= fun x => mb >>= fun y => ofO (f x y)) (fun x => WF X.G M H (er x) Q) (fun c => ∀ M' H', Gr M H M' H' → Er X.G W c σ H')) :
    tOp r ta tb σ H Q := by
  refine qa F M0 M H σ _ s (po.bind.imp (fun x _ k v M1 H1 as g1 r1 => ?_) fun _ z => z)
  refine qb F M0 M1 H1 σ _ (s.grow g1) (k.bind.imp (fun y _ k w M2 H2 bs g2 r2 => ?_) fun c z M' H' g => z M' H' (g1.trans g))
  obtain ⟨z, e, k⟩ := k.ofO
  exact hr x y z M2 H2 v w as bs Q g2.mh (Own.keep g2.mm _ _ _ (fun a _ o q => g2.hh a o q) r1) r2 e fun v' M' H' cs g q nd fr => k v' M' H' cs ((g1.trans g2).trans g) q nd fun a ha => ⟨(g1.hh.trans g2.hh).free (fr a ha).1, (fr a ha).2⟩
section
variable {r : R2} {op : Operator} {cop : CmpOp}
theorem dd_op {ea : α → D} {eb : β → D} {er : γ → D} {f : α → β → Option γ} {ma : R α} {mb : R β} (hr : Op2 X.G r ea eb er f) (ho : OpR X (binaryOp op) r) (ha : DD X W Γ a ea ma) (hb : DD X W Γ b eb mb) :
    DD X W Γ (.BinOp a op b pos) er (ma >>= fun x => mb >>= fun y => ofO (f x y)) := by
  have pa := pe_w X a; have qa := ha
  have pb := pe_w X b; have qb := hb
  exact dmk ⟨_, pe_op ho pa pb, fun F M0 M H σ Q s po => two_dd hr qa qb s po⟩
theorem df_op {ea : α → T} {eb : β → T} {er : γ → T} {f : α → β → Option γ} {ma : R α} {mb : R β} (hr : Op2F X.G r ea eb er f) (ho : OpR X (binaryOp op) r) (ha : DB X W Γ a ea ma) (hb : DB X W Γ b eb mb) :
    DF X W Γ (.BinOp a op b pos) er (ma >>= fun x => mb >>= fun y => ofO (f x y)) := by
  have pa := pe_w X a; have qa := ha
  have pb := pe_w X b; have qb := hb
  exact dmk ⟨_, pe_op ho pa pb, fun F M0 M H σ Q s po => two_df hr qa qb s po⟩
theorem dd_cmp {ea : α → D} {eb : β → D} {f : α → β → Option Bool} {ma : R α} {mb : R β} (hr : Op2 X.G r ea eb D.bl f) (ho : OpR X (compareOp cop) r) (hm : behindInMarks cop b = false) (ha : DD X W Γ a ea ma) (hb : DD X W Γ b eb mb) :
    DD X W Γ (.Compare a [cop] [b] pos) D.bl (ma >>= fun x => mb >>= fun y => ofO (f x y)) := by
  have pa := pe_w X a; have qa := ha
  have pb := pe_w X b; have qb := hb
  exact dmk ⟨_, pe_cmpR ho pa pb hm, fun F M0 M H σ Q s po => two_dd hr qa qb s po⟩
theorem dt_cmp {ea : α → D} {eb : β → D} {f : α → β → Option Bool} {ma : R α} {mb : R β} (hr : Op2 X.G r ea eb D.bl f) (ho : OpR X (compareOp cop) r) (hm : behindInMarks cop b = false) (ha : DD X W Γ a ea ma) (hb : DD X W Γ b eb mb) :
    DT X W Γ (.Compare a [cop] [b] pos) (ma >>= fun x => mb >>= fun y => ofO (f x y)) := by
  have pa := pe_w X a; have qa := ha
  have pb := pe_w X b; have qb := hb
  exact tmk ⟨_, pt_cmpR ho pa pb hm, fun F M0 M H σ Q s po => two_dd hr qa qb s (po.imp (fun x _ k v M' H' g q => ⟨x, q, k M' H' g⟩) fun _ z => z)⟩
theorem db_cmp {ea : α → T} {eb : β → T} {f : α → β → Option Bool} {ma : R α} {mb : R β} (hr : Op2B X.G r ea eb D.bl f) (ho : OpR X (compareOp cop) r) (hm : behindInMarks cop b = false) (ha : DB X W Γ a ea ma) (hb : DB X W Γ b eb mb) :
    DD X W Γ (.Compare a [cop] [b] pos) D.bl (ma >>= fun x => mb >>= fun y => ofO (f x y)) := by
  have pa := pe_w X a; have qa := ha
  have pb := pe_w X b; have qb := hb
  exact dmk ⟨_, pe_cmpR ho pa pb hm, fun F M0 M H σ Q s po => two_db hr qa qb s po⟩
theorem dt_cmpB {ea : α → T} {eb : β → T} {f : α → β → Option Bool} {ma : R α} {mb : R β} (hr : Op2B X.G r ea eb D.bl f) (ho : OpR X (compareOp cop) r) (hm : behindInMarks cop b = false) (ha : DB X W Γ a ea ma) (hb : DB X W Γ b eb mb) :
    DT X W Γ (.Compare a [cop] [b] pos) (ma >>= fun x => mb >>= fun y => ofO (f x y)) := by
  have pa := pe_w X a; have qa := ha
  have pb := pe_w X b; have qb := hb
  exact tmk ⟨_, pt_cmpR ho pa pb hm, fun F M0 M H σ Q s po => two_db hr qa qb s (po.imp (fun x _ k v M' H' g q => ⟨x, q, k M' H' g⟩) fun _ z => z)⟩
end
/-! ### ints -/
theorem o2_I0 {G : Ctx} {g : Int → Int → Int} : Op2 G (rI0 fun i j => .int (g i j)) D.int D.int D.int fun i j => some (g i j) := fun x y z M H v w Q mh hv hw e k =>
  ⟨x, y, hv, hw, k _ M H (.refl mh) (by rw [← Option.some.inj e]; rfl)⟩
theorem o2_B0 {G : Ctx} {g : Int → Int → Bool} : Op2 G (rI0 fun i j => .bl (g i j)) D.int D.int D.bl fun i j => some (g i j) := fun x y z M H v w Q mh hv hw e k =>
  ⟨x, y, hv, hw, k _ M H (.refl mh) (by rw [← Option.some.inj e]; rfl)⟩
theorem o2_I {G : Ctx} {C : Int → Int → Prop} {h : ∀ i j, Decidable (C i j)} {g : Int → Int → Int} : Op2 G (rI C fun i j => .int (g i j)) D.int D.int D.int fun i j => @ite _ (C i j) (h i j) (some (g i j)) none := fun x y z M H v w Q mh hv hw e k => by
  have e : (@ite _ (C x y) (h x y) (some (g x y)) none) = some z := e
  by_cases c : C x y
  · rw [if_pos c] at e
    exact ⟨x, y, hv, hw, c, k _ M H (.refl mh) (by rw [← Option.some.inj e]; rfl)⟩
  · rw [if_neg c] at e; cases e
/-- the condition is known of the operand that is written there -/
theorem o2_IP {G : Ctx} {C : Int → Int → Prop} {P : Int → Int → Prop} {g : Int → Int → Int} (h : ∀ i j, P i j → C i j) : ∀ x y z (M H : Hp) v w (Q : VK), Same M H → P x y → Rep G M (D.int x) v → Rep G M (D.int y) w → g x y = z → WD G M H (D.int z) Q → (rI C fun i j => .int (g i j)) v w H Q := fun x y z M H v w Q mh p hv hw e k =>
  ⟨x, y, hv, hw, h _ _ p, k _ M H (.refl mh) (by rw [← e]; rfl)⟩
section
variable {ma mb : R Int}
theorem dd_add (ha : DD X W Γ a D.int ma) (hb : DD X W Γ b D.int mb) : DD X W Γ (.BinOp a .Add b pos) D.int (ma >>= fun x => mb >>= fun y => .ok (x + y)) := dd_op o2_I0 op_add ha hb
theorem dd_sub (ha : DD X W Γ a D.int ma) (hb : DD X W Γ b D.int mb) : DD X W Γ (.BinOp a .Sub b pos) D.int (ma >>= fun x => mb >>= fun y => .ok (x - y)) := dd_op o2_I0 op_sub ha hb
theorem dd_and (ha : DD X W Γ a D.int ma) (hb : DD X W Γ b D.int mb) : DD X W Γ (.BinOp a .BitAnd b pos) D.int (ma >>= fun x => mb >>= fun y => .ok (Builtin.bitAnd x y)) := dd_op o2_I0 op_and ha hb
theorem dd_or (ha : DD X W Γ a D.int ma) (hb : DD X W Γ b D.int mb) : DD X W Γ (.BinOp a .BitOr b pos) D.int (ma >>= fun x => mb >>= fun y => .ok (Builtin.bitOr x y)) := dd_op o2_I0 op_or ha hb
theorem dd_xor (ha : DD X W Γ a D.int ma) (hb : DD X W Γ b D.int mb) : DD X W Γ (.BinOp a .BitXor b pos) D.int (ma >>= fun x => mb >>= fun y => .ok (Builtin.bitXor x y)) := dd_op o2_I0 op_xor ha hb
instance decMul (i j : Int) : Decidable (CMul i j) := by unfold CMul; infer_instance
instance decPow (i j : Int) : Decidable (CPow i j) := by unfold CPow; infer_instance
instance decDiv (i j : Int) : Decidable (CDiv i j) := by unfold CDiv; infer_instance
noncomputable def mulO (i j : Int) : Option Int := @ite _ (CMul i j) (Classical.propDecidable _) (some (i * j)) none
noncomputable def powO (i j : Int) : Option Int := @ite _ (CPow i j) (Classical.propDecidable _) (some (i ^ j.toNat)) none
noncomputable def shlO (i j : Int) : Option Int := @ite _ (CPow i j) (Classical.propDecidable _) (some (i * 2 ^ j.toNat)) none
noncomputable def shrO (i j : Int) : Option Int := @ite _ (0 ≤ j) (Classical.propDecidable _) (some (i / 2 ^ j.toNat)) none
noncomputable def divO (i j : Int) : Option Int := @ite _ (CDiv i j) (Classical.propDecidable _) (some (i / j)) none
noncomputable def modO (i j : Int) : Option Int := @ite _ (0 < j) (Classical.propDecidable _) (some (i % j)) none
theorem dd_mul (ha : DD X W Γ a D.int ma) (hb : DD X W Γ b D.int mb) : DD X W Γ (.BinOp a .Mult b pos) D.int (ma >>= fun x => mb >>= fun y => ofO (mulO x y)) := dd_op o2_I op_mul ha hb
theorem dd_pow (ha : DD X W Γ a D.int ma) (hb : DD X W Γ b D.int mb) : DD X W Γ (.BinOp a .Pow b pos) D.int (ma >>= fun x => mb >>= fun y => ofO (powO x y)) := dd_op o2_I op_pow ha hb
theorem dd_shl (ha : DD X W Γ a D.int ma) (hb : DD X W Γ b D.int mb) : DD X W Γ (.BinOp a .LShift b pos) D.int (ma >>= fun x => mb >>= fun y => ofO (shlO x y)) := dd_op o2_I op_shl ha hb
theorem dd_shr (ha : DD X W Γ a D.int ma) (hb : DD X W Γ b D.int mb) : DD X W Γ (.BinOp a .RShift b pos) D.int (ma >>= fun x => mb >>= fun y => ofO (shrO x y)) := dd_op o2_I op_shr ha hb
theorem dd_div (ha : DD X W Γ a D.int ma) (hb : DD X W Γ b D.int mb) : DD X W Γ (.BinOp a .FloorDiv b pos) D.int (ma >>= fun x => mb >>= fun y => ofO (divO x y)) := dd_op o2_I op_fdiv ha hb
theorem dd_mod (ha : DD X W Γ a D.int ma) (hb : DD X W Γ b D.int mb) : DD X W Γ (.BinOp a .Mod b pos) D.int (ma >>= fun x => mb >>= fun y => ofO (modO x y)) := dd_op o2_I op_mod ha hb
theorem mulO_r {x y : Int} (h : -(2 ^ 64) < y ∧ y < 2 ^ 64) : mulO x y = some (x * y) := if_pos (.inr h)
theorem mulO_l {x y : Int} (h : -(2 ^ 64) < x ∧ x < 2 ^ 64) : mulO x y = some (x * y) := if_pos (.inl h)
theorem divO_c {x y : Int} (h : 0 < y ∧ y < 1073741824) : divO x y = some (x / y) := if_pos h
theorem modO_c {x y : Int} (h : 0 < y) : modO x y = some (x % y) := if_pos h
theorem shrO_c {x y : Int} (h : 0 ≤ y) : shrO x y = some (x / 2 ^ y.toNat) := if_pos h
/-- a written operand on the right | on the left -/
theorem op_right {op : Operator} {f : Int → Int → Option Int} {g : Int → Int → Int} {y : Int} (h : DD X W Γ (.BinOp a op b pos) D.int (ma >>= fun x => (R.ok y) >>= fun y => ofO (f x y))) (e : ∀ x, f x y = some (g x y)) : DD X W Γ (.BinOp a op b pos) D.int (ma >>= fun x => .ok (g x y)) := by
  have z : (ma >>= fun x => (R.ok y) >>= fun y => ofO (f x y)) = (ma >>= fun x => R.ok (g x y)) := by
    congr 1; funext x
    show ofO (f x y) = _
    rw [e]; rfl
  rw [← z]; exact h
theorem dd_mulC {y : Int} (ha : DD X W Γ a D.int ma) (hb : DD X W Γ b D.int (.ok y)) (h : -(2 ^ 64) < y ∧ y < 2 ^ 64) : DD X W Γ (.BinOp a .Mult b pos) D.int (ma >>= fun x => .ok (x * y)) := op_right (g := fun x y => x * y) (dd_mul ha hb) fun _ => mulO_r h
theorem dd_divC {y : Int} (ha : DD X W Γ a D.int ma) (hb : DD X W Γ b D.int (.ok y)) (h : 0 < y ∧ y < 1073741824) : DD X W Γ (.BinOp a .FloorDiv b pos) D.int (ma >>= fun x => .ok (x / y)) := op_right (g := fun x y => x / y) (dd_div ha hb) fun _ => divO_c h
theorem dd_modC {y : Int} (ha : DD X W Γ a D.int ma) (hb : DD X W Γ b D.int (.ok y)) (h : 0 < y) : DD X W Γ (.BinOp a .Mod b pos) D.int (ma >>= fun x => .ok (x % y)) := op_right (g := fun x y => x % y) (dd_mod ha hb) fun _ => modO_c h
theorem dd_shrC {y : Int} (ha : DD X W Γ a D.int ma) (hb : DD X W Γ b D.int (.ok y)) (h : 0 ≤ y) : DD X W Γ (.BinOp a .RShift b pos) D.int (ma >>= fun x => .ok (x / 2 ^ y.toNat)) := op_right (g := fun x y => x / 2 ^ y.toNat) (dd_shr ha hb) fun _ => shrO_c h
theorem dd_powC {x y z : Int} (ha : DD X W Γ a D.int (.ok x)) (hb : DD X W Γ b D.int (.ok y)) (h : powO x y = some z) : DD X W Γ (.BinOp a .Pow b pos) D.int (.ok z) := by
  have q := dd_pow (pos := pos) ha hb
  have e : ((R.ok x) >>= fun x => (R.ok y) >>= fun y => ofO (powO x y)) = R.ok z := by
    show ofO (powO x y) = _
    rw [h]; rfl
  rw [e] at q; exact q
/-! comparisons of ints: f is decide of it -/
variable {cop : CmpOp} {r : R2}
theorem dd_lt (ha : DD X W Γ a D.int ma) (hb : DD X W Γ b D.int mb) : DD X W Γ (.Compare a [.Lt] [b] pos) D.bl (ma >>= fun x => mb >>= fun y => .ok (decide (x < y))) := dd_cmp o2_B0 op_lt (nomark _) ha hb
theorem dd_le (ha : DD X W Γ a D.int ma) (hb : DD X W Γ b D.int mb) : DD X W Γ (.Compare a [.LtE] [b] pos) D.bl (ma >>= fun x => mb >>= fun y => .ok (decide (x ≤ y))) := dd_cmp o2_B0 op_le (nomark _) ha hb
theorem dd_gt (ha : DD X W Γ a D.int ma) (hb : DD X W Γ b D.int mb) : DD X W Γ (.Compare a [.Gt] [b] pos) D.bl (ma >>= fun x => mb >>= fun y => .ok (decide (y < x))) := dd_cmp o2_B0 op_gt (nomark _) ha hb
theorem dd_ge (ha : DD X W Γ a D.int ma) (hb : DD X W Γ b D.int mb) : DD X W Γ (.Compare a [.GtE] [b] pos) D.bl (ma >>= fun x => mb >>= fun y => .ok (decide (y ≤ x))) := dd_cmp o2_B0 op_ge (nomark _) ha hb
theorem dt_lt (ha : DD X W Γ a D.int ma) (hb : DD X W Γ b D.int mb) : DT X W Γ (.Compare a [.Lt] [b] pos) (ma >>= fun x => mb >>= fun y => .ok (decide (x < y))) := dt_cmp o2_B0 op_lt (nomark _) ha hb
theorem dt_le (ha : DD X W Γ a D.int ma) (hb : DD X W Γ b D.int mb) : DT X W Γ (.Compare a [.LtE] [b] pos) (ma >>= fun x => mb >>= fun y => .ok (decide (x ≤ y))) := dt_cmp o2_B0 op_le (nomark _) ha hb
theorem dt_gt (ha : DD X W Γ a D.int ma) (hb : DD X W Γ b D.int mb) : DT X W Γ (.Compare a [.Gt] [b] pos) (ma >>= fun x => mb >>= fun y => .ok (decide (y < x))) := dt_cmp o2_B0 op_gt (nomark _) ha hb
theorem dt_ge (ha : DD X W Γ a D.int ma) (hb : DD X W Γ b D.int mb) : DT X W Γ (.Compare a [.GtE] [b] pos) (ma >>= fun x => mb >>= fun y => .ok (decide (y ≤ x))) := dt_cmp o2_B0 op_ge (nomark _) ha hb
theorem o2_eqI {G : Ctx} : Op2 G rEq D.int D.int D.bl fun i j => some (decide (i = j)) := fun x y z M H v w Q mh hv hw e k => by
  rw [show v = .int x from hv, show w = .int y from hw]
  refine ⟨rfl, k _ M H (.refl mh) ?_⟩
  rw [← Option.some.inj e]
  show V.bl _ = V.bl _
  congr 1
  simp
theorem o2_neI {G : Ctx} : Op2 G rNe D.int D.int D.bl fun i j => some (!decide (i = j)) := fun x y z M H v w Q mh hv hw e k => by
  rw [show v = .int x from hv, show w = .int y from hw]
  refine ⟨rfl, k _ M H (.refl mh) ?_⟩
  rw [← Option.some.inj e]
  show V.bl _ = V.bl _
  congr 1
  simp
theorem o2_eqS {G : Ctx} : Op2 G rEq D.str D.str D.bl fun i j => some (decide (i = j)) := fun x y z M H v w Q mh hv hw e k => by
  rw [show v = .str x from hv, show w = .str y from hw]
  refine ⟨rfl, k _ M H (.refl mh) ?_⟩
  rw [← Option.some.inj e]
  show V.bl _ = V.bl _
  congr 1
  simp
theorem o2_neS {G : Ctx} : Op2 G rNe D.str D.str D.bl fun i j => some (!decide (i = j)) := fun x y z M H v w Q mh hv hw e k => by
  rw [show v = .str x from hv, show w = .str y from hw]
  refine ⟨rfl, k _ M H (.refl mh) ?_⟩
  rw [← Option.some.inj e]
  show V.bl _ = V.bl _
  congr 1
  simp
theorem dd_eqI (ha : DD X W Γ a D.int ma) (hb : DD X W Γ b D.int mb) : DD X W Γ (.Compare a [.Eq] [b] pos) D.bl (ma >>= fun x => mb >>= fun y => .ok (decide (x = y))) := dd_cmp o2_eqI op_eq (nomark _) ha hb
theorem dd_neI (ha : DD X W Γ a D.int ma) (hb : DD X W Γ b D.int mb) : DD X W Γ (.Compare a [.NotEq] [b] pos) D.bl (ma >>= fun x => mb >>= fun y => .ok (!decide (x = y))) := dd_cmp o2_neI op_ne (nomark _) ha hb
theorem dt_eqI (ha : DD X W Γ a D.int ma) (hb : DD X W Γ b D.int mb) : DT X W Γ (.Compare a [.Eq] [b] pos) (ma >>= fun x => mb >>= fun y => .ok (decide (x = y))) := dt_cmp o2_eqI op_eq (nomark _) ha hb
theorem dt_neI (ha : DD X W Γ a D.int ma) (hb : DD X W Γ b D.int mb) : DT X W Γ (.Compare a [.NotEq] [b] pos) (ma >>= fun x => mb >>= fun y => .ok (!decide (x = y))) := dt_cmp o2_neI op_ne (nomark _) ha hb
theorem dd_eqS {ma mb : R Str} (ha : DD X W Γ a D.str ma) (hb : DD X W Γ b D.str mb) : DD X W Γ (.Compare a [.Eq] [b] pos) D.bl (ma >>= fun x => mb >>= fun y => .ok (decide (x = y))) := dd_cmp o2_eqS op_eq (nomark _) ha hb
theorem dd_neS {ma mb : R Str} (ha : DD X W Γ a D.str ma) (hb : DD X W Γ b D.str mb) : DD X W Γ (.Compare a [.NotEq] [b] pos) D.bl (ma >>= fun x => mb >>= fun y => .ok (!decide (x = y))) := dd_cmp o2_neS op_ne (nomark _) ha hb
theorem dt_eqS {ma mb : R Str} (ha : DD X W Γ a D.str ma) (hb : DD X W Γ b D.str mb) : DT X W Γ (.Compare a [.Eq] [b] pos) (ma >>= fun x => mb >>= fun y => .ok (decide (x = y))) := dt_cmp o2_eqS op_eq (nomark _) ha hb
theorem dt_neS {ma mb : R Str} (ha : DD X W Γ a D.str ma) (hb : DD X W Γ b D.str mb) : DT X W Γ (.Compare a [.NotEq] [b] pos) (ma >>= fun x => mb >>= fun y => .ok (!decide (x = y))) := dt_cmp o2_neS op_ne (nomark _) ha hb
/-! ### one operand -/
theorem dd_neg (ha : DD X W Γ a D.int ma) : DD X W Γ (.UnaryOp .USub a pos) D.int (ma >>= fun x => .ok (-x)) := by
  have pa := pe_w X a; have qa := ha
  exact dmk ⟨_, pe_un un_neg pa, fun F M0 M H σ Q s po => qa F M0 M H σ _ s (po.bind.imp (fun x _ k v M1 H1 g1 r1 => ⟨x, r1, k _ M1 H1 g1 rfl⟩) fun _ z => z)⟩
end
/-! ### tests -/
theorem dt_bl {m : R Bool} (h : DD X W Γ e D.bl m) (he : ∀ whole, isTrue e X.env whole = (do let v ← whole; standAt e.pos; holding [v] (truthy v)) := by intro _; rfl) : DT X W Γ e m := by
  have p := pe_w X e; have q := h
  exact tmk ⟨_, pt_val p he, fun F M0 M H σ Q s po => q F M0 M H σ _ s (po.imp (fun x _ k v M' H' g r => ⟨x, r, k M' H' g⟩) fun _ z => z)⟩
/-- how data counts as a test -/
def tru : T → Option Bool
  | .imm .non => some false
  | .imm (.bl b) => some b
  | .imm (.int i) => some (i != 0)
  | .imm (.str s) => if s.length ≤ sizeLine then some ((s.length : Int) != 0) else none
  | .imm (.lst ds) => some !ds.isEmpty
  | .imm (.frl ds) => some !ds.isEmpty
  | .imm (.tup ds) => some !ds.isEmpty
  | .lst ts => some !ts.isEmpty
  | _ => none
theorem empty_of_len {α β : Type} {xs : List α} {ys : List β} (h : xs.length = ys.length) : xs.isEmpty = ys.isEmpty := by
  cases xs <;> cases ys <;> simp_all
theorem tru_of {G : Ctx} {M H : Hp} {t : T} {v : V} {as : List Addr} {k : Bool} (mh : Same M H) (o : Own G M H t v as) (h : tru t = some k) : TruV G.K v H k := by
  cases t with
  | imm d =>
    obtain ⟨_, o⟩ := o
    cases d with
    | any => cases h
    | val _ => cases h
    | non =>
      rw [show v = .non from o]
      exact (Option.some.inj h).symm
    | bl b =>
      rw [show v = .bl b from o]
      exact (Option.some.inj h).symm
    | int i =>
      rw [show v = .int i from o]
      exact (Option.some.inj h).symm
    | str s =>
      rw [show v = .str s from o]
      have h' : (if s.length ≤ sizeLine then some ((s.length : Int) != 0) else none) = some k := h
      by_cases c : s.length ≤ sizeLine
      · rw [if_pos c] at h'
        exact ⟨c, (Option.some.inj h').symm⟩
      · rw [if_neg c] at h'; cases h'
    | tup ds =>
      obtain ⟨a, vs, e, h2, h3⟩ := o
      rw [e]
      refine .inr (.inl ⟨vs, same_sqt mh h2, ?_⟩)
      rw [← Option.some.inj h, empty_of_len h3.len]
    | lst ds =>
      obtain ⟨a, vs, e, h2, h3⟩ := o
      rw [e]
      refine .inl ⟨vs, .of (mh _ _ h2), ?_⟩
      rw [← Option.some.inj h, empty_of_len h3.len]
    | frl ds =>
      obtain ⟨a, vs, e, h2, h3⟩ := o
      rw [e]
      refine .inl ⟨vs, mh.seq h2, ?_⟩
      rw [← Option.some.inj h, empty_of_len h3.len]
    | dic _ _ => cases h
    | dit _ _ => cases h
    | obj _ _ _ => cases h
  | lst ts =>
    obtain ⟨a, vs, r, e, e2, h2, h3⟩ := o
    rw [e]
    refine .inl ⟨vs, .of h2, ?_⟩
    rw [← Option.some.inj h, empty_of_len h3.len]
  | dic _ _ => cases h
  | dit _ _ => cases h
  | obj _ _ _ => cases h
/-- an expression of any kind as a test -/
theorem dt_tru {emb : α → T} {m : R α} (h : DB X W Γ e emb m) (he : ∀ whole, isTrue e X.env whole = (do let v ← whole; standAt e.pos; holding [v] (truthy v)) := by intro _; rfl) : DT X W Γ e (m >>= fun x => ofO (tru (emb x))) := by
  have p := pe_w X e; have q := h
  refine tmk ⟨_, pt_truth p he, fun F M0 M H σ Q s po => q F M0 M H σ _ s (po.bind.imp (fun x _ k v M' H' as g o => ?_) fun _ z => z)⟩
  obtain ⟨b, e, k⟩ := k.ofO
  exact ⟨b, tru_of g.mh o e, k M' H' g⟩
theorem dt_int {m : R Int} (h : DD X W Γ e D.int m) (he : ∀ whole, isTrue e X.env whole = (do let v ← whole; standAt e.pos; holding [v] (truthy v)) := by intro _; rfl) : DT X W Γ e (m >>= fun x => .ok (x != 0)) := dt_tru (db_of_dd h) he
theorem dt_lst {emb : α → T} {m : R (List α)} (h : DB X W Γ e (fun xs => .lst (xs.map emb)) m) (he : ∀ whole, isTrue e X.env whole = (do let v ← whole; standAt e.pos; holding [v] (truthy v)) := by intro _; rfl) : DT X W Γ e (m >>= fun x => .ok !x.isEmpty) := by
  have q := dt_tru h he
  have z : (fun x : List α => ofO (tru (T.lst (x.map emb)))) = fun x => R.ok !x.isEmpty := by
    funext x
    show R.ok _ = R.ok _
    rw [List.isEmpty_map]
  rw [z] at q; exact q
theorem dw_one {op : BoolOp} {m : R Bool} (h : DT X W Γ e m) (ho : op = .And ∨ op = .Or) : DW X W Γ (.BoolOp op [e] pos) m := by
  have p := pt_w X e; have q := h
  rcases ho with rfl | rfl
  · exact wmk ⟨_, pw_and1 p, q⟩
  · exact wmk ⟨_, pw_or1 p, q⟩
theorem dw_and {m n : R Bool} {rest : List Expr} (h : DT X W Γ a m) (k : DW X W Γ (.BoolOp .And (b :: rest) pos) n) : DW X W Γ (.BoolOp .And (a :: b :: rest) pos) (m >>= fun x => if x then n else .ok false) := by
  have p := pt_w X a; have q := h
  have p' := pw_w X (.BoolOp .And (b :: rest) pos); have q' := k
  refine wmk ⟨_, pw_and p p', fun F M0 M H σ Q s po => q F M0 M H σ _ s (po.bind.imp (fun x _ k M' H' g => ?_) fun _ z => z)⟩
  cases x with
  | true => exact q' F M0 M' H' σ _ (s.grow g) (k.imp (fun y _ z M2 H2 g2 => z M2 H2 (g.trans g2)) fun c z M2 H2 g2 => z M2 H2 (g.trans g2))
  | false => exact k M' H' g
theorem dw_or {m n : R Bool} {rest : List Expr} (h : DT X W Γ a m) (k : DW X W Γ (.BoolOp .Or (b :: rest) pos) n) : DW X W Γ (.BoolOp .Or (a :: b :: rest) pos) (m >>= fun x => if x then .ok true else n) := by
  have p := pt_w X a; have q := h
  have p' := pw_w X (.BoolOp .Or (b :: rest) pos); have q' := k
  refine wmk ⟨_, pw_or p p', fun F M0 M H σ Q s po => q F M0 M H σ _ s (po.bind.imp (fun x _ k M' H' g => ?_) fun _ z => z)⟩
  cases x with
  | false => exact q' F M0 M' H' σ _ (s.grow g) (k.imp (fun y _ z M2 H2 g2 => z M2 H2 (g.trans g2)) fun c z M2 H2 g2 => z M2 H2 (g.trans g2))
  | true => exact k M' H' g
theorem dt_dw {m : R Bool} (h : DW X W Γ e m) : DT X W Γ e m := by
  have p := pw_w X e; have q := h
  exact tmk ⟨_, p.pt, q⟩
theorem dt_not {m : R Bool} (h : DT X W Γ e m) : DT X W Γ (.UnaryOp .Not e pos) (m >>= fun x => .ok !x) := by
  have p := pt_w X e; have q := h
  exact tmk ⟨_, pt_not p, fun F M0 M H σ Q s po => q F M0 M H σ _ s (po.bind.imp (fun x _ k M' H' g => k M' H' g) fun _ z => z)⟩
/-- and, or, not of bools as values -/
theorem dd_one {op : BoolOp} {m : R Bool} (h : DD X W Γ e D.bl m) : DD X W Γ (.BoolOp op [e] pos) D.bl m := by
  have p := pe_w X e; have q := h
  exact dmk ⟨_, pe_one p, q⟩
theorem dd_andB {m n : R Bool} {rest : List Expr} (h : DD X W Γ a D.bl m) (k : DD X W Γ (.BoolOp .And (b :: rest) pos) D.bl n) : DD X W Γ (.BoolOp .And (a :: b :: rest) pos) D.bl (m >>= fun x => if x then n else .ok false) := by
  have p := pe_w X a; have q := h
  have p' := pe_w X (.BoolOp .And (b :: rest) pos); have q' := k
  refine dmk ⟨_, pe_and p p', fun F M0 M H σ Q s po => q F M0 M H σ _ s (po.bind.imp (fun x _ k v M' H' g r => ⟨x, r, ?_⟩) fun _ z => z)⟩
  cases x with
  | true => exact q' F M0 M' H' σ _ (s.grow g) (k.imp (fun y _ z v M2 H2 g2 => z v M2 H2 (g.trans g2)) fun c z M2 H2 g2 => z M2 H2 (g.trans g2))
  | false => exact k _ M' H' g rfl
theorem dd_orB {m n : R Bool} {rest : List Expr} (h : DD X W Γ a D.bl m) (k : DD X W Γ (.BoolOp .Or (b :: rest) pos) D.bl n) : DD X W Γ (.BoolOp .Or (a :: b :: rest) pos) D.bl (m >>= fun x => if x then .ok true else n) := by
  have p := pe_w X a; have q := h
  have p' := pe_w X (.BoolOp .Or (b :: rest) pos); have q' := k
  refine dmk ⟨_, pe_or p p', fun F M0 M H σ Q s po => q F M0 M H σ _ s (po.bind.imp (fun x _ k v M' H' g r => ⟨x, r, ?_⟩) fun _ z => z)⟩
  cases x with
  | false => exact q' F M0 M' H' σ _ (s.grow g) (k.imp (fun y _ z v M2 H2 g2 => z v M2 H2 (g.trans g2)) fun c z M2 H2 g2 => z M2 H2 (g.trans g2))
  | true => exact k _ M' H' g rfl
theorem dd_notB {m : R Bool} (h : DD X W Γ e D.bl m) : DD X W Γ (.UnaryOp .Not e pos) D.bl (m >>= fun x => .ok !x) := by
  have p := pe_w X e; have q := h
  exact dmk ⟨_, pe_not p, fun F M0 M H σ Q s po => q F M0 M H σ _ s (po.bind.imp (fun x _ k v M' H' g r => ⟨x, r, k _ M' H' g rfl⟩) fun _ z => z)⟩
theorem df_if {c : Expr} {mc : R Bool} {emb : α → T} {m n : R α} (hc : DT X W Γ c mc) (ha : DF X W Γ a emb m) (hb : DF X W Γ b emb n) : DF X W Γ (.IfExp c a b pos) emb (mc >>= fun x => if x then m else n) := by
  have pc := pt_w X c; have qc := hc
  have pa := pe_w X a; have qa := ha
  have pb := pe_w X b; have qb := hb
  refine dmk ⟨_, pe_ifExp pc pa pb, fun F M0 M H σ Q s po => qc F M0 M H σ _ s (po.bind.imp (fun x _ k M' H' g => ?_) fun _ z => z)⟩
  cases x with
  | true => exact qa F M0 M' H' σ _ (s.grow g) (k.imp (fun y _ z v M2 H2 as g2 o nd fr => z v M2 H2 as (g.trans g2) o nd fun a ha => ⟨g.hh.free (fr a ha).1, (fr a ha).2⟩) fun c z M2 H2 g2 => z M2 H2 (g.trans g2))
  | false => exact qb F M0 M' H' σ _ (s.grow g) (k.imp (fun y _ z v M2 H2 as g2 o nd fr => z v M2 H2 as (g.trans g2) o nd fun a ha => ⟨g.hh.free (fr a ha).1, (fr a ha).2⟩) fun c z M2 H2 g2 => z M2 H2 (g.trans g2))
theorem dd_if {c : Expr} {mc : R Bool} {emb : α → D} {m n : R α} (hc : DT X W Γ c mc) (ha : DD X W Γ a emb m) (hb : DD X W Γ b emb n) : DD X W Γ (.IfExp c a b pos) emb (mc >>= fun x => if x then m else n) := dd_imm (df_if hc (df_of_dd ha) (df_of_dd hb))
/-! ### arguments, calls -/
theorem da_nil : DA X W Γ [] (fun _ : Unit => []) (.ok ()) := amk ⟨_, pa_nil, fun F M0 M H σ Q s po => po [] M H (.refl s.mh) rfl⟩
theorem da_cons {ea : α → D} {es' : β → List D} {m : R α} {n : R β} (h : DD X W Γ e ea m) (k : DA X W Γ es es' n) (hs : starEach (e :: es) X.env = (false, eval e X.env) :: starEach es X.env := by exact star_cons rfl) :
    DA X W Γ (e :: es) (fun p : α × β => ea p.1 :: es' p.2) (m >>= fun x => n >>= fun y => .ok (x, y)) := by
  have p := pe_w X e; have q := h
  have p' := pa_w X es; have q' := k
  refine amk ⟨_, pa_cons p p' hs, fun F M0 M H σ Q s po => q F M0 M H σ _ s (po.bind.imp (fun x _ k v M1 H1 g r => ?_) fun _ z => z)⟩
  exact q' F M0 M1 H1 σ _ (s.grow g) (k.bind.imp (fun y _ z vs M2 H2 g2 r2 => z _ M2 H2 (g.trans g2) ⟨v, vs, rfl, Rep.mono g2.mm _ _ r, r2⟩) fun c z M2 H2 g2 => z M2 H2 (g.trans g2))
/-- a def that changes nothing: what it is given stands for a, it hands back what stands for f a, or raises -/
def SpF (G : Ctx) {α ρ : Type} (args : α → List D) (er : ρ → T) (f : α → R ρ) : Sp := fun vs H Q E => ∃ (a : α) (M : Hp), Same M H ∧ Reps G M (args a) vs ∧
  Po (f a) (fun r => WF G M H (er r) Q) (fun c => ∀ M' H', Gr M H M' H' → ∀ C, G.mg c = some (.ref C) → E (.ref C) none H')
section
variable {k : Nat} {f : Addr} {fd : FuncData} {ps : List Str} {n : Str} {p : Pos} {ρ : Type}
theorem df_call {args : α → List D} {er : ρ → T} {g : α → R ρ} {m : R α} (Fk : FnOk X.prog X.w X.K X.mg X.base (L2.CX X.prog X.w) k f fd ps (SpF X.G args er g)) (hr : Room k X.A) (hm : X.mg n = some (.ref f)) (hk : PySem.W.keepIn X.K (.ref f) = true) (hb : Binds X.K fd ps [])
    (tk : Takes X W) (ha : DA X W Γ (e :: es) args m) (hg : Gl X n := by rfl) (hdb : (n == ("__debug__" : Str)) = false := by decide) (he : starEach (e :: es) X.env = (false, eval e X.env) :: starEach es X.env := by exact star_cons rfl) (hpl : (backTo pos (starEach es X.env)).any (·.1) = false := by exact star_none rfl) :
    DF X W Γ (.Call (.Name n p) (e :: es) [] pos) er (m >>= g) := by
  have pa := pa_w X (e :: es); have qa := ha
  refine dmk ⟨_, pe_callS Fk hr hg hm hk hb (fun σ => passAt tk σ) pa hdb he hpl, fun F M0 M H σ Q s po => ?_⟩
  refine qa F M0 M H σ _ s (po.bind.imp (fun x _ k vs M1 H1 g1 r1 => ?_) fun _ z => z)
  exact ⟨x, M1, g1.mh, r1, k.imp (fun r _ z v M2 H2 as g2 o nd fr => z v M2 H2 as (g1.trans g2) o nd fun a ha => ⟨g1.hh.free (fr a ha).1, (fr a ha).2⟩) fun c z M2 H2 g2 => z M2 H2 (g1.trans g2)⟩
end
end
end Cn
/-! Cn3: statements -/
namespace Cn
open PySem PySem.Spec L2
/-- the ways in which a block may end with an outcome -/
structure Kd where
  nx : Option (List Sl) := none
  rt : Option (T × List Sl) := none
  bk : Option (List Sl) := none
  ct : Option (List Sl) := none
abbrev Kd.n (Γ : List Sl) : Kd := { nx := some Γ }
abbrev Kd.r (t : T) (Γ : List Sl) : Kd := { rt := some (t, Γ) }
/-- .. but the falling through -/
abbrev Kd.ex (k : Kd) : Kd := { k with nx := none }
abbrev Kd.rr (k : Kd) : Kd := { rt := k.rt }
structure Kn (G : Ctx) (F M0 : Hp) (D : Ends) (k : Kd) : Prop where
  nx : ∀ Γ, k.nx = some Γ → ∀ M H σ, S G F M0 M H σ Γ → D.nx σ H
  rt : ∀ t Γ, k.rt = some (t, Γ) → ∀ M H σ v, S G F M0 M H (some v :: σ) (.ow t :: Γ) → D.rt v H
  bk : ∀ Γ, k.bk = some Γ → ∀ M H σ, S G F M0 M H σ Γ → D.bk σ H
  ct : ∀ Γ, k.ct = some Γ → ∀ M H σ, S G F M0 M H σ Γ → D.ct σ H
/-- a block; Γe: what is known where an exception leaves -/
abbrev Bk (X : Cx) (W : WX) (Γe Γ : List Sl) (ss : List Stmt) {ω : Type} (κ : ω → Kd) (m : R ω) : Prop :=
  JQ X Γ (fun σ H D => wSs X ss D σ H) fun F M0 M H σ D => Po m (fun o => Kn X.G F M0 D (κ o)) (fun c => ∀ M' H' σ', S X.G F M0 M' H' σ' Γe → Er X.G W c σ' H')
abbrev St1 (X : Cx) (W : WX) (Γe Γ : List Sl) (s : Stmt) {ω : Type} (κ : ω → Kd) (m : R ω) : Prop :=
  JQ X Γ (fun σ H D => wS X s D σ H) fun F M0 M H σ D => Po m (fun o => Kn X.G F M0 D (κ o)) (fun c => ∀ M' H' σ', S X.G F M0 M' H' σ' Γe → Er X.G W c σ' H')
/-! ### the state, stored to -/
section
variable {G : Ctx} {F M0 M M' H H' : Hp} {σ : St} {Γ : List Sl}
theorem S.put {t : T} {v : V} {n : List Addr} {i : Nat} (s : S G F M0 M H σ Γ) (g : Gr M H M' H') (o : Own G M' H' t v n) (nd : n.Nodup) (fr : ∀ a ∈ n, H a = none ∧ M' a = none) (hi : i < Γ.length) : S G F M0 M' H' (σ.set i (some v)) (Γ.set i (.ow t)) := by
  obtain ⟨as, f, sa⟩ := s
  have th := Sat.there Γ σ as sa
  have sa' := Sat.keep g.mm Γ σ as (fun a _ o e => g.hh a o e) sa
  obtain ⟨bs, l, r, sb, e, sub⟩ := Sat.put sa' hi o
  refine ⟨bs, ?_, sb⟩
  rw [e]
  exact (f.grow th g).add sub nd (fun a ha => f.fh.free (fr a ha).1) (fun a ha => (fr a ha).2) fun a ha z => th a z (fr a ha).1
theorem S.cons {t : T} {v : V} {n : List Addr} (s : S G F M0 M H σ Γ) (g : Gr M H M' H') (o : Own G M' H' t v n) (nd : n.Nodup) (fr : ∀ a ∈ n, H a = none ∧ M' a = none) : S G F M0 M' H' (some v :: σ) (.ow t :: Γ) := by
  obtain ⟨as, f, sa⟩ := s
  have th := Sat.there Γ σ as sa
  have sa' := Sat.keep g.mm Γ σ as (fun a _ o e => g.hh a o e) sa
  refine ⟨n ++ as, ?_, ⟨v, σ, n, as, rfl, rfl, o, sa'⟩⟩
  exact (f.grow th g).add (l := []) (by simp) nd (fun a ha => f.fh.free (fr a ha).1) (fun a ha => (fr a ha).2) fun a ha z => th a z (fr a ha).1
/-- the slot's tree alone, the others around it -/
theorem Sat.focus : ∀ {Γ : List Sl} {σ : St} {as : List Addr} {i : Nat} {t : T}, Sat G F M H Γ σ as → Γ[i]? = some (.ow t) →
    ∃ v l a r, σ[i]? = some (some v) ∧ as = l ++ a ++ r ∧ Own G M H t v a ∧ ∀ M' H' t' a', Same M M' → (∀ b ∈ l ++ r, ∀ o, H b = some o → H' b = some o) → Own G M' H' t' v a' → Sat G F M' H' (Γ.set i (.ow t')) σ (l ++ a' ++ r)
  | [], σ, as, i, t, h, e => by simp at e
  | .un :: Γ, σ, as, 0, t, h, e => nomatch (Option.some.inj e)
  | .un :: Γ, σ, as, i + 1, t, ⟨x, r, h1, h2⟩, e => by
    subst h1
    obtain ⟨v, l, a, r', q1, q2, q3, q4⟩ := Sat.focus (i := i) h2 e
    exact ⟨v, l, a, r', q1, q2, q3, fun M' H' t' a' m k o => ⟨x, r, rfl, q4 M' H' t' a' m k o⟩⟩
  | .ow t0 :: Γ, σ, as, 0, t, ⟨v, r, a1, a2, h1, h2, h3, h4⟩, e => by
    have z : t0 = t := Sl.ow.inj (Option.some.inj e)
    subst z; subst h1
    refine ⟨v, [], a1, a2, rfl, h2, h3, fun M' H' t' a' m k o => ⟨v, r, a', a2, rfl, rfl, o, Sat.keep m Γ r a2 (fun b hb => k b (by simpa using hb)) h4⟩⟩
  | .ow t0 :: Γ, σ, as, i + 1, t, ⟨v, r, a1, a2, h1, h2, h3, h4⟩, e => by
    subst h1; subst h2
    obtain ⟨w, l, a, r', q1, q2, q3, q4⟩ := Sat.focus (i := i) h4 e
    subst q2
    refine ⟨w, a1 ++ l, a, r', q1, by simp, q3, fun M' H' t' a' m k o => ⟨v, r, a1, l ++ a' ++ r', rfl, by simp, Own.keep m t0 v a1 (fun b hb => k b (by simp [hb])) h3, q4 M' H' t' a' m (fun b hb => k b ?_) o⟩⟩
    rw [List.append_assoc]; exact List.mem_append_right _ hb
  | .lk t0 :: Γ, σ, as, 0, t, h, e => nomatch (Option.some.inj e)
  | .lk t0 :: Γ, σ, as, i + 1, t, ⟨x, r, a0, h1, h2, h3⟩, e => by
    subst h1
    obtain ⟨v, l, a, r', q1, q2, q3, q4⟩ := Sat.focus (i := i) h3 e
    exact ⟨v, l, a, r', q1, q2, q3, fun M' H' t' a' m k o => ⟨x, r, a0, rfl, Own.keep m _ _ _ (fun _ _ _ q => q) h2, q4 M' H' t' a' m k o⟩⟩
  | .pn w0 t0 :: Γ, σ, as, 0, t, h, e => nomatch (Option.some.inj e)
  | .pn w0 t0 :: Γ, σ, as, i + 1, t, ⟨r, a1, a2, h1, h2, h3, h4⟩, e => by
    subst h1; subst h2
    obtain ⟨w, l, a, r', q1, q2, q3, q4⟩ := Sat.focus (i := i) h4 e
    subst q2
    refine ⟨w, a1 ++ l, a, r', q1, by simp, q3, fun M' H' t' a' m k o => ⟨r, a1, l ++ a' ++ r', rfl, by simp, Own.keep m t0 w0 a1 (fun b hb => k b (by simp [hb])) h3, q4 M' H' t' a' m (fun b hb => k b ?_) o⟩⟩
    rw [List.append_assoc]; exact List.mem_append_right _ hb
theorem Fr0.upd {as : List Addr} {p : Addr} {o : HO} (f : Fr0 F M0 M H as) (hp : p ∈ as) : Fr0 F M0 M (upd H p o) as where
  fh := fun b u e => by rw [upd_ne (ne_of_none e (f.fa p hp))]; exact f.fh b u e
  mm := f.mm
  mh := fun b u e => by rw [upd_ne (ne_of_none e (f.ma p hp))]; exact f.mh b u e
  nw := f.nw
  nd := f.nd
  fa := f.fa
  ma := f.ma
/-- a list of the slot's own is changed in its items; n: what comes to it -/
theorem S.listed {i : Nat} {ts ts' : List T} (s : S G F M0 M H σ Γ) (h : Γ[i]? = some (.ow (.lst ts))) :
    ∃ a vs, σ[i]? = some (some (.ref a)) ∧ H a = some (.lst vs) ∧ vs.length = ts.length ∧ (∃ as, Owns G M H ts vs as) ∧
      ∀ M' H' vs' n, Gr M H M' H' → (∀ as K', (∀ b ∈ as, b ≠ a) → Owns G M H ts vs as → Owns G M' K' ts vs as → (∀ b o, b ≠ a → H' b = some o → K' b = some o) → ∃ as', Owns G M' K' ts' vs' as' ∧ as'.Sublist (as ++ n)) → n.Nodup → (∀ b ∈ n, H b = none ∧ M' b = none) →
        S G F M0 M' (upd H' a (.lst vs')) σ (Γ.set i (.ow (.lst ts'))) := by
  obtain ⟨as, f, sa⟩ := s
  obtain ⟨v, l, a0, r, q1, q2, q3, q4⟩ := Sat.focus sa h
  obtain ⟨a, vs, r0, e1, e2, e3, e4⟩ := q3
  subst e1; subst e2
  refine ⟨a, vs, q1, e3, Owns.len e4, ⟨r0, e4⟩, fun M' H' vs' n g ho nn fr => ?_⟩
  have th := Sat.there Γ σ as sa
  have f1 := f.grow th g
  have hnd := f.nd
  rw [q2] at hnd
  have hp : a ∈ as := by rw [q2]; simp
  have nr : ∀ b ∈ r0, b ≠ a := fun b hb z => by
    subst z
    rw [List.nodup_append] at hnd
    have := hnd.1
    rw [List.nodup_append] at this
    have := this.2.1
    rw [List.nodup_cons] at this
    exact this.1 hb
  have no : ∀ b ∈ l ++ r, b ≠ a := fun b hb z => by
    subst z
    rw [List.nodup_append] at hnd
    rcases List.mem_append.mp hb with w | w
    · have q := hnd.1
      rw [List.nodup_append] at q
      exact q.2.2 b w b List.mem_cons_self rfl
    · exact hnd.2.2 b (by simp) b w rfl
  obtain ⟨as', o', sub⟩ := ho r0 (upd H' a (.lst vs')) nr e4 (Owns.keep g.mm ts vs r0 (fun b hb o e => by rw [upd_ne (nr b hb)]; exact g.hh b o e) e4)  (fun b o hb e => by rw [upd_ne hb]; exact e)
  have f2 := (f1.upd (o := .lst vs') hp).add (l := l ++ (a :: r0)) (n := n) (r := r) (by rw [q2]; exact .refl _) nn (fun b hb => f.fh.free (fr b hb).1) (fun b hb => (fr b hb).2) fun b hb z => th b z (fr b hb).1
  refine ⟨l ++ (a :: as') ++ r, f2.sub ?_, q4 M' _ _ _ g.mm (fun b hb o e => by rw [upd_ne (no b hb)]; exact g.hh b o e) ⟨a, vs', as', rfl, rfl, upd_same, o'⟩⟩
  refine List.Sublist.append ?_ (.refl _)
  rw [List.append_assoc]
  refine List.Sublist.append (.refl _) ?_
  rw [List.cons_append]
  exact List.Sublist.cons₂ a sub
theorem S.base_in {M1 : Hp} (s : S G F M0 M H σ Γ) (h1 : Same M1 M) (h0 : Same M0 M1) : S G F M1 M H σ Γ := by
  obtain ⟨as, f, sa⟩ := s
  exact ⟨as, ⟨f.fh, h1, f.mh, fun a z => by
    rcases f.nw a z with q | q
    · exact .inl (Same.of_some h0 q)
    · exact .inr q, f.nd, f.fa, f.ma⟩, sa⟩
theorem S.base_out {M1 : Hp} (s : S G F M1 M H σ Γ) (h0 : Same M0 M1) (nw : ∀ a, M1 a ≠ none → M0 a ≠ none ∨ F a = none) : S G F M0 M H σ Γ := by
  obtain ⟨as, f, sa⟩ := s
  exact ⟨as, ⟨f.fh, h0.trans f.mm, f.mh, fun a z => by
    rcases f.nw a z with q | q
    · exact nw a q
    · exact .inr q, f.nd, f.fa, f.ma⟩, sa⟩
theorem S.rel (s : S G F M0 M H σ Γ) : Same M0 M ∧ ∀ a, M a ≠ none → M0 a ≠ none ∨ F a = none := by
  obtain ⟨as, f, sa⟩ := s
  exact ⟨f.mm, f.nw⟩
theorem Kn.base {M1 : Hp} {D : Ends} {k : Kd} (h : Kn G F M0 D k) (h0 : Same M0 M1) (nw : ∀ a, M1 a ≠ none → M0 a ≠ none ∨ F a = none) : Kn G F M1 D k :=
  ⟨fun Γ e M H σ s => h.nx Γ e M H σ (s.base_out h0 nw), fun t Γ e M H σ v s => h.rt t Γ e M H σ v (s.base_out h0 nw), fun Γ e M H σ s => h.bk Γ e M H σ (s.base_out h0 nw), fun Γ e M H σ s => h.ct Γ e M H σ (s.base_out h0 nw)⟩
/-- fresh data is shared from now on -/
theorem S.len (s : S G F M0 M H σ Γ) : σ.length = Γ.length := by
  obtain ⟨as, f, sa⟩ := s
  have : ∀ (Γ : List Sl) (σ : St) (as : List Addr), Sat G F M H Γ σ as → σ.length = Γ.length := by
    intro Γ
    induction Γ with
    | nil => intro σ as h; rw [h.1]; rfl
    | cons x Γ ih =>
      intro σ as h
      cases x with
      | un => obtain ⟨x, r, h1, h2⟩ := h; rw [h1, List.length_cons, List.length_cons, ih _ _ h2]
      | ow t => obtain ⟨v, r, a1, a2, h1, h2, h3, h4⟩ := h; rw [h1, List.length_cons, List.length_cons, ih _ _ h4]
      | pn w t => obtain ⟨r, a1, a2, h1, h2, h3, h4⟩ := h; rw [h1, List.length_cons, List.length_cons, ih _ _ h4]
      | lk t => obtain ⟨v, r, a0, h1, h2, h3⟩ := h; rw [h1, List.length_cons, List.length_cons, ih _ _ h3]
  exact this Γ σ as sa
end
/-! ### blocks -/
section
variable {X : Cx} {W : WX} {Γe Γ : List Sl} {a b e c : Expr} {es : List Expr} {α β γ ω ω1 : Type} {pos : Pos} {s : Stmt} {rest A B : List Stmt}
theorem bk_nil {κ : ω → Kd} {o : ω} {Γ' : List Sl} (hk : (κ o).nx = some Γ') (hw : Wk Γ' Γ) : Bk X W Γe Γ [] κ (.ok o) :=
  bmk ⟨_, pss_nil, fun F M0 M H σ D s po => po.nx Γ' hk M H σ (s.wk hw)⟩
theorem bk_one {κ : ω → Kd} {m : R ω} (h : St1 X W Γe Γ s κ m) : Bk X W Γe Γ [s] κ m := bmk ⟨_, pss_one (ps_w X s), h⟩
/-- a statement that falls through, and the rest -/
theorem bk_cons {Γ1 : ω1 → List Sl} {κ : ω → Kd} {m : R ω1} {k : ω1 → R ω} (h1 : St1 X W Γe Γ s (fun o => .n (Γ1 o)) m) (h2 : ∀ o, Bk X W Γe (Γ1 o) rest κ (k o)) : Bk X W Γe Γ (s :: rest) κ (m >>= k) :=
  bmk ⟨_, pss_cons (ps_w X s) (pss_w X rest), fun F M0 M H σ D s po => h1 F M0 M H σ _ s (po.bind.imp (fun o _ q => ⟨fun Γ e M H σ s => by
    have e' : Γ1 o = Γ := Option.some.inj e
    subst e'
    exact h2 o F M0 M H σ D s q, fun t Γ e => (nomatch e), fun Γ e => (nomatch e), fun Γ e => (nomatch e)⟩) fun _ z => z)⟩
/-- a statement that falls through or leaves -/
def sumK {S O T : Type} (f : S → R T) (g : O → R T) : S ⊕ O → R T
  | .inl a => f a
  | .inr o => g o
def kSum {S O : Type} (f : S → Kd) (g : O → Kd) : S ⊕ O → Kd
  | .inl a => f a
  | .inr o => g o
theorem bk_consX {Γ1 : ω1 → List Sl} {κ : ω → Kd} {m : R (ω1 ⊕ ω)} {k : ω1 → R ω} (h1 : St1 X W Γe Γ s (kSum (fun o => .n (Γ1 o)) fun o => (κ o).ex) m) (h2 : ∀ o, Bk X W Γe (Γ1 o) rest κ (k o)) : Bk X W Γe Γ (s :: rest) κ (m >>= sumK k .ok) :=
  bmk ⟨_, pss_cons (ps_w X s) (pss_w X rest), fun F M0 M H σ D s po => h1 F M0 M H σ _ s (po.bind.imp (fun o _ q => by
    cases o with
    | inl o =>
      refine ⟨fun Γ e M H σ s => ?_, fun t Γ e => (nomatch e), fun Γ e => (nomatch e), fun Γ e => (nomatch e)⟩
      have e' : Γ1 o = Γ := Option.some.inj e
      subst e'
      exact h2 o F M0 M H σ D s q
    | inr o => exact ⟨fun Γ e => (nomatch e), fun t Γ e => Kn.rt q t Γ e, fun Γ e => Kn.bk q Γ e, fun Γ e => Kn.ct q Γ e⟩) fun _ z => z)⟩
theorem st_map {κ : ω → Kd} {κ' : ω1 → Kd} {m : R ω} {g : ω → ω1} (h : St1 X W Γe Γ s κ m) (e : ∀ o, κ' (g o) = κ o) : St1 X W Γe Γ s κ' (m >>= fun o => .ok (g o)) := ⟨fun F M0 M H σ D st po =>
  h F M0 M H σ D st (po.bind.imp (fun o _ (q : Kn _ _ _ _ (κ' (g o))) => by rw [← e]; exact q) fun _ z => z)⟩
theorem bk_map {ss : List Stmt} {κ : ω → Kd} {κ' : ω1 → Kd} {m : R ω} {g : ω → ω1} (h : Bk X W Γe Γ ss κ m) (e : ∀ o, Kd.rt (κ' (g o)) = (κ o).rt ∧ ((κ o).nx = none ∨ (κ' (g o)).nx = (κ o).nx) ∧ ((κ o).bk = none ∨ (κ' (g o)).bk = (κ o).bk) ∧ ((κ o).ct = none ∨ (κ' (g o)).ct = (κ o).ct)) : Bk X W Γe Γ ss κ' (m >>= fun o => .ok (g o)) := ⟨fun F M0 M H σ D st po =>
  h F M0 M H σ D st (po.bind.imp (fun o _ (q : Kn _ _ _ _ (κ' (g o))) => by
    obtain ⟨e1, e2, e3, e4⟩ := e o
    refine ⟨fun Γ z => ?_, fun t Γ z => q.rt t Γ (by rw [e1]; exact z), fun Γ z => ?_, fun Γ z => ?_⟩
    · rcases e2 with y | y
      · rw [y] at z; cases z
      · exact q.nx Γ (by rw [y]; exact z)
    · rcases e3 with y | y
      · rw [y] at z; cases z
      · exact q.bk Γ (by rw [y]; exact z)
    · rcases e4 with y | y
      · rw [y] at z; cases z
      · exact q.ct Γ (by rw [y]; exact z)) fun _ z => z)⟩
theorem er_wk {F M0 M H : Hp} {σ : St} (st : S X.G F M0 M H σ Γ) (hw : Wk Γe Γ) {c : Str} (z : ∀ M' H' σ', S X.G F M0 M' H' σ' Γe → Er X.G W c σ' H') : ∀ M' H', Gr M H M' H' → Er X.G W c σ H' := fun M' H' g => z M' H' σ ((st.grow g).wk hw)
/-! small statements -/
theorem st_pass {κ : Unit → Kd} (hk : (κ ()).nx = some Γ) : St1 X W Γe Γ (.Pass pos) κ (.ok ()) := smk ⟨_, ps_pass, fun F M0 M H σ D s po => po.nx Γ hk M H σ s⟩
theorem bk_cont {κ : ω → Kd} {o : ω} {Γ' : List Sl} (hk : (κ o).ct = some Γ') (hw : Wk Γ' Γ) : Bk X W Γe Γ (.Continue pos :: rest) κ (.ok o) :=
  bmk ⟨_, pss_cons ps_continue (pss_w X rest), fun F M0 M H σ D s po => po.ct Γ' hk M H σ (s.wk hw)⟩
theorem bk_break {κ : ω → Kd} {o : ω} {Γ' : List Sl} (hk : (κ o).bk = some Γ') (hw : Wk Γ' Γ) : Bk X W Γe Γ (.Break pos :: rest) κ (.ok o) :=
  bmk ⟨_, pss_cons ps_break (pss_w X rest), fun F M0 M H σ D s po => po.bk Γ' hk M H σ (s.wk hw)⟩
theorem S.wkc {G : Ctx} {F M0 M H : Hp} {σ : St} {v : V} {t : T} {Γr : List Sl} (st : S G F M0 M H (some v :: σ) (.ow t :: Γ)) (hr : Wk Γr Γ) : S G F M0 M H (some v :: σ) (.ow t :: Γr) := S.wk (Γe := .ow t :: Γr) (Γ := .ow t :: Γ) ⟨rfl, hr⟩ st
theorem bk_ret {emb : α → T} {m : R α} {κ : ω → Kd} {g : α → ω} {Γr : List Sl} (he : DF X W Γ e emb m) (hk : ∀ x, (κ (g x)).rt = some (emb x, Γr)) (hr : Wk Γr Γ) (hw : Wk Γe Γ) : Bk X W Γe Γ (.Return (some e) pos :: rest) κ (m >>= fun x => .ok (g x)) :=
  bmk ⟨_, pss_cons (ps_ret (pe_w X e)) (pss_w X rest), fun F M0 M H σ D s po => he F M0 M H σ _ s (po.bind.imp (fun x _ q v M' H' n gr o nd fr => by
    exact Kn.rt q _ _ (hk x) M' H' σ v ((s.cons gr o nd fr).wkc hr)) fun c z => er_wk s hw z)⟩
theorem bk_retN {κ : ω → Kd} {o : ω} {Γr : List Sl} (hk : (κ o).rt = some (.imm .non, Γr)) (hr : Wk Γr Γ) : Bk X W Γe Γ (.Return none pos :: rest) κ (.ok o) :=
  bmk ⟨_, pss_cons ps_retN (pss_w X rest), fun F M0 M H σ D s po => po.rt _ _ hk M H σ .non ((s.cons (t := .imm .non) (v := .non) (n := []) (.refl s.mh) ⟨rfl, rfl⟩ List.nodup_nil fun _ z => nomatch z).wkc hr)⟩
/-- return x, where x is the def's own tree -/
theorem Sat.move {G : Ctx} {F M H : Hp} : ∀ {Γ : List Sl} {σ : St} {as : List Addr} {i : Nat} {t : T}, Sat G F M H Γ σ as → Γ[i]? = some (.ow t) → ∃ v bs, σ[i]? = some (some v) ∧ Sat G F M H (.ow t :: Γ.set i .un) (some v :: σ) bs ∧ List.Perm bs as
  | [], σ, as, i, t, h, e => by simp at e
  | .un :: Γ, σ, as, 0, t, h, e => nomatch (Option.some.inj e)
  | .un :: Γ, σ, as, i + 1, t, ⟨x, r, h1, h2⟩, e => by
    subst h1
    obtain ⟨v, bs, q1, ⟨v', r', a1, a2, z1, z2, z3, z4⟩, q3⟩ := Sat.move (i := i) h2 e
    obtain ⟨zv, zr⟩ := List.cons.inj z1
    cases zv; subst zr
    exact ⟨v, bs, q1, ⟨v, _, a1, a2, rfl, z2, z3, ⟨x, r, rfl, z4⟩⟩, q3⟩
  | .ow t0 :: Γ, σ, as, 0, t, ⟨v, r, a1, a2, h1, h2, h3, h4⟩, e => by
    have z : t0 = t := Sl.ow.inj (Option.some.inj e)
    subst z; subst h1; subst h2
    exact ⟨v, a1 ++ a2, rfl, ⟨v, _, a1, a2, rfl, rfl, h3, ⟨some v, r, rfl, h4⟩⟩, .refl _⟩
  | .ow t0 :: Γ, σ, as, i + 1, t, ⟨w, r, b1, b2, h1, h2, h3, h4⟩, e => by
    subst h1; subst h2
    obtain ⟨v, bs, q1, ⟨v', r', a1, a2, z1, z2, z3, z4⟩, q3⟩ := Sat.move (i := i) h4 e
    obtain ⟨zv, zr⟩ := List.cons.inj z1
    cases zv; subst zr; subst z2
    refine ⟨v, a1 ++ (b1 ++ a2), q1, ⟨v, _, a1, b1 ++ a2, rfl, rfl, z3, ⟨w, r, b1, a2, rfl, rfl, h3, z4⟩⟩, ?_⟩
    rw [← List.append_assoc]
    exact (List.perm_append_comm.append_right a2).trans (by rw [List.append_assoc]; exact List.Perm.append_left b1 q3)
  | .lk t0 :: Γ, σ, as, 0, t, h, e => nomatch (Option.some.inj e)
  | .lk t0 :: Γ, σ, as, i + 1, t, ⟨x, r, a0, h1, h2, h3⟩, e => by
    subst h1
    obtain ⟨v, bs, q1, ⟨v', r', a1, a2, z1, z2, z3, z4⟩, q3⟩ := Sat.move (i := i) h3 e
    obtain ⟨zv, zr⟩ := List.cons.inj z1
    cases zv; subst zr
    exact ⟨v, bs, q1, ⟨v, _, a1, a2, rfl, z2, z3, ⟨x, r, a0, rfl, h2, z4⟩⟩, q3⟩
  | .pn w0 t0 :: Γ, σ, as, 0, t, h, e => nomatch (Option.some.inj e)
  | .pn w t0 :: Γ, σ, as, i + 1, t, ⟨r, b1, b2, h1, h2, h3, h4⟩, e => by
    subst h1; subst h2
    obtain ⟨v, bs, q1, ⟨v', r', a1, a2, z1, z2, z3, z4⟩, q3⟩ := Sat.move (i := i) h4 e
    obtain ⟨zv, zr⟩ := List.cons.inj z1
    cases zv; subst zr; subst z2
    refine ⟨v, a1 ++ (b1 ++ a2), q1, ⟨v, _, a1, b1 ++ a2, rfl, rfl, z3, ⟨r, b1, a2, rfl, rfl, h3, z4⟩⟩, ?_⟩
    rw [← List.append_assoc]
    exact (List.perm_append_comm.append_right a2).trans (by rw [List.append_assoc]; exact List.Perm.append_left b1 q3)
theorem Fr0.perm {F M0 M H : Hp} {as bs : List Addr} (f : Fr0 F M0 M H as) (p : List.Perm bs as) : Fr0 F M0 M H bs := ⟨f.fh, f.mm, f.mh, f.nw, p.symm.nodup f.nd, fun a h => f.fa a (p.mem_iff.mp h), fun a h => f.ma a (p.mem_iff.mp h)⟩
theorem bk_retV {n : Str} {p : Pos} {t : T} {κ : ω → Kd} {o : ω} {Γr : List Sl} (i : Nat) (h : Γ[i]? = some (.ow t)) (hk : (κ o).rt = some (t, Γr)) (hr : Wk Γr (Γ.set i .un)) (hN : X.N[i]? = some n := by rfl) (hv : Vis X.env.scope n := by first | exact Or.inl rfl | exact Or.inr (Or.inl rfl) | exact Or.inr (Or.inr rfl))
    (hd : (n == ("__debug__" : Str)) = false := by decide) (hcd : (n == ("__classdict__" : Str)) = false := by decide) : Bk X W Γe Γ (.Return (some (.Name n p)) pos :: rest) κ (.ok o) :=
  bmk ⟨_, pss_cons (ps_ret (pe_var hN hv hd hcd)) (pss_w X rest), fun F M0 M H σ D s po => by
    obtain ⟨as, f, sa⟩ := s
    obtain ⟨v, bs, q1, q2, q3⟩ := Sat.move sa h
    exact ⟨v, q1, po.rt _ _ hk M H σ v (S.wkc ⟨bs, f.perm q3, q2⟩ hr)⟩⟩
theorem st_set {n : Str} {p : Pos} {emb : α → T} {m : R α} (i : Nat) (he : DF X W Γ e emb m) (hw : Wk Γe Γ) (hl : Nat.blt i Γ.length = true := by rfl) (hN : X.N.Nodup) (hi : X.N[i]? = some n := by rfl) (hx : Loc X.env.scope n := by first | exact Or.inl rfl | exact Or.inr rfl)
    (hs : swapsWith e (some (.Name n p)) pos.line X.env = pure false := by rfl) (hf : X.fn n = true ∨ X.env.scope.names.lookup n = some .local := by first | exact .inl rfl | exact .inr rfl) : St1 X W Γe Γ (.Assign [.Name n p] e pos) (fun x => .n (Γ.set i (.ow (emb x)))) m :=
  smk ⟨_, ps_set hN hi hx (pe_w X e) hs hf, fun F M0 M H σ D s po => he F M0 M H σ _ s (po.imp (fun x _ q v M' H' k g o nd fr => Kn.nx q _ rfl M' H' _ (s.put g o nd fr (Nat.le_of_ble_eq_true hl))) fun c z => er_wk s hw z)⟩
theorem st_expr {emb : α → T} {m : R α} (he : DB X W Γ e emb m) (hw : Wk Γe Γ) (hs : swapsWith e none pos.line X.env = pure false := by rfl) : St1 X W Γe Γ (.Expr e pos) (fun _ => .n Γ) m :=
  smk ⟨_, ps_expr (pe_w X e) hs, fun F M0 M H σ D s po => he F M0 M H σ _ s (po.imp (fun x _ q v M' H' k g o => Kn.nx q _ rfl M' H' _ (s.grow g)) fun c z => er_wk s hw z)⟩
theorem st_if {κ : ω → Kd} {mc : R Bool} {ma mb : R ω} (hc : DT X W Γ c mc) (ha : Bk X W Γe Γ A κ ma) (hb : Bk X W Γe Γ B κ mb) (hw : Wk Γe Γ) : St1 X W Γe Γ (.If c A B pos) κ (mc >>= fun x => if x then ma else mb) :=
  smk ⟨_, ps_if (pt_w X c) (pss_w X A) (pss_w X B), fun F M0 M H σ D s po => hc F M0 M H σ _ s (po.bind.imp (fun x _ q M' H' g => by
    cases x with
    | true => exact ha F M0 M' H' σ D (s.grow g) q
    | false => exact hb F M0 M' H' σ D (s.grow g) q) fun c z => er_wk s hw z)⟩
/-- if c: A, which leaves; else B, then the rest -/
theorem bk_ifX {κ : ω → Kd} {mc : R Bool} {ma mb : R ω} (hc : DT X W Γ c mc) (ha : Bk X W Γe Γ A (fun o => (κ o).ex) ma) (hb : Bk X W Γe Γ rest κ mb) (hw : Wk Γe Γ) : Bk X W Γe Γ (.If c A [] pos :: rest) κ (mc >>= fun x => if x then ma else mb) :=
  bmk ⟨_, pss_cons (ps_if (pt_w X c) (pss_w X A) pss_nil) (pss_w X rest), fun F M0 M H σ D s po => hc F M0 M H σ _ s (po.bind.imp (fun x _ q M' H' g => by
    cases x with
    | true => exact ha F M0 M' H' σ _ (s.grow g) (q.imp (fun o _ q => ⟨fun Γ e => (nomatch e), fun t Γ e => Kn.rt q t Γ e, fun Γ e => Kn.bk q Γ e, fun Γ e => Kn.ct q Γ e⟩) fun _ z => z)
    | false => exact hb F M0 M' H' σ D (s.grow g) q) fun c z => er_wk s hw z)⟩
/-- .. with an else that falls through -/
theorem bk_ifXE {κ : ω → Kd} {mc : R Bool} {ma mb : R ω} {B : List Stmt} (hc : DT X W Γ c mc) (ha : Bk X W Γe Γ A (fun o => (κ o).ex) ma) (hb : Bk X W Γe Γ (B ++ rest) κ mb) (hw : Wk Γe Γ) (hB : ∀ (D : Ends) σ H, wSs X (B ++ rest) D σ H → wSs X B { D with nx := wSs X rest D } σ H) :
    Bk X W Γe Γ (.If c A B pos :: rest) κ (mc >>= fun x => if x then ma else mb) :=
  bmk ⟨_, pss_cons (ps_if (pt_w X c) (pss_w X A) (pss_w X B)) (pss_w X rest), fun F M0 M H σ D s po => hc F M0 M H σ _ s (po.bind.imp (fun x _ q M' H' g => by
    cases x with
    | true => exact ha F M0 M' H' σ _ (s.grow g) (q.imp (fun o _ q => ⟨fun Γ e => (nomatch e), fun t Γ e => Kn.rt q t Γ e, fun Γ e => Kn.bk q Γ e, fun Γ e => Kn.ct q Γ e⟩) fun _ z => z)
    | false => exact hB D σ H' (hb F M0 M' H' σ D (s.grow g) q)) fun c z => er_wk s hw z)⟩
end
end Cn
/-! Cn4: loops, defs, exceptions -/
namespace Cn
open PySem PySem.Spec L2
/-! ### what a loop walks -/
/-- the iterator yields what stands for ds -/
def ItD (G : Ctx) (J : It) (ds : List D) (M1 : Hp) : Prop := ∀ M H i, Same M1 M → Same M H →
  (∀ d, ds[i]? = some d → J.go i H ∧ ∀ x H', J.yld i H x H' → ∃ M', Gr M H M' H' ∧ Rep G M' d x) ∧ (ds.length ≤ i → J.stop i H)
abbrev DI (X : Cx) (W : WX) (Γ : List Sl) (tg e : Expr) {α : Type} (emb : α → List D) (m : R α) : Prop :=
  JQ X Γ (wI X tg e) fun F M0 M H σ Q => Po m (fun x => ∀ J M' H', Gr M H M' H' → ItD X.G J (emb x) M' → Q J H') (fun c => ∀ M' H', Gr M H M' H' → Er X.G W c σ H')
theorem imk {X : Cx} {Γ : List Sl} {tg e : Expr} {Pre : Hp → Hp → Hp → Hp → St → (It → Hp → Prop) → Prop} (h : ∃ te, PI X tg e te ∧ ∀ F M0 M H σ Q, S X.G F M0 M H σ Γ → Pre F M0 M H σ Q → te σ H Q) : JQ X Γ (wI X tg e) Pre := ⟨fun F M0 M H σ Q s p pins sh I => by
  obtain ⟨te, pe, q⟩ := h
  exact pe.run pins sh σ H Q I (q F M0 M H σ Q s p)⟩
section
variable {X : Cx} {W : WX} {Γe Γ : List Sl} {a b e c tg : Expr} {es : List Expr} {α β γ ω ω1 : Type} {pos : Pos}
theorem di_frl {ei : α → D} {m : R (List α)} (h : DD X W Γ e (fun xs => .frl (xs.map ei)) m) : DI X W Γ tg e (fun xs => xs.map ei) m :=
  imk ⟨_, pi_list (pe_w X e), fun F M0 M H σ Q s po => h F M0 M H σ _ s (po.imp (fun x _ q v M1 H1 g r => by
    obtain ⟨p, vs, rfl, hq, rs⟩ := r
    refine ⟨p, rfl, ⟨vs, g.mh.seq hq⟩, q _ M1 H1 g fun M H i hm hh => ⟨fun d hd => ?_, fun hi => ⟨vs, hh.seq (hm.seq hq), by rw [rs.len]; exact hi⟩⟩⟩
    obtain ⟨w, e1, r1⟩ := rs.get hd
    have hs := hh.seq (hm.seq hq)
    refine ⟨⟨vs, w, hs, e1⟩, fun x H' y => ?_⟩
    obtain ⟨e2, y⟩ := y
    subst e2
    have e3 : w = x := Option.some.inj (e1.symm.trans (y vs hs))
    subst e3
    exact ⟨M, .refl hh, Rep.mono hm _ _ r1⟩) fun _ z => z)⟩
theorem di_list {ei : α → D} {m : R (List α)} (h : DD X W Γ e (fun xs => .lst (xs.map ei)) m) : DI X W Γ tg e (fun xs => xs.map ei) m :=
  imk ⟨_, pi_list (pe_w X e), fun F M0 M H σ Q s po => h F M0 M H σ _ s (po.imp (fun x _ q v M1 H1 g r => by
    obtain ⟨p, vs, rfl, hq, rs⟩ := r
    have hq : SqL X.K M1 p vs := .of hq
    refine ⟨p, rfl, ⟨vs, g.mh.seq hq⟩, q _ M1 H1 g fun M H i hm hh => ⟨fun d hd => ?_, fun hi => ⟨vs, hh.seq (hm.seq hq), by rw [rs.len]; exact hi⟩⟩⟩
    obtain ⟨w, e1, r1⟩ := rs.get hd
    have hs := hh.seq (hm.seq hq)
    refine ⟨⟨vs, w, hs, e1⟩, fun x H' y => ?_⟩
    obtain ⟨e2, y⟩ := y
    subst e2
    have e3 : w = x := Option.some.inj (e1.symm.trans (y vs hs))
    subst e3
    exact ⟨M, .refl hh, Rep.mono hm _ _ r1⟩) fun _ z => z)⟩
theorem di_tup {ei : α → D} {m : R (List α)} (h : DD X W Γ e (fun xs => .tup (xs.map ei)) m) : DI X W Γ tg e (fun xs => xs.map ei) m :=
  imk ⟨_, pi_tup (pe_w X e), fun F M0 M H σ Q s po => h F M0 M H σ _ s (po.imp (fun x _ q v M1 H1 g r => by
    obtain ⟨p, vs, rfl, hq, rs⟩ := r
    refine ⟨p, rfl, ⟨vs, same_sqt g.mh hq⟩, q _ M1 H1 g fun M H i hm hh => ⟨fun d hd => ?_, fun hi => ⟨vs, same_sqt hh (same_sqt hm hq), by rw [rs.len]; exact hi⟩⟩⟩
    obtain ⟨w, e1, r1⟩ := rs.get hd
    have hs := same_sqt hh (same_sqt hm hq)
    refine ⟨⟨vs, w, hs, e1⟩, fun x H' y => ?_⟩
    obtain ⟨e2, y⟩ := y
    subst e2
    have e3 : w = x := Option.some.inj (e1.symm.trans (y vs hs))
    subst e3
    exact ⟨M, .refl hh, Rep.mono hm _ _ r1⟩) fun _ z => z)⟩
/-- lo, lo + 1, .. below hi -/
def irange (lo hi : Int) : List Int := (List.range (hi - lo).toNat).map fun i : Nat => lo + (i : Int)
theorem irange_get {lo hi : Int} {i : Nat} {x : Int} (h : (irange lo hi)[i]? = some x) : i < (hi - lo).toNat ∧ x = lo + i := by
  unfold irange at h
  rw [List.getElem?_map] at h
  by_cases c : i < (hi - lo).toNat
  · rw [List.getElem?_range c] at h
    exact ⟨c, (Option.some.inj h).symm⟩
  · rw [List.getElem?_eq_none (by simpa using c)] at h; cases h
theorem irange_len {lo hi : Int} : (irange lo hi).length = (hi - lo).toNat := by unfold irange; simp
theorem it_range {G : Ctx} {lo hi : Int} {M1 : Hp} : ItD G (Itr lo (hi - lo).toNat) ((irange lo hi).map D.int) M1 := fun M H i hm hh => ⟨fun d hd => by
  rw [List.getElem?_map] at hd
  cases e : (irange lo hi)[i]? with
  | none => rw [e] at hd; cases hd
  | some x =>
    rw [e] at hd
    obtain ⟨h1, h2⟩ := irange_get e
    have hd' : D.int x = d := Option.some.inj hd
    subst hd'
    refine ⟨h1, fun y H' q => ?_⟩
    obtain ⟨e1, e2⟩ := q
    subst e1; subst e2
    exact ⟨M, .refl hh, by rw [h2]; rfl⟩, fun hi => by rw [List.length_map, irange_len] at hi; exact hi⟩
noncomputable def small (i : Int) : Bool := @decide (-(2 ^ 62) ≤ i ∧ i < 2 ^ 62) (Classical.propDecidable _)
noncomputable def rangeO (lo hi : Int) : Option (List Int) := if small lo && small hi then some (irange lo hi) else none
theorem small_iff {i : Int} : small i = true ↔ -(2 ^ 62) ≤ i ∧ i < 2 ^ 62 := @decide_eq_true_iff _ (Classical.propDecidable _)
theorem rangeO_some {lo hi : Int} {x : List Int} (h : rangeO lo hi = some x) : (-(2 ^ 62) ≤ lo ∧ lo < 2 ^ 62 ∧ -(2 ^ 62) ≤ hi ∧ hi < 2 ^ 62) ∧ x = irange lo hi := by
  unfold rangeO at h
  cases c : (small lo && small hi) with
  | false => rw [c] at h; cases h
  | true =>
    rw [c] at h
    rw [Bool.and_eq_true] at c
    obtain ⟨h1, h2⟩ := c
    have h1 := small_iff.mp h1
    have h2 := small_iff.mp h2
    exact ⟨⟨h1.1, h1.2, h2.1, h2.2⟩, (Option.some.inj h).symm⟩
theorem di_range1 {m : R Int} {p : Pos} (h : DD X W Γ a D.int m) (hm : X.mg "range" = none) (hg : Gl X "range" := by rfl) (hs : starEach [a] X.env = [(false, eval a X.env)] := by exact star_one rfl) :
    DI X W Γ tg (.Call (.Name "range" p) [a] [] pos) (fun xs => xs.map D.int) (m >>= fun n => ofO (rangeO 0 n)) :=
  imk ⟨_, pi_range1 hg hm (pa_w X [a]) hs, fun F M0 M H σ Q s po => by
    have hA := da_cons h da_nil (hs := hs)
    refine hA F M0 M H σ _ s ?_
    have z : (m >>= fun x => (R.ok ()) >>= fun y => R.ok (x, y)) = m >>= fun x => R.ok (x, ()) := rfl
    rw [z]
    cases m with
    | bad => exact po
    | err c => exact po
    | ok n =>
      have po : Po (ofO (rangeO 0 n)) _ _ := po
      obtain ⟨xs, e, k⟩ := po.ofO
      obtain ⟨⟨_, _, h3, h4⟩, rfl⟩ := rangeO_some e
      intro vs M1 H1 g r
      obtain ⟨v, r', rfl, r1, r2⟩ := r
      rw [show r' = [] from r2, show v = .int n from r1]
      refine ⟨n, rfl, h3, h4, ?_⟩
      have q := k (Itr 0 (n - 0).toNat) M1 H1 g it_range
      rw [Int.sub_zero] at q
      exact q⟩
theorem di_range2 {m k : R Int} {p : Pos} (h : DD X W Γ a D.int m) (h' : DD X W Γ b D.int k) (hm : X.mg "range" = none) (hg : Gl X "range" := by rfl) (hs : starEach [a, b] X.env = [(false, eval a X.env), (false, eval b X.env)] := by rfl) (hs2 : starEach [b] X.env = [(false, eval b X.env)] := by exact star_one rfl) :
    DI X W Γ tg (.Call (.Name "range" p) [a, b] [] pos) (fun xs => xs.map D.int) (m >>= fun lo => k >>= fun hi => ofO (rangeO lo hi)) :=
  imk ⟨_, pi_range2 hg hm (pa_w X [a, b]) hs hs2, fun F M0 M H σ Q s po => by
    have hA := da_cons h (da_cons h' da_nil (hs := hs2)) (hs := by rw [hs, hs2])
    refine hA F M0 M H σ _ s ?_
    cases m with
    | bad => exact po
    | err c => exact po
    | ok lo =>
      cases k with
      | bad => exact po
      | err c => exact po
      | ok hi =>
        have po : Po (ofO (rangeO lo hi)) _ _ := po
        obtain ⟨xs, e, k⟩ := po.ofO
        obtain ⟨hb, rfl⟩ := rangeO_some e
        intro vs M1 H1 g r
        obtain ⟨v, r', rfl, r1, w, r'', rfl, r2, r3⟩ := r
        rw [show r'' = [] from r3, show v = .int lo from r1, show w = .int hi from r2]
        exact ⟨lo, hi, rfl, hb, k _ M1 H1 g it_range⟩⟩
/-! ### targets -/
def DG (X : Cx) (Γ : List Sl) (tg : Expr) (put : List Sl) (d : D) : Prop := ∀ F M0 M H σ v Q, S X.G F M0 M H σ Γ → Rep X.G M d v → (∀ M' H' σ', Same M M' → S X.G F M0 M' H' σ' put → Q σ' H') → wG X tg v σ H Q
theorem dg_name {n : Str} {d : D} (i : Nat) (hN : X.N.Nodup) (hi : X.N[i]? = some n := by rfl) (hl : Nat.blt i Γ.length = true := by rfl) (hx : Loc X.env.scope n := by first | exact Or.inl rfl | exact Or.inr rfl) (hf : X.fn n = true ∨ X.env.scope.names.lookup n = some .local := by first | exact .inl rfl | exact .inr rfl) :
    DG X Γ (.Name n pos) (Γ.set i (.ow (.imm d))) d := fun F M0 M H σ v Q s r q pins sh u I rv => by
  have p := pg_name (pos := pos) hN hi hx hf
  exact p.run pins sh σ H v u Q I rv (q M H _ (.refl _) (s.put (.refl s.mh) (show Own X.G M H (.imm d) v [] from ⟨rfl, r⟩) List.nodup_nil (fun _ z => nomatch z) (Nat.le_of_ble_eq_true hl)))
/-! ### loops -/
inductive Lo (S ω : Type) where
  | nx (s : S)
  | bk (s : S)
  | ex (o : ω)
def forX {α S ω : Type} (f : α → S → R (Lo S ω)) : List α → S → R (S ⊕ ω)
  | [], s => .ok (.inl s)
  | x :: xs, s => f x s >>= fun o => match o with
    | .nx s => forX f xs s
    | .bk s => .ok (.inl s)
    | .ex o => .ok (.inr o)
/-- a loop that is left at its end alone -/
def forS {α S : Type} (f : α → S → R S) : List α → S → R S
  | [], s => .ok s
  | x :: xs, s => f x s >>= fun s => forS f xs s
theorem forX_S {α S ω : Type} {f : α → S → R S} : ∀ (xs : List α) (s : S), forX (ω := ω) (fun x s => f x s >>= fun s => .ok (.nx s)) xs s = forS f xs s >>= fun s => .ok (.inl s)
  | [], s => rfl
  | x :: xs, s => by
    show ((f x s >>= fun s => .ok (Lo.nx s)) >>= _) = (f x s >>= fun s => forS f xs s) >>= _
    cases f x s with
    | bad => rfl
    | err c => rfl
    | ok s => exact forX_S xs s
def kLo {S ω : Type} (Γs : S → List Sl) (κ : ω → Kd) : Lo S ω → Kd
  | .nx s => { nx := some (Γs s), ct := some (Γs s) }
  | .bk s => { bk := some (Γs s) }
  | .ex o => (κ o).rr
theorem st_for {σs : Type} {Γs : σs → List Sl} {ei : α → D} {mi : R (List α)} {mb : α → σs → R (Lo σs ω)} {κ : ω → Kd} {put : α → σs → List Sl} {iter : Expr} {body : List Stmt} (s0 : σs) (hp : PassesOwn (model X.prog X.w) X.A X.env X.xe) (hc : X.calm = true)
    (hi : DI X W Γ tg iter (fun xs => xs.map ei) mi) (hg : ∀ s x, DG X (Γs s) tg (put x s) (ei x)) (hb : ∀ s x, Bk X W Γe (put x s) body (kLo Γs κ) (mb x s)) (h0 : Wk (Γs s0) Γ) (hw : Wk Γe Γ)
    (hs : ∀ x, foldedSetIterable iter X.env x = pure x := by intro _; rfl) : St1 X W Γe Γ (.For tg iter body [] pos) (kSum (fun s => .n (Γs s)) fun o => (κ o).rr) (mi >>= fun xs => forX mb xs s0) :=
  smk ⟨_, ps_for hp hc (pi_w X iter tg) (pg_w X tg) (pss_w X body) hs, fun F M0 M H σ D st po => by
    refine hi F M0 M H σ _ st (po.bind.imp (fun xs _ k J M1 H1 g1 it => ?_) fun c z => er_wk st hw z)
    have st1 := (st.grow g1)
    obtain ⟨b1, b2⟩ := st1.rel
    refine ⟨fun i m σ H => m = xs.length - i ∧ i ≤ xs.length ∧ ∃ M s, S X.G F M1 M H σ (Γs s) ∧ Po (forX mb (xs.drop i) s) (fun o => Kn X.G F M0 D (kSum (fun s => .n (Γs s)) (fun o => (κ o).rr) o)) (fun c => ∀ M' H' σ', S X.G F M0 M' H' σ' Γe → Er X.G W c σ' H'),
      ⟨xs.length, by simp, Nat.zero_le _, M1, s0, (st1.wk h0).base_in (.refl _) b1, k⟩, ?_⟩
    rintro i m σ H ⟨rfl, hi, M2, s, s2, k⟩
    have hm : Same M1 M2 := s2.rel.1
    obtain ⟨h1, h2⟩ := it M2 H i hm s2.mh
    by_cases hlt : i < xs.length
    · have ex : xs[i]? = some xs[i] := List.getElem?_eq_getElem hlt
      have ed : (xs.map ei)[i]? = some (ei xs[i]) := by rw [List.getElem?_map, ex]; rfl
      obtain ⟨go, yl⟩ := h1 _ ed
      rw [List.drop_eq_getElem_cons hlt] at k
      have k := Po.bind (m := mb xs[i] s) k
      refine .inr ⟨go, fun σ' H' => ∃ M s, S X.G F M1 M H' σ' (Γs s) ∧ Po (forX mb (xs.drop (i + 1)) s) (fun o => Kn X.G F M0 D (kSum (fun s => .n (Γs s)) (fun o => (κ o).rr) o)) (fun c => ∀ M' H' σ', S X.G F M0 M' H' σ' Γe → Er X.G W c σ' H'),
        fun σ' H' ⟨M, s, q1, q2⟩ => ⟨xs.length - (i + 1), by omega, rfl, hlt, M, s, q1, q2⟩, fun x H' y => ?_⟩
      obtain ⟨M3, g3, r3⟩ := yl x H' y
      refine hg s xs[i] F M1 M3 H' σ x _ (s2.grow g3) r3 fun M4 H4 σ4 _ s4 => ?_
      refine hb s xs[i] F M1 M4 H4 σ4 _ s4 (k.imp (fun o _ k => ?_) fun c z M' H' σ' st => z M' H' σ' (st.base_out b1 b2))
      cases o with
      | nx s' =>
        have k : Po (forX mb (xs.drop (i + 1)) s') _ _ := k
        exact ⟨fun Γ e M H σ st => ⟨M, s', by cases e; exact st, k⟩, fun t Γ e => (nomatch e), fun Γ e => (nomatch e), fun Γ e M H σ st => ⟨M, s', by cases e; exact st, k⟩⟩
      | bk s' =>
        have k : Kn X.G F M0 D (.n (Γs s')) := k
        exact ⟨fun Γ e => (nomatch e), fun t Γ e => (nomatch e), fun Γ e M H σ st => k.nx Γ e M H σ (st.base_out b1 b2), fun Γ e => (nomatch e)⟩
      | ex o =>
        have k : Kn X.G F M0 D (κ o).rr := k
        exact ⟨fun Γ e => (nomatch e), fun t Γ e M H σ v st => k.rt t Γ e M H σ v (st.base_out b1 b2), fun Γ e => (nomatch e), fun Γ e => (nomatch e)⟩
    · have e : xs.drop i = [] := List.drop_eq_nil_of_le (by omega)
      rw [e] at k
      have k : Kn X.G F M0 D (.n (Γs s)) := k
      exact .inl ⟨h2 (by rw [List.length_map]; omega), k.nx _ rfl M2 H σ (s2.base_out b1 b2)⟩⟩
theorem st_forS {σs : Type} {Γs : σs → List Sl} {ei : α → D} {mi : R (List α)} {mb : α → σs → R σs} {put : α → σs → List Sl} {iter : Expr} {body : List Stmt} (s0 : σs) (hp : PassesOwn (model X.prog X.w) X.A X.env X.xe) (hc : X.calm = true)
    (hi : DI X W Γ tg iter (fun xs => xs.map ei) mi) (hg : ∀ s x, DG X (Γs s) tg (put x s) (ei x)) (hb : ∀ s x, Bk X W Γe (put x s) body (fun s => { nx := some (Γs s), ct := some (Γs s) }) (mb x s)) (h0 : Wk (Γs s0) Γ) (hw : Wk Γe Γ)
    (hs : ∀ x, foldedSetIterable iter X.env x = pure x := by intro _; rfl) : St1 X W Γe Γ (.For tg iter body [] pos) (fun s => .n (Γs s)) (mi >>= fun xs => forS mb xs s0) := ⟨fun F M0 M H σ D st po => by
  have h := st_for (κ := fun (o : Empty) => nomatch o) (pos := pos) (mb := fun x s => mb x s >>= fun s => .ok (.nx s)) s0 hp hc hi hg (fun s x => bk_map (κ' := kLo Γs _) (g := Lo.nx) (hb s x) fun o => ⟨rfl, .inr rfl, .inr rfl, .inr rfl⟩) h0 hw hs
  refine h F M0 M H σ D st ?_
  cases mi with
  | bad => exact po
  | err c => exact po
  | ok xs =>
    show Po (forX _ xs s0) _ _
    rw [forX_S]
    have po : Po (forS mb xs s0) _ _ := po
    revert po
    cases forS mb xs s0 with
    | bad => exact id
    | err c => exact id
    | ok s => exact id⟩
def whileN {S ω : Type} (mc : S → R Bool) (mb : S → R (Lo S ω)) : Nat → S → R (S ⊕ ω)
  | 0, _ => .bad
  | n + 1, s => mc s >>= fun b => if b then (mb s >>= fun o => match o with
    | .nx s => whileN mc mb n s
    | .bk s => .ok (.inl s)
    | .ex o => .ok (.inr o)) else .ok (.inl s)
theorem whileN_succ {S ω : Type} {mc : S → R Bool} {mb : S → R (Lo S ω)} {n : Nat} {s : S} : whileN mc mb (n + 1) s = (mc s >>= fun b => if b then (mb s >>= fun o => match o with
    | .nx s => whileN mc mb n s
    | .bk s => .ok (.inl s)
    | .ex o => .ok (.inr o)) else .ok (.inl s)) := rfl
open Classical in
noncomputable def whileX {S ω : Type} (mc : S → R Bool) (mb : S → R (Lo S ω)) (s : S) : R (S ⊕ ω) := if h : ∃ n, whileN mc mb n s ≠ .bad then whileN mc mb h.choose s else .bad
theorem whileN_mono {S ω : Type} {mc : S → R Bool} {mb : S → R (Lo S ω)} : ∀ (n : Nat) (s : S), whileN mc mb n s ≠ .bad → whileN mc mb (n + 1) s = whileN mc mb n s
  | 0, s, h => absurd rfl h
  | n + 1, s, h => by
    have e1 : whileN mc mb (n + 1) s = (mc s >>= fun b => if b then (mb s >>= fun o => match o with
      | .nx s => whileN mc mb n s
      | .bk s => .ok (.inl s)
      | .ex o => .ok (.inr o)) else .ok (.inl s)) := rfl
    have e2 : whileN mc mb (n + 1 + 1) s = (mc s >>= fun b => if b then (mb s >>= fun o => match o with
      | .nx s => whileN mc mb (n + 1) s
      | .bk s => .ok (.inl s)
      | .ex o => .ok (.inr o)) else .ok (.inl s)) := rfl
    rw [e1] at h ⊢
    rw [e2]
    cases hc : mc s with
    | bad => rfl
    | err c => rfl
    | ok b =>
      cases b with
      | false => rfl
      | true =>
        rw [hc] at h
        cases hb : mb s with
        | bad => rfl
        | err c => rfl
        | ok o =>
          rw [hb] at h
          cases o with
          | nx s' => exact whileN_mono n s' h
          | bk s' => rfl
          | ex o => rfl
theorem whileN_ge {S ω : Type} {mc : S → R Bool} {mb : S → R (Lo S ω)} {n : Nat} {s : S} (h : whileN mc mb n s ≠ .bad) : ∀ k, whileN mc mb (n + k) s = whileN mc mb n s
  | 0 => rfl
  | k + 1 => by
    have ih := whileN_ge h k
    rw [← ih, ← Nat.add_assoc]
    exact whileN_mono _ _ (by rw [ih]; exact h)
theorem whileX_of {S ω : Type} {mc : S → R Bool} {mb : S → R (Lo S ω)} {n : Nat} {s : S} (h : whileN mc mb n s ≠ .bad) : whileX mc mb s = whileN mc mb n s := by
  unfold whileX
  have hx : ∃ n, whileN mc mb n s ≠ .bad := ⟨n, h⟩
  rw [dif_pos hx]
  rcases Nat.le_total n hx.choose with q | q
  · have := whileN_ge h (hx.choose - n)
    rw [show n + (hx.choose - n) = hx.choose by omega] at this
    exact this
  · have := whileN_ge hx.choose_spec (n - hx.choose)
    rw [show hx.choose + (n - hx.choose) = n by omega] at this
    exact this.symm
theorem whileX_ne {S ω : Type} {mc : S → R Bool} {mb : S → R (Lo S ω)} {s : S} (h : whileX mc mb s ≠ .bad) : ∃ n, whileN mc mb n s = whileX mc mb s := by
  by_cases hx : ∃ n, whileN mc mb n s ≠ .bad
  · obtain ⟨n, q⟩ := hx
    exact ⟨n, (whileX_of q).symm⟩
  · unfold whileX at h
    rw [dif_neg hx] at h
    exact absurd rfl h
theorem whileX_eq {S ω : Type} (mc : S → R Bool) (mb : S → R (Lo S ω)) (s : S) : whileX mc mb s = mc s >>= fun b => if b then (mb s >>= fun o => match o with
    | .nx s => whileX mc mb s
    | .bk s => .ok (.inl s)
    | .ex o => .ok (.inr o)) else .ok (.inl s) := by
  have key : ∀ n, whileN mc mb (n + 1) s = mc s >>= fun b => if b then (mb s >>= fun o => match o with
      | .nx s => whileN mc mb n s
      | .bk s => .ok (.inl s)
      | .ex o => .ok (.inr o)) else .ok (.inl s) := fun n => rfl
  cases hc : mc s with
  | bad =>
    show _ = R.bad
    by_cases hx : ∃ n, whileN mc mb n s ≠ .bad
    · obtain ⟨n, q⟩ := hx
      cases n with
      | zero => exact absurd rfl q
      | succ n => rw [key n, hc] at q; exact absurd rfl q
    · unfold whileX; rw [dif_neg hx]
  | err c =>
    have q : whileN mc mb (0 + 1) s = .err c := by rw [key 0, hc]; rfl
    rw [whileX_of (n := 0 + 1) (by rw [q]; exact fun z => nomatch z), q]; rfl
  | ok b =>
    cases b with
    | false =>
      have q : whileN mc mb (0 + 1) s = .ok (.inl s) := by rw [key 0, hc]; rfl
      rw [whileX_of (n := 0 + 1) (by rw [q]; exact fun z => nomatch z), q]; rfl
    | true =>
      show _ = (mb s >>= fun o => match o with
        | .nx s => whileX mc mb s
        | .bk s => .ok (.inl s)
        | .ex o => .ok (.inr o))
      have key2 : ∀ n, whileN mc mb (n + 1) s = mb s >>= fun o => match o with
          | .nx s => whileN mc mb n s
          | .bk s => .ok (.inl s)
          | .ex o => .ok (.inr o) := fun n => by rw [key n, hc]; rfl
      cases hb : mb s with
      | bad =>
        show _ = R.bad
        by_cases hx : ∃ n, whileN mc mb n s ≠ .bad
        · obtain ⟨n, q⟩ := hx
          cases n with
          | zero => exact absurd rfl q
          | succ n => rw [key2 n, hb] at q; exact absurd rfl q
        · unfold whileX; rw [dif_neg hx]
      | err c =>
        have q : whileN mc mb (0 + 1) s = .err c := by rw [key2 0, hb]; rfl
        rw [whileX_of (n := 0 + 1) (by rw [q]; exact fun z => nomatch z), q]; rfl
      | ok o =>
        cases o with
        | bk s' =>
          have q : whileN mc mb (0 + 1) s = .ok (.inl s') := by rw [key2 0, hb]; rfl
          rw [whileX_of (n := 0 + 1) (by rw [q]; exact fun z => nomatch z), q]; rfl
        | ex o =>
          have q : whileN mc mb (0 + 1) s = .ok (.inr o) := by rw [key2 0, hb]; rfl
          rw [whileX_of (n := 0 + 1) (by rw [q]; exact fun z => nomatch z), q]; rfl
        | nx s' =>
          show _ = whileX mc mb s'
          have key3 : ∀ n, whileN mc mb (n + 1) s = whileN mc mb n s' := fun n => by rw [key2 n, hb]; rfl
          by_cases hx : ∃ n, whileN mc mb n s' ≠ .bad
          · obtain ⟨n, q⟩ := hx
            rw [whileX_of q, whileX_of (n := n + 1) (by rw [key3]; exact q), key3]
          · have hy : ¬ ∃ n, whileN mc mb n s ≠ .bad := fun ⟨n, q⟩ => by
              cases n with
              | zero => exact q rfl
              | succ n => rw [key3] at q; exact hx ⟨n, q⟩
            unfold whileX
            rw [dif_neg hx, dif_neg hy]
theorem st_while {σs : Type} {Γs : σs → List Sl} {mc : σs → R Bool} {mb : σs → R (Lo σs ω)} {κ : ω → Kd} {body : List Stmt} (s0 : σs) (hp : PassesOwn (model X.prog X.w) X.A X.env X.xe)
    (hc : ∀ s, DT X W (Γs s) c (mc s)) (hb : ∀ s, Bk X W Γe (Γs s) body (kLo Γs κ) (mb s)) (h0 : Wk (Γs s0) Γ) (hw : ∀ s, Wk Γe (Γs s)) : St1 X W Γe Γ (.While c body [] pos) (kSum (fun s => .n (Γs s)) fun o => (κ o).rr) (whileX mc mb s0) :=
  smk ⟨_, ps_while hp (pt_w X c) (pss_w X body), fun F M0 M H σ D st po => by
    have hne : whileX mc mb s0 ≠ .bad := fun z => by rw [z] at po; exact po
    obtain ⟨n, en⟩ := whileX_ne hne
    rw [← en] at po
    refine ⟨fun m σ H => ∃ M s, S X.G F M0 M H σ (Γs s) ∧ Po (whileN mc mb m s) (fun o => Kn X.G F M0 D (kSum (fun s => .n (Γs s)) (fun o => (κ o).rr) o)) (fun c => ∀ M' H' σ', S X.G F M0 M' H' σ' Γe → Er X.G W c σ' H'),
      ⟨n, M, s0, st.wk h0, po⟩, ?_⟩
    rintro m σ H ⟨M2, s, s2, k⟩
    cases m with
    | zero => exact k.elim
    | succ m =>
      rw [whileN_succ] at k
      refine hc s F M0 M2 H σ _ s2 (k.bind.imp (fun b _ k M3 H3 g3 => ?_) fun c z => er_wk s2 (hw s) z)
      cases b with
      | false =>
        have k : Kn X.G F M0 D (.n (Γs s)) := k
        exact k.nx _ rfl M3 H3 σ (s2.grow g3)
      | true =>
        rw [if_pos rfl] at k
        refine ⟨fun σ' H' => ∃ M s, S X.G F M0 M H' σ' (Γs s) ∧ Po (whileN mc mb m s) (fun o => Kn X.G F M0 D (kSum (fun s => .n (Γs s)) (fun o => (κ o).rr) o)) (fun c => ∀ M' H' σ', S X.G F M0 M' H' σ' Γe → Er X.G W c σ' H'),
          fun σ' H' q => ⟨m, Nat.lt_succ_self m, q⟩, ?_⟩
        refine hb s F M0 M3 H3 σ _ (s2.grow g3) (k.bind.imp (fun o _ k => ?_) fun c z => z)
        cases o with
        | nx s' =>
          have k : Po (whileN mc mb m s') _ _ := k
          exact ⟨fun Γ e M H σ st => ⟨M, s', by cases e; exact st, k⟩, fun t Γ e => (nomatch e), fun Γ e => (nomatch e), fun Γ e M H σ st => ⟨M, s', by cases e; exact st, k⟩⟩
        | bk s' =>
          have k : Kn X.G F M0 D (.n (Γs s')) := k
          exact ⟨fun Γ e => (nomatch e), fun t Γ e => (nomatch e), fun Γ e M H σ st => k.nx Γ e M H σ st, fun Γ e => (nomatch e)⟩
        | ex o =>
          have k : Kn X.G F M0 D (κ o).rr := k
          exact ⟨fun Γ e => (nomatch e), fun t Γ e M H σ v st => k.rt t Γ e M H σ v st, fun Γ e => (nomatch e), fun Γ e => (nomatch e)⟩⟩
/-- a while that is left at its test alone -/
noncomputable def whileS {S : Type} (mc : S → R Bool) (mb : S → R S) (s : S) : R S := whileX (ω := Empty) mc (fun s => mb s >>= fun s => .ok (.nx s)) s >>= fun o => match o with
  | .inl s => .ok s
  | .inr o => nomatch o
theorem whileS_eq {S : Type} (mc : S → R Bool) (mb : S → R S) (s : S) : whileS mc mb s = mc s >>= fun b => if b then (mb s >>= fun s => whileS mc mb s) else .ok s := by
  unfold whileS
  rw [whileX_eq]
  cases mc s with
  | bad => rfl
  | err c => rfl
  | ok b =>
    cases b with
    | false => rfl
    | true =>
      show ((mb s >>= fun s => .ok (Lo.nx s)) >>= _) >>= _ = mb s >>= _
      cases mb s with
      | bad => rfl
      | err c => rfl
      | ok s => rfl
theorem st_whileS {σs : Type} {Γs : σs → List Sl} {mc : σs → R Bool} {mb : σs → R σs} {body : List Stmt} (s0 : σs) (hp : PassesOwn (model X.prog X.w) X.A X.env X.xe)
    (hc : ∀ s, DT X W (Γs s) c (mc s)) (hb : ∀ s, Bk X W Γe (Γs s) body (fun s => { nx := some (Γs s), ct := some (Γs s) }) (mb s)) (h0 : Wk (Γs s0) Γ) (hw : ∀ s, Wk Γe (Γs s)) : St1 X W Γe Γ (.While c body [] pos) (fun s => .n (Γs s)) (whileS mc mb s0) := ⟨fun F M0 M H σ D st po => by
  have h := st_while (κ := fun (o : Empty) => nomatch o) (pos := pos) (mb := fun s => mb s >>= fun s => .ok (.nx s)) s0 hp hc (fun s => bk_map (κ' := kLo Γs _) (g := Lo.nx) (hb s) fun o => ⟨rfl, .inr rfl, .inr rfl, .inr rfl⟩) h0 hw
  refine h F M0 M H σ D st ?_
  unfold whileS at po
  revert po
  cases whileX mc (fun s => mb s >>= fun s => R.ok (Lo.nx (ω := Empty) s)) s0 with
  | bad => exact id
  | err c => exact id
  | ok o =>
    cases o with
    | inl s => exact id
    | inr o => exact nomatch o⟩
end
/-! ### a def -/
section
variable {P : Program} {w : World} {K : PySem.W.Frag} {mg : Str → Option Value} {base : Heap}
theorem Reps.sat {G : Ctx} {F M H : Hp} : ∀ {ds : List D} {vs : List V}, Reps G M ds vs → Sat G F M H (ds.map fun d => .ow (.imm d)) (vs.map some) []
  | [], vs, h => by rw [show vs = [] from h]; exact ⟨rfl, rfl⟩
  | d :: ds, vs, ⟨v, r, h1, h2, h3⟩ => ⟨v, r.map some, [], [], by rw [h1]; rfl, rfl, ⟨rfl, h2⟩, Reps.sat h3⟩
theorem Sat.app {G : Ctx} {F M H : Hp} : ∀ {Γ Γ' : List Sl} {σ σ' : St} {as bs : List Addr}, Sat G F M H Γ σ as → Sat G F M H Γ' σ' bs → Sat G F M H (Γ ++ Γ') (σ ++ σ') (as ++ bs)
  | [], Γ', σ, σ', as, bs, ⟨h1, h2⟩, k => by rw [h1, h2]; exact k
  | .un :: Γ, Γ', σ, σ', as, bs, ⟨x, r, h1, h2⟩, k => ⟨x, r ++ σ', by rw [h1]; rfl, Sat.app h2 k⟩
  | .ow t :: Γ, Γ', σ, σ', as, bs, ⟨v, r, a1, a2, h1, h2, h3, h4⟩, k => ⟨v, r ++ σ', a1, a2 ++ bs, by rw [h1]; rfl, by rw [h2, List.append_assoc], h3, Sat.app h4 k⟩
  | .pn v t :: Γ, Γ', σ, σ', as, bs, ⟨r, a1, a2, h1, h2, h3, h4⟩, k => ⟨r ++ σ', a1, a2 ++ bs, by rw [h1]; rfl, by rw [h2, List.append_assoc], h3, Sat.app h4 k⟩
  | .lk t :: Γ, Γ', σ, σ', as, bs, ⟨v, r, a0, h1, h2, h3⟩, k => ⟨v, r ++ σ', a0, by rw [h1]; rfl, h2, Sat.app h3 k⟩
theorem Sat.uns {G : Ctx} {F M H : Hp} : ∀ (n : Nat), Sat G F M H (List.replicate n .un) (List.replicate n none) []
  | 0 => ⟨rfl, rfl⟩
  | n + 1 => ⟨none, List.replicate n none, rfl, Sat.uns n⟩
/-- how a def's end is said: it hands back f a, or falls off its end with None -/
def kRet {ρ : Type} (er : ρ → T) (n : Nat) (r : ρ) : Kd := { rt := some (er r, List.replicate n .un) }
def kRetN {ρ : Type} (er : ρ → T) (n : Nat) (r : ρ) : Kd := { rt := some (er r, List.replicate n .un), nx := some (List.replicate n .un) }
/-- THE RULE of a def that changes nothing -/
theorem fn_pure {x qual : Str} {st : Stmt} {f : Addr} {fd : FuncData} {N ps : List Str} {k : Nat} {α ρ : Type} {args : α → List D} {er : ρ → T} {g : α → R ρ} (F : Fun K x qual st f fd) (Sc : FnScope N ps (defScope st))
    (hl : ∀ a, (args a).length = ps.length)
    (hb : ∀ (cdv : Value) (A : Around) (outer : List Env) (s : Shared) (H : Hp) (E : XK), Room k (A.deeper (PyProof.Rows.envOfC qual (defScope st) s.heap.objs.size f cdv)) → ∀ a,
      Bk (cxOf (L2.CX P w) P w K mg base N qual (defScope st) f cdv A outer s H E) (fun cls d _ H => E cls d H) (List.replicate N.length .un) ((args a).map (fun d => .ow (.imm d)) ++ List.replicate (N.length - ps.length) .un) (defBody st) (kRet er N.length) (g a)) :
    FnOk P w K mg base (L2.CX P w) (k + 1) f fd ps (SpF ⟨K, mg⟩ args er g) := by
  refine F.okX Sc (fun vs H Q E h => ?_) (fun cdv A outer s H vs Q E hr h => ?_)
  · obtain ⟨a, M, _, r, _⟩ := h
    rw [r.len, hl]
  · obtain ⟨a, M, mh, r, po⟩ := h
    refine ⟨_, pss_w _ _, hb cdv A outer s H E hr a H M M H _ _ ?_ ?_⟩
    · refine ⟨[], ⟨.refl _, .refl _, mh, fun _ z => .inl z, List.nodup_nil, (fun _ z => nomatch z), fun _ z => nomatch z⟩, ?_⟩
      have e : vs.length = ps.length := by rw [r.len, hl]
      unfold L2.start
      rw [e]
      exact Sat.app (as := []) (bs := []) r.sat (Sat.uns _)
    · refine po.imp (fun x _ q => ⟨fun Γ e => (nomatch e), fun t Γ e M' H' σ v st => ?_, fun Γ e => (nomatch e), fun Γ e => (nomatch e)⟩) fun c z M' H' σ' st C hC => z M' H' ⟨st.fh, st.rel.1, st.mh, st.rel.2⟩ C hC
      have e' : (er x, List.replicate N.length Sl.un) = (t, Γ) := Option.some.inj e
      obtain ⟨e1, e2⟩ := Prod.mk.inj e'
      subst e1; subst e2
      obtain ⟨as, f, ⟨v', r', a1, a2, z1, z2, z3, z4⟩⟩ := st
      obtain ⟨z5, z6⟩ := List.cons.inj z1
      cases z5
      subst z2
      have nd := f.nd
      rw [List.nodup_append] at nd
      exact q v M' H' a1 ⟨f.fh, f.mm, f.mh, f.nw⟩ z3 nd.1 fun b hb => ⟨f.fa b (List.mem_append_left _ hb), f.ma b (List.mem_append_left _ hb)⟩
end
end Cn
/-! Cn5: lists and tuples -/
namespace Cn
open PySem PySem.Spec L2
/-! ### lists that are read -/
abbrev DL (X : Cx) (W : WX) (Γ : List Sl) (e : Expr) {α : Type} (emb : α → List D) (m : R α) : Prop :=
  JQ X Γ (wE X e) fun F M0 M H σ Q => Po m (fun x => ∀ a vs M' H', Gr M H M' H' → SqL X.K H' a vs → Reps X.G M' (emb x) vs → Q (.ref a) H') (fun c => ∀ M' H', Gr M H M' H' → Er X.G W c σ H')
/-- .. a list of the program's run -/
abbrev DLt (X : Cx) (W : WX) (Γ : List Sl) (e : Expr) {α : Type} (emb : α → List D) (m : R α) : Prop :=
  JQ X Γ (wE X e) fun F M0 M H σ Q => Po m (fun x => ∀ a vs M' H', Gr M H M' H' → H' a = some (.lst vs) → Reps X.G M' (emb x) vs → Q (.ref a) H') (fun c => ∀ M' H', Gr M H M' H' → Er X.G W c σ H')
section
variable {X : Cx} {W : WX} {Γe Γ : List Sl} {a b e c tg : Expr} {es : List Expr} {α β γ ω ω1 : Type} {pos : Pos}
theorem dl_t {emb : α → List D} {m : R α} (h : DLt X W Γ e emb m) : DL X W Γ e emb m := ⟨fun F M0 M H σ Q s po => h F M0 M H σ Q s (po.imp (fun x _ k a vs M' H' g hl r => k a vs M' H' g (.of hl) r) fun _ z => z)⟩
theorem dt_lst' {emb : α → List D} {m : R α} (h : DD X W Γ e (fun x => .lst (emb x)) m) : DLt X W Γ e emb m := ⟨fun F M0 M H σ Q s po => h F M0 M H σ Q s (po.imp (fun x _ k v M' H' g r => by
  obtain ⟨a, vs, rfl, h1, h2⟩ := r
  exact k a vs M' H' g (g.mh _ _ h1) h2) fun _ z => z)⟩
theorem dlt_imm {ei : β → D} {m : R (List β)} (h : DD X W Γ e (fun xs => .lst (xs.map ei)) m) : DLt X W Γ e (fun xs => xs.map ei) m := dt_lst' h
theorem dl_frl {ei : β → D} {m : R (List β)} (h : DD X W Γ e (fun xs => .frl (xs.map ei)) m) : DL X W Γ e (fun xs => xs.map ei) m := ⟨fun F M0 M H σ Q s po => h F M0 M H σ Q s (po.imp (fun x _ k v M' H' g r => by
  obtain ⟨a, vs, rfl, h1, h2⟩ := r
  exact k a vs M' H' g (g.mh.seq h1) h2) fun _ z => z)⟩
theorem dl_imm {ei : β → D} {m : R (List β)} (h : DD X W Γ e (fun xs => .lst (xs.map ei)) m) : DL X W Γ e (fun xs => xs.map ei) m := dl_t (dlt_imm h)
theorem map_imm {ε : β → D} (xs : List β) : (xs.map fun x => T.imm (ε x)) = (xs.map ε).map .imm := by rw [List.map_map]; rfl
theorem dlt_own {ei : β → D} {m : R (List β)} (h : DB X W Γ e (fun xs => .lst (xs.map fun x => .imm (ei x))) m) : DLt X W Γ e (fun xs => xs.map ei) m := ⟨fun F M0 M H σ Q s po => h F M0 M H σ Q s (po.imp (fun x _ k v M' H' as g o => by
  obtain ⟨a, vs, r, rfl, h1, h2, h3⟩ := o
  rw [map_imm] at h3
  exact k a vs M' H' g h2 (Owns.of_imm h3).1) fun _ z => z)⟩
theorem dl_own {ei : β → D} {m : R (List β)} (h : DB X W Γ e (fun xs => .lst (xs.map fun x => .imm (ei x))) m) : DL X W Γ e (fun xs => xs.map ei) m := dl_t (dlt_own h)
/-! ### a new list, a new tuple -/
theorem new_list {G : Ctx} {M H M1 H1 : Hp} {ds : List D} {vs : List V} {Q : VK} (g : Gr M H M1 H1) (r : Reps G M1 ds vs) (k : WF G M H (.lst (ds.map .imm)) Q) : ∀ p, H1 p = none → Q (.ref p) (upd H1 p (.lst vs)) := fun p hp => by
  have hm : M1 p = none := by
    cases e : M1 p with
    | none => rfl
    | some o => rw [g.mh p o e] at hp; cases hp
  refine k (.ref p) M1 _ [p] ⟨fun b o e => ?_, g.mm, fun b o e => ?_, g.nw⟩ ⟨p, vs, [], rfl, rfl, upd_same, Owns.imm r⟩ (by simp) fun b hb => ?_
  · rw [upd_ne (ne_of_none (g.hh b o e) hp)]; exact g.hh b o e
  · rw [upd_ne (ne_of_none e hm)]; exact g.mh b o e
  · have e : b = p := by simpa using hb
    subst e
    exact ⟨g.hh.free hp, hm⟩
theorem new_tup {G : Ctx} {M H M1 H1 : Hp} {ds : List D} {vs : List V} {Q : VK} (g : Gr M H M1 H1) (r : Reps G M1 ds vs) (k : WD G M H (.tup ds) Q) : ∀ p, H1 p = none → Q (.ref p) (upd H1 p (.tup vs)) := fun p hp => by
  have hm : M1 p = none := by
    cases e : M1 p with
    | none => rfl
    | some o => rw [g.mh p o e] at hp; cases hp
  have mm : Same M1 (upd M1 p (.tup vs)) := fun b o e => by rw [upd_ne (ne_of_none e hm)]; exact e
  refine k (.ref p) (upd M1 p (.tup vs)) _ ⟨fun b o e => ?_, g.mm.trans mm, fun b o e => ?_, fun b z => ?_⟩ ⟨p, vs, rfl, .of upd_same, Reps.mono mm _ _ r⟩
  · rw [upd_ne (ne_of_none (g.hh b o e) hp)]; exact g.hh b o e
  · by_cases hb : b = p
    · subst hb; rw [upd_same] at e ⊢; exact e
    · rw [upd_ne hb] at e ⊢; exact g.mh b o e
  · by_cases hb : b = p
    · subst hb; exact .inr (g.hh.free hp)
    · rw [upd_ne hb] at z; exact g.nw b z
theorem small_len {n : Nat} (h : n ≤ 100000) : n ≤ sizeLine := Nat.le_trans h (by decide)
/-- [a, b, ..] -/
theorem df_disp {args : α → List D} {m : R α} {ei : β → D} (h : DA X W Γ es args m) (g : α → List β) (he : ∀ x, args x = (g x).map ei := by intro _; rfl) (hz : ∀ x, Nat.ble (args x).length 100000 = true := by intro _; rfl) : DF X W Γ (.List es pos) (fun xs => .lst (xs.map fun x => .imm (ei x))) (m >>= fun x => .ok (g x)) :=
  dmk ⟨_, pe_lst (pa_w X es), fun F M0 M H σ Q s po => h F M0 M H σ _ s (po.bind.imp (fun x _ k vs M1 H1 g1 r => by
    refine ⟨by rw [r.len]; exact small_len (Nat.le_of_ble_eq_true (hz x)), new_list g1 r ?_⟩
    rw [he x, ← map_imm]
    exact k) fun _ z => z)⟩
/-- (a, b, ..) -/
theorem dd_tup {args : α → List D} {m : R α} {et : β → D} {x1} (h : DA X W Γ es args m) (g : α → β) (he : ∀ x, et (g x) = .tup (args x) := by intro _; rfl) (hz : ∀ x, Nat.ble (args x).length 100000 = true := by intro _; rfl) : DD X W Γ (.Tuple es x1 pos) et (m >>= fun x => .ok (g x)) :=
  dmk ⟨_, pe_tup (pa_w X es), fun F M0 M H σ Q s po => h F M0 M H σ _ s (po.bind.imp (fun x _ k vs M1 H1 g1 r => by
    refine ⟨by rw [r.len]; exact small_len (Nat.le_of_ble_eq_true (hz x)), new_tup g1 r ?_⟩
    rw [← he x]
    exact k) fun _ z => z)⟩
/-! ### items -/
theorem ixN_map {α β : Type} {f : α → β} {xs : List α} {i : Int} : atI (xs.map f) i = (atI xs i).map f := by
  unfold atI
  rw [List.length_map]
  cases ixN xs.length i with
  | none => rfl
  | some j => show (xs.map f)[j]? = (xs[j]?).map f; rw [List.getElem?_map]
theorem reps_at {G : Ctx} {M : Hp} {ds : List D} {vs : List V} {i : Int} {d : D} (r : Reps G M ds vs) (h : atI ds i = some d) : ∃ v, atI vs i = some v ∧ Rep G M d v := by
  unfold atI at h ⊢
  rw [r.len]
  cases e : ixN ds.length i with
  | none => rw [e] at h; cases h
  | some j =>
    rw [e] at h
    exact r.get h
theorem dd_ixL {ei : β → D} {ma : R (List β)} {mb : R Int} (ha : DL X W Γ a (fun xs => xs.map ei) ma) (hb : DD X W Γ b D.int mb) (hs : PlainIx b := by exact fun _ _ => rfl) : DD X W Γ (.Subscript a b pos) ei (ma >>= fun xs => mb >>= fun i => ofO (atI xs i)) :=
  dmk ⟨_, pe_ix ix_list (pe_w X a) (pe_w X b) hs, fun F M0 M H σ Q s po => ha F M0 M H σ _ s (po.bind.imp (fun xs _ k p vs M1 H1 g1 hl r1 => hb F M0 M1 H1 σ _ (s.grow g1) (k.bind.imp (fun i _ k v M2 H2 g2 r2 => by
    obtain ⟨z, e, k⟩ := k.ofO
    have e' : atI (xs.map ei) i = some (ei z) := by rw [ixN_map, e]; rfl
    obtain ⟨v', q1, q2⟩ := reps_at (Reps.mono g2.mm _ _ r1) e'
    exact ⟨p, vs, i, v', rfl, r2, g2.hh.seq hl, q1, k v' M2 H2 (g1.trans g2) q2⟩) fun c z M' H' g => z M' H' (g1.trans g))) fun _ z => z)⟩
theorem dd_ixT {ei : β → D} {ma : R (List β)} {mb : R Int} (ha : DD X W Γ a (fun xs => .tup (xs.map ei)) ma) (hb : DD X W Γ b D.int mb) (hs : PlainIx b := by exact fun _ _ => rfl) : DD X W Γ (.Subscript a b pos) ei (ma >>= fun xs => mb >>= fun i => ofO (atI xs i)) :=
  dmk ⟨_, pe_ix ix_tup (pe_w X a) (pe_w X b) hs, fun F M0 M H σ Q s po => ha F M0 M H σ _ s (po.bind.imp (fun xs _ k v M1 H1 g1 r1 => hb F M0 M1 H1 σ _ (s.grow g1) (k.bind.imp (fun i _ k w M2 H2 g2 r2 => by
    obtain ⟨p, vs, rfl, hl, r1⟩ := r1
    obtain ⟨z, e, k⟩ := k.ofO
    have e' : atI (xs.map ei) i = some (ei z) := by rw [ixN_map, e]; rfl
    obtain ⟨v', q1, q2⟩ := reps_at (Reps.mono g2.mm _ _ r1) e'
    exact ⟨p, vs, i, v', rfl, r2, same_sqt (g1.mh.trans g2.hh) hl, q1, k v' M2 H2 (g1.trans g2) q2⟩) fun c z M' H' g => z M' H' (g1.trans g))) fun _ z => z)⟩
/-- t[2], t a tuple of known form -/
theorem dd_ixP {et : α → D} {ei : β → D} {ma : R α} {i : Int} {j pb} (ha : DD X W Γ a et ma) (ds : α → List D) (g : α → β) (h1 : ∀ x, et x = .tup (ds x) := by intro _; rfl) (h2 : ∀ x, atI (ds x) i = some (ei (g x)) := by intro _; rfl) :
    DD X W Γ (.Subscript a (.Constant (.int i) j pb) pos) ei (ma >>= fun x => .ok (g x)) :=
  dmk ⟨_, pe_ix ix_tup (pe_w X a) (pe_w X _) (fun _ _ => rfl), fun F M0 M H σ Q s po => ha F M0 M H σ _ s (po.bind.imp (fun x _ k v M1 H1 g1 r1 => dd_int (W := W) F M0 M1 H1 σ _ (s.grow g1) (fun w M2 H2 g2 r2 => by
    rw [h1 x] at r1
    obtain ⟨p, vs, rfl, hl, r1⟩ := r1
    obtain ⟨v', q1, q2⟩ := reps_at (Reps.mono g2.mm _ _ r1) (h2 x)
    exact ⟨p, vs, i, v', rfl, r2, same_sqt (g1.mh.trans g2.hh) hl, q1, k v' M2 H2 (g1.trans g2) q2⟩)) fun _ z => z)⟩
/-! ### len -/
theorem dd_lenL {ei : β → D} {m : R (List β)} {p : Pos} (h : DL X W Γ e (fun xs => xs.map ei) m) (hm : X.mg "len" = none) (hg : Gl X "len" := by rfl) (hs : starEach [e] X.env = (false, eval e X.env) :: starEach [] X.env := by exact star_cons rfl) : DD X W Γ (.Call (.Name "len" p) [e] [] pos) D.int (m >>= fun xs => .ok (xs.length : Int)) :=
  dmk ⟨_, pe_callB call_len_seq hg hm boot_len (pa_cons (pe_w X e) pa_nil (hs := hs)) (he := hs), fun F M0 M H σ Q s po => h F M0 M H σ _ s (po.bind.imp (fun xs _ k a vs M1 H1 g1 hl r1 => ⟨a, vs, rfl, .inl hl, k _ M1 H1 g1 (by
    rw [r1.len, List.length_map]; rfl)⟩) fun _ z => z)⟩
theorem dd_lenT {ei : β → D} {m : R (List β)} {p : Pos} (h : DD X W Γ e (fun xs => .tup (xs.map ei)) m) (hm : X.mg "len" = none) (hg : Gl X "len" := by rfl) (hs : starEach [e] X.env = (false, eval e X.env) :: starEach [] X.env := by exact star_cons rfl) : DD X W Γ (.Call (.Name "len" p) [e] [] pos) D.int (m >>= fun xs => .ok (xs.length : Int)) :=
  dmk ⟨_, pe_callB call_len_seq hg hm boot_len (pa_cons (pe_w X e) pa_nil (hs := hs)) (he := hs), fun F M0 M H σ Q s po => h F M0 M H σ _ s (po.bind.imp (fun xs _ k v M1 H1 g1 r1 => by
    obtain ⟨a, vs, rfl, hl, r1⟩ := r1
    exact ⟨a, vs, rfl, .inr (same_sqt g1.mh hl), k _ M1 H1 g1 (by rw [r1.len, List.length_map]; rfl)⟩) fun _ z => z)⟩
/-! ### slices -/
def cutL {α : Type} (xs : List α) (lo hi : Option Int) : List α := (xs.drop (HT.sIx xs.length 0 lo)).take (HT.sIx xs.length xs.length hi - HT.sIx xs.length 0 lo)
theorem cutL_map {f : α → β} {xs : List α} {lo hi : Option Int} : cutL (xs.map f) lo hi = (cutL xs lo hi).map f := by
  unfold cutL
  rw [List.length_map, List.map_take, List.map_drop]
theorem reps_cut {G : Ctx} {M : Hp} {ds : List D} {vs : List V} {lo hi : Option Int} (r : Reps G M ds vs) : Reps G M (cutL ds lo hi) (cutV vs lo hi) := by
  unfold cutL cutV
  rw [r.len]
  exact (r.drop _).take _
/-- a slice's part -/
def DO (X : Cx) (W : WX) (Γ : List Sl) (e : Option Expr) (m : R (Option Int)) : Prop :=
  ∃ te, PO X e te ∧ ∀ F M0 M H σ Q, S X.G F M0 M H σ Γ → Po m (fun x => ∀ M' H', Gr M H M' H' → Q x H') (fun c => ∀ M' H', Gr M H M' H' → Er X.G W c σ H') → te σ H Q
theorem do_none : DO X W Γ none (.ok none) := ⟨_, po_none, fun F M0 M H σ Q s po => po M H (.refl s.mh)⟩
theorem do_some {m : R Int} (h : DD X W Γ e D.int m) : DO X W Γ (some e) (m >>= fun i => .ok (some i)) :=
  ⟨_, po_some (pe_w X e), fun F M0 M H σ Q s po => h F M0 M H σ _ s (po.bind.imp (fun i _ k v M1 H1 g1 r => ⟨i, r, k M1 H1 g1⟩) fun _ z => z)⟩
theorem df_slL {ei : β → D} {m : R (List β)} {lo hi : Option Expr} {ml mh : R (Option Int)} {p2 : Pos} (h : DL X W Γ e (fun xs => xs.map ei) m) (hl : DO X W Γ lo ml) (hh : DO X W Γ hi mh) :
    DF X W Γ (.Subscript e (.Slice lo hi none p2) pos) (fun xs => .lst (xs.map fun x => .imm (ei x))) (m >>= fun xs => ml >>= fun i => mh >>= fun j => .ok (cutL xs i j)) := by
  obtain ⟨tl, pl, ql⟩ := hl
  obtain ⟨th, ph, qh⟩ := hh
  exact dmk ⟨_, pe_slice sl_list (pe_w X e) pl ph, fun F M0 M H σ Q s po => h F M0 M H σ _ s (po.bind.imp (fun xs _ k a vs M1 H1 g1 hq r1 => ql F M0 M1 H1 σ _ (s.grow g1) (k.bind.imp (fun i _ k M2 H2 g2 => qh F M0 M2 H2 σ _ (s.grow (g1.trans g2)) (k.bind.imp (fun j _ k M3 H3 g3 => by
    refine ⟨a, vs, rfl, (g2.hh.trans g3.hh).seq hq, new_list ((g1.trans g2).trans g3) (ds := cutL (xs.map ei) i j) (reps_cut (Reps.mono (g2.mm.trans g3.mm) _ _ r1)) ?_⟩
    rw [cutL_map, ← map_imm]
    exact k) fun c z M' H' g => z M' H' ((g1.trans g2).trans g))) fun c z M' H' g => z M' H' (g1.trans g))) fun _ z => z)⟩
theorem dd_slT {ei : β → D} {m : R (List β)} {lo hi : Option Expr} {ml mh : R (Option Int)} {p2 : Pos} (h : DD X W Γ e (fun xs => .tup (xs.map ei)) m) (hl : DO X W Γ lo ml) (hh : DO X W Γ hi mh) :
    DD X W Γ (.Subscript e (.Slice lo hi none p2) pos) (fun xs => .tup (xs.map ei)) (m >>= fun xs => ml >>= fun i => mh >>= fun j => .ok (cutL xs i j)) := by
  obtain ⟨tl, pl, ql⟩ := hl
  obtain ⟨th, ph, qh⟩ := hh
  exact dmk ⟨_, pe_slice sl_tupA (pe_w X e) pl ph, fun F M0 M H σ Q s po => h F M0 M H σ _ s (po.bind.imp (fun xs _ k v M1 H1 g1 r1 => ql F M0 M1 H1 σ _ (s.grow g1) (k.bind.imp (fun i _ k M2 H2 g2 => qh F M0 M2 H2 σ _ (s.grow (g1.trans g2)) (k.bind.imp (fun j _ k M3 H3 g3 => by
    obtain ⟨a, vs, rfl, hq, r1⟩ := r1
    have r3 := Reps.mono (g2.mm.trans g3.mm) _ _ r1
    have k : WD X.G M H (.tup (cutL (xs.map ei) i j)) Q := by rw [cutL_map]; exact k
    refine ⟨a, vs, rfl, same_sqt (g1.mh.trans (g2.hh.trans g3.hh)) hq, fun hw => ?_, fun _ => new_tup ((g1.trans g2).trans g3) (reps_cut r3) k⟩
    refine k (.ref a) M3 H3 ((g1.trans g2).trans g3) ⟨a, vs, rfl, same_sqt (g2.mm.trans g3.mm) hq, ?_⟩
    have e1 : cutL (xs.map ei) i j = xs.map ei := by
      unfold cutL
      rw [← r1.len, hw.1, hw.2, List.drop_zero, Nat.sub_zero, r1.len, List.take_length]
    rw [e1]
    exact r3) fun c z M' H' g => z M' H' ((g1.trans g2).trans g))) fun c z M' H' g => z M' H' (g1.trans g))) fun _ z => z)⟩
/-! ### + and * -/
def catO {α : Type} (xs ys : List α) : Option (List α) := if xs.length + ys.length ≤ 16777216 then some (xs ++ ys) else none
noncomputable def repO {α : Type} (xs : List α) (k : Int) : Option (List α) := @ite _ (-(2 ^ 63) ≤ k ∧ k < 2 ^ 63 ∧ xs.length * k.toNat ≤ 16777216) (Classical.propDecidable _) (some (List.replicate k.toNat xs).flatten) none
theorem df_cat {ei : β → D} {ma mb : R (List β)} (ha : DLt X W Γ a (fun xs => xs.map ei) ma) (hb : DLt X W Γ b (fun xs => xs.map ei) mb) :
    DF X W Γ (.BinOp a .Add b pos) (fun xs => .lst (xs.map fun x => .imm (ei x))) (ma >>= fun xs => mb >>= fun ys => ofO (catO xs ys)) :=
  dmk ⟨_, pe_op op_cat (pe_w X a) (pe_w X b), fun F M0 M H σ Q s po => ha F M0 M H σ _ s (po.bind.imp (fun xs _ k p vs M1 H1 g1 hl r1 => hb F M0 M1 H1 σ _ (s.grow g1) (k.bind.imp (fun ys _ k q ws M2 H2 g2 hl2 r2 => by
    obtain ⟨z, e, k⟩ := k.ofO
    unfold catO at e
    by_cases hc : xs.length + ys.length ≤ 16777216
    · rw [if_pos hc] at e
      cases e
      refine ⟨p, q, vs, ws, rfl, rfl, g2.hh _ _ hl, hl2, ?_, new_list (g1.trans g2) (ds := xs.map ei ++ ys.map ei) ((Reps.mono g2.mm _ _ r1).app r2) ?_⟩
      · rw [r1.len, r2.len, List.length_map, List.length_map, sizeLine_eq]; exact hc
      · rw [← List.map_append, ← map_imm]
        exact k
    · rw [if_neg hc] at e; cases e) fun c z M' H' g => z M' H' (g1.trans g))) fun _ z => z)⟩
theorem dd_catT {ei : β → D} {ma mb : R (List β)} (ha : DD X W Γ a (fun xs => .tup (xs.map ei)) ma) (hb : DD X W Γ b (fun xs => .tup (xs.map ei)) mb) :
    DD X W Γ (.BinOp a .Add b pos) (fun xs => .tup (xs.map ei)) (ma >>= fun xs => mb >>= fun ys => ofO (catO xs ys)) :=
  dmk ⟨_, pe_op op_catA (pe_w X a) (pe_w X b), fun F M0 M H σ Q s po => ha F M0 M H σ _ s (po.bind.imp (fun xs _ k v M1 H1 g1 r1 => hb F M0 M1 H1 σ _ (s.grow g1) (k.bind.imp (fun ys _ k w M2 H2 g2 r2 => by
    obtain ⟨p, vs, rfl, hl, r1⟩ := r1
    obtain ⟨q, ws, rfl, hl2, r2⟩ := r2
    obtain ⟨z, e, k⟩ := k.ofO
    unfold catO at e
    by_cases hc : xs.length + ys.length ≤ 16777216
    · rw [if_pos hc] at e
      cases e
      have r1' := Reps.mono g2.mm _ _ r1
      have k : WD X.G M H (.tup (xs.map ei ++ ys.map ei)) Q := by rw [← List.map_append]; exact k
      have z1 := r1.len
      have z2 := r2.len
      refine ⟨p, q, vs, ws, rfl, rfl, same_sqt (g1.mh.trans g2.hh) hl, same_sqt g2.mh hl2, ?_, fun e => ?_, fun e => ?_, fun _ _ => new_tup (g1.trans g2) (r1'.app r2) k⟩
      · rw [z1, z2, List.length_map, List.length_map, sizeLine_eq]; exact hc
      · subst e
        have e0 : xs.map ei = [] := List.eq_nil_of_length_eq_zero z1.symm
        rw [e0, List.nil_append] at k
        exact k (.ref q) M2 H2 (g1.trans g2) ⟨q, ws, rfl, hl2, r2⟩
      · intro e
        subst e
        have e0 : ys.map ei = [] := List.eq_nil_of_length_eq_zero z2.symm
        rw [e0, List.append_nil] at k
        exact k (.ref p) M2 H2 (g1.trans g2) ⟨p, vs, rfl, same_sqt g2.mm hl, r1'⟩
    · rw [if_neg hc] at e; cases e) fun c z M' H' g => z M' H' (g1.trans g))) fun _ z => z)⟩
theorem reps_rep {G : Ctx} {M : Hp} {ds : List D} {vs : List V} (r : Reps G M ds vs) : ∀ n, Reps G M (List.replicate n ds).flatten (List.replicate n vs).flatten
  | 0 => rfl
  | n + 1 => by
    rw [List.replicate_succ, List.replicate_succ, List.flatten_cons, List.flatten_cons]
    exact r.app (reps_rep r n)
theorem df_rep {ei : β → D} {ma : R (List β)} {mb : R Int} (ha : DLt X W Γ a (fun xs => xs.map ei) ma) (hb : DD X W Γ b D.int mb) :
    DF X W Γ (.BinOp a .Mult b pos) (fun xs => .lst (xs.map fun x => .imm (ei x))) (ma >>= fun xs => mb >>= fun k => ofO (repO xs k)) :=
  dmk ⟨_, pe_op op_rep (pe_w X a) (pe_w X b), fun F M0 M H σ Q s po => ha F M0 M H σ _ s (po.bind.imp (fun xs _ k p vs M1 H1 g1 hl r1 => hb F M0 M1 H1 σ _ (s.grow g1) (k.bind.imp (fun i _ k w M2 H2 g2 r2 => by
    obtain ⟨z, e, k⟩ := k.ofO
    unfold repO at e
    by_cases hc : -(2 ^ 63) ≤ i ∧ i < 2 ^ 63 ∧ xs.length * i.toNat ≤ 16777216
    · rw [if_pos hc] at e
      cases e
      refine ⟨p, i, vs, rfl, r2, g2.hh _ _ hl, hc.1, hc.2.1, ?_, new_list (g1.trans g2) (reps_rep (Reps.mono g2.mm _ _ r1) i.toNat) ?_⟩
      · rw [r1.len, List.length_map, sizeLine_eq]; exact hc.2.2
      · have e : (List.replicate i.toNat (xs.map ei)).flatten = (List.replicate i.toNat xs).flatten.map ei := by rw [List.map_flatten, List.map_replicate]
        rw [e, ← map_imm]
        exact k
    · rw [if_neg hc] at e; cases e) fun c z M' H' g => z M' H' (g1.trans g))) fun _ z => z)⟩
/-! ### list(..), tuple(..), sum(..), sorted(..) -/
theorem df_listL {ei : β → D} {m : R (List β)} {p : Pos} (h : DL X W Γ e (fun xs => xs.map ei) m) (hm : X.mg "list" = none) (hg : Gl X "list" := by rfl) (hs : starEach [e] X.env = (false, eval e X.env) :: starEach [] X.env := by exact star_cons rfl) : DF X W Γ (.Call (.Name "list" p) [e] [] pos) (fun xs => .lst (xs.map fun x => .imm (ei x))) m :=
  dmk ⟨_, pe_callTy call_list_of hg hm (by decide +kernel) (pa_cons (pe_w X e) pa_nil (hs := hs)) (he := hs), fun F M0 M H σ Q s po => h F M0 M H σ _ s (po.imp (fun xs _ k a vs M1 H1 g1 hl r1 => ⟨a, vs, rfl, .inl hl, new_list g1 r1 (by rw [← map_imm]; exact k)⟩) fun _ z => z)⟩
theorem df_listT {ei : β → D} {m : R (List β)} {p : Pos} (h : DD X W Γ e (fun xs => .tup (xs.map ei)) m) (hm : X.mg "list" = none) (hg : Gl X "list" := by rfl) (hs : starEach [e] X.env = (false, eval e X.env) :: starEach [] X.env := by exact star_cons rfl) : DF X W Γ (.Call (.Name "list" p) [e] [] pos) (fun xs => .lst (xs.map fun x => .imm (ei x))) m :=
  dmk ⟨_, pe_callTy call_list_of hg hm (by decide +kernel) (pa_cons (pe_w X e) pa_nil (hs := hs)) (he := hs), fun F M0 M H σ Q s po => h F M0 M H σ _ s (po.imp (fun xs _ k v M1 H1 g1 r1 => by
    obtain ⟨a, vs, rfl, hl, r1⟩ := r1
    exact ⟨a, vs, rfl, .inr (same_sqt g1.mh hl), new_list g1 r1 (by rw [← map_imm]; exact k)⟩) fun _ z => z)⟩
theorem dd_tupleL {ei : β → D} {m : R (List β)} {p : Pos} (h : DL X W Γ e (fun xs => xs.map ei) m) (hm : X.mg "tuple" = none) (hg : Gl X "tuple" := by rfl) (hs : starEach [e] X.env = (false, eval e X.env) :: starEach [] X.env := by exact star_cons rfl) : DD X W Γ (.Call (.Name "tuple" p) [e] [] pos) (fun xs => .tup (xs.map ei)) m :=
  dmk ⟨_, pe_callTy call_tuple_of hg hm (by decide +kernel) (pa_cons (pe_w X e) pa_nil (hs := hs)) (he := hs), fun F M0 M H σ Q s po => h F M0 M H σ _ s (po.imp (fun xs _ k a vs M1 H1 g1 hl r1 => ⟨a, vs, rfl, .inl ⟨hl, new_tup g1 r1 k⟩⟩) fun _ z => z)⟩
theorem dd_tupleT {ei : β → D} {m : R (List β)} {p : Pos} (h : DD X W Γ e (fun xs => .tup (xs.map ei)) m) (hm : X.mg "tuple" = none) (hg : Gl X "tuple" := by rfl) (hs : starEach [e] X.env = (false, eval e X.env) :: starEach [] X.env := by exact star_cons rfl) : DD X W Γ (.Call (.Name "tuple" p) [e] [] pos) (fun xs => .tup (xs.map ei)) m :=
  dmk ⟨_, pe_callTy call_tuple_of hg hm (by decide +kernel) (pa_cons (pe_w X e) pa_nil (hs := hs)) (he := hs), fun F M0 M H σ Q s po => h F M0 M H σ _ s (po.imp (fun xs _ k v M1 H1 g1 r1 => by
    obtain ⟨a, vs, rfl, hl, r1⟩ := r1
    exact ⟨a, vs, rfl, .inr ⟨same_sqt g1.mh hl, k (.ref a) M1 H1 g1 ⟨a, vs, rfl, hl, r1⟩⟩⟩) fun _ z => z)⟩
theorem reps_ints {G : Ctx} {M : Hp} : ∀ {ns : List Int} {vs : List V}, Reps G M (ns.map D.int) vs → vs = ns.map V.int
  | [], vs, h => h
  | n :: ns, vs, ⟨v, r, h1, h2, h3⟩ => by
    rw [h1, show v = .int n from h2, reps_ints (ns := ns) h3]; rfl
theorem ints_reps {G : Ctx} {M : Hp} : ∀ (ns : List Int), Reps G M (ns.map D.int) (ns.map V.int)
  | [] => rfl
  | n :: ns => ⟨.int n, ns.map V.int, rfl, rfl, ints_reps ns⟩
theorem reps_bls {G : Ctx} {M : Hp} : ∀ {ns : List Bool} {vs : List V}, Reps G M (ns.map D.bl) vs → vs = ns.map V.bl
  | [], vs, h => h
  | n :: ns, vs, ⟨v, r, h1, h2, h3⟩ => by
    rw [h1, show v = .bl n from h2, reps_bls (ns := ns) h3]; rfl
theorem dd_sum {m : R (List Int)} {p : Pos} (hc : X.calm = true) (h : DL X W Γ e (fun xs => xs.map D.int) m) (hm : X.mg "sum" = none) (hg : Gl X "sum" := by rfl) (hs : starEach [e] X.env = (false, eval e X.env) :: starEach [] X.env := by exact star_cons rfl) : DD X W Γ (.Call (.Name "sum" p) [e] [] pos) D.int (m >>= fun xs => .ok xs.sum) :=
  dmk ⟨_, pe_callB (cr_sum hc) hg hm (by decide +kernel) (pa_cons (pe_w X e) pa_nil (hs := hs)) (he := hs), fun F M0 M H σ Q s po => h F M0 M H σ _ s (po.bind.imp (fun xs _ k a vs M1 H1 g1 hl r1 => ⟨a, xs, rfl, by rw [← reps_ints r1]; exact hl, k _ M1 H1 g1 rfl⟩) fun _ z => z)⟩
theorem dd_all {m : R (List Bool)} {p : Pos} (hc : X.calm = true) (h : DL X W Γ e (fun xs => xs.map D.bl) m) (hm : X.mg "all" = none) (hg : Gl X "all" := by rfl) (hs : starEach [e] X.env = (false, eval e X.env) :: starEach [] X.env := by exact star_cons rfl) : DD X W Γ (.Call (.Name "all" p) [e] [] pos) D.bl (m >>= fun xs => .ok (xs.all id)) :=
  dmk ⟨_, pe_callB (cr_all hc) hg hm (by decide +kernel) (pa_cons (pe_w X e) pa_nil (hs := hs)) (he := hs), fun F M0 M H σ Q s po => h F M0 M H σ _ s (po.bind.imp (fun xs _ k a vs M1 H1 g1 hl r1 => ⟨a, xs, rfl, by rw [← reps_bls r1]; exact hl, k _ M1 H1 g1 rfl⟩) fun _ z => z)⟩
theorem dd_any {m : R (List Bool)} {p : Pos} (hc : X.calm = true) (h : DL X W Γ e (fun xs => xs.map D.bl) m) (hm : X.mg "any" = none) (hg : Gl X "any" := by rfl) (hs : starEach [e] X.env = (false, eval e X.env) :: starEach [] X.env := by exact star_cons rfl) : DD X W Γ (.Call (.Name "any" p) [e] [] pos) D.bl (m >>= fun xs => .ok (xs.any id)) :=
  dmk ⟨_, pe_callB (cr_any hc) hg hm (by decide +kernel) (pa_cons (pe_w X e) pa_nil (hs := hs)) (he := hs), fun F M0 M H σ Q s po => h F M0 M H σ _ s (po.bind.imp (fun xs _ k a vs M1 H1 g1 hl r1 => ⟨a, xs, rfl, by rw [← reps_bls r1]; exact hl, k _ M1 H1 g1 rfl⟩) fun _ z => z)⟩
/-- int(n), n an int -/
theorem dd_intI {m : R Int} {p : Pos} (h : DD X W Γ e D.int m) (hm : X.mg "int" = none) (hg : Gl X "int" := by rfl) (hs : starEach [e] X.env = (false, eval e X.env) :: starEach [] X.env := by exact star_cons rfl) : DD X W Γ (.Call (.Name "int" p) [e] [] pos) D.int m :=
  dmk ⟨_, pe_callTy call_int1 hg hm (by decide +kernel) (pa_cons (pe_w X e) pa_nil (hs := hs)) (he := hs), fun F M0 M H σ Q s po => h F M0 M H σ _ s (po.imp (fun i _ k v M1 H1 g1 r1 => .inl ⟨i, by rw [show v = .int i from r1], k _ M1 H1 g1 rfl⟩) fun _ z => z)⟩
theorem dd_absI {m : R Int} {p : Pos} (h : DD X W Γ e D.int m) (hm : X.mg "abs" = none) (hg : Gl X "abs" := by rfl) (hs : starEach [e] X.env = (false, eval e X.env) :: starEach [] X.env := by exact star_cons rfl) : DD X W Γ (.Call (.Name "abs" p) [e] [] pos) D.int (m >>= fun i => .ok (if i < 0 then -i else i)) :=
  dmk ⟨_, pe_callB call_abs hg hm (by decide +kernel) (pa_cons (pe_w X e) pa_nil (hs := hs)) (he := hs), fun F M0 M H σ Q s po => h F M0 M H σ _ s (po.bind.imp (fun i _ k v M1 H1 g1 r1 => ⟨i, by rw [show v = .int i from r1], k _ M1 H1 g1 rfl⟩) fun _ z => z)⟩
theorem dd_two_ints {ma mb : R Int} {n : Str} {id : String} {p : Pos} {f : Int → Int → Int} (hr : CallR X (.builtin id) (fun xs H Q => ∃ i j, xs = [.int i, .int j] ∧ Q (.int (f i j)) H)) (ha : DD X W Γ a D.int ma) (hb : DD X W Γ b D.int mb) (hm : X.mg n = none) (hv : bootBuiltins n = some (.builtin id)) (hg : Gl X n := by rfl) (hn : n ≠ "__name__" := by decide) (hdb : (n == ("__debug__" : Str)) = false := by decide)
    (hs : starEach [a, b] X.env = (false, eval a X.env) :: starEach [b] X.env := by exact star_cons rfl) (hs2 : starEach [b] X.env = (false, eval b X.env) :: starEach [] X.env := by exact star_cons rfl) (hpl : (backTo pos (starEach [b] X.env)).any (·.1) = false := by exact star_none rfl) : DD X W Γ (.Call (.Name n p) [a, b] [] pos) D.int (ma >>= fun x => mb >>= fun y => .ok (f x y)) := by
  refine dmk ⟨_, pe_callB hr hg hm hv (pa_cons (pe_w X a) (pa_cons (pe_w X b) pa_nil (hs := hs2)) (hs := hs)) (hn := hn) (hdb := hdb) (he := hs) (hpl := hpl), fun F M0 M H σ Q s po => ha F M0 M H σ _ s (po.bind.imp (fun x _ k v M1 H1 g1 r1 => hb F M0 M1 H1 σ _ (s.grow g1) (k.bind.imp (fun y _ k w M2 H2 g2 r2 => ⟨x, y, by rw [show v = .int x from r1, show w = .int y from r2], k _ M2 H2 (g1.trans g2) rfl⟩) fun c z M' H' g => z M' H' (g1.trans g))) fun _ z => z)⟩
end
end Cn
/-! Cn6: one's own lists; targets; comprehensions -/
namespace Cn
open PySem PySem.Spec L2
section
variable {G : Ctx} {F M0 M M' H H' : Hp} {σ : St} {Γ : List Sl}
/-- a list of data, changed -/
theorem S.lset {i : Nat} {ds : List D} (s : S G F M0 M H σ Γ) (h : Γ[i]? = some (.ow (.lst (ds.map .imm)))) :
    ∃ a vs, σ[i]? = some (some (.ref a)) ∧ H a = some (.lst vs) ∧ Reps G M ds vs ∧
      ∀ M' H' vs' ds', Gr M H M' H' → Reps G M' ds' vs' → S G F M0 M' (upd H' a (.lst vs')) σ (Γ.set i (.ow (.lst (ds'.map .imm)))) := by
  obtain ⟨a, vs, h1, h2, h3, ⟨as, h4⟩, h5⟩ := s.listed (ts' := []) h
  obtain ⟨a', vs', h1', h2', _, _, _⟩ := s.listed (ts' := []) h
  refine ⟨a, vs, h1, h2, (Owns.of_imm h4).1, fun M' H' vs' ds' g r => ?_⟩
  obtain ⟨b, ws, e1, e2, _, _, k⟩ := s.listed (ts' := ds'.map .imm) h
  rw [h1] at e1
  cases e1
  exact k M' H' vs' [] g (fun as K' _ o _ _ => ⟨[], Owns.imm r, by simp⟩) List.nodup_nil (fun _ z => nomatch z)
/-- what was one's own is shared from now on -/
theorem S.freeze {i : Nat} {t : T} (s : S G F M0 M H σ Γ) (h : Γ[i]? = some (.ow t)) : ∃ M', S G F M0 M' H σ (Γ.set i (.ow (.imm (fz t)))) := by
  obtain ⟨as, f, sa⟩ := s
  obtain ⟨v, l, a, r, q1, q2, q3, q4⟩ := Sat.focus sa h
  subst q2
  have th := Own.there t v a q3
  have nd := f.nd
  rw [List.append_assoc, List.nodup_append] at nd
  have nd2 := nd.2.1
  rw [List.nodup_append] at nd2
  have dj : ∀ b ∈ l ++ r, b ∉ a := fun b hb ha => by
    rcases List.mem_append.mp hb with z | z
    · exact nd.2.2 b z b (List.mem_append_left _ ha) rfl
    · exact nd2.2.2 b ha b z rfl
  obtain ⟨M', hM⟩ : ∃ M' : Hp, M' = fun b => if b ∈ a then H b else M b := ⟨_, rfl⟩
  have m1 : ∀ b ∈ a, M' b = H b := fun b hb => by rw [hM]; show (if b ∈ a then H b else M b) = H b; rw [if_pos hb]
  have m2 : ∀ b, b ∉ a → M' b = M b := fun b hb => by rw [hM]; show (if b ∈ a then H b else M b) = M b; rw [if_neg hb]
  have ma : ∀ b ∈ a, M b = none := fun b hb => f.ma b (by simp [hb])
  have mm : Same M M' := fun b o e => by
    by_cases hb : b ∈ a
    · rw [ma b hb] at e; cases e
    · rw [m2 b hb]; exact e
  have mh : Same M' H := fun b o e => by
    by_cases hb : b ∈ a
    · rw [m1 b hb] at e; exact e
    · rw [m2 b hb] at e; exact f.mh b o e
  refine ⟨M', l ++ [] ++ r, ⟨f.fh, f.mm.trans mm, mh, fun b z => ?_, ?_, fun b hb => f.fa b ?_, fun b hb => ?_⟩, q4 M' H _ [] mm (fun b _ o e => e) ⟨rfl, Own.freeze mm t v a (fun b hb o e => by rw [m1 b hb]; exact e) q3⟩⟩
  · by_cases hb : b ∈ a
    · exact .inr (f.fa b (by simp [hb]))
    · rw [m2 b hb] at z; exact f.nw b z
  · rw [List.append_nil, List.nodup_append]
    exact ⟨nd.1, nd2.2.1, fun x hx y hy e => nd.2.2 x hx y (List.mem_append_right _ hy) e⟩
  · rw [List.append_nil] at hb
    rcases List.mem_append.mp hb with z | z <;> simp [z]
  · rw [List.append_nil] at hb
    rw [m2 b (dj b hb)]
    exact f.ma b (by rcases List.mem_append.mp hb with z | z <;> simp [z])
end
section
variable {X : Cx} {W : WX} {Γe Γ : List Sl} {a b e c tg elt iter : Expr} {es : List Expr} {α β γ ω ω1 : Type} {pos : Pos} {s : Stmt} {rest ss A B : List Stmt}
theorem bk_freeze {κ : ω → Kd} {m : R ω} {t : T} {d : D} (i : Nat) (h : Γ[i]? = some (.ow t)) (hd : fz t = d) (hb : Bk X W Γe (Γ.set i (.ow (.imm d))) ss κ m) : Bk X W Γe Γ ss κ m := ⟨fun F M0 M H σ D s po => by
  subst hd
  obtain ⟨M', s'⟩ := s.freeze h
  exact hb F M0 M' H σ D s' po⟩
theorem bk_freezeL {κ : ω → Kd} {m : R ω} {ei : β → D} {xs : List β} (i : Nat) (h : Γ[i]? = some (.ow (.lst (xs.map fun x => .imm (ei x))))) (hb : Bk X W Γe (Γ.set i (.ow (.imm (.lst (xs.map ei))))) ss κ m) : Bk X W Γe Γ ss κ m := bk_freeze i h (fz_list xs) hb
/-! ### a list of one's own is changed -/
def appO {α : Type} (xs : List α) (x : α) : Option (List α) := if xs.length < 16777216 then some (xs ++ [x]) else none
theorem own_is {ei : β → D} (xs : List β) : T.lst (xs.map fun x => T.imm (ei x)) = T.lst ((xs.map ei).map .imm) := by rw [map_imm]
theorem st_append {ei : β → D} {xs : List β} {m : R β} {n : Str} {p p1 cpos : Pos} (i : Nat) (h : Γ[i]? = some (.ow (.lst (xs.map fun x => .imm (ei x))))) (he : DD X W Γ e ei m) (hw : Wk Γe Γ) (hN : X.N[i]? = some n := by rfl) (hv : Vis X.env.scope n := by first | exact Or.inl rfl | exact Or.inr (Or.inl rfl) | exact Or.inr (Or.inr rfl))
    (hd : (n == ("__debug__" : Str)) = false := by decide) (hcd : (n == ("__classdict__" : Str)) = false := by decide)
    (hbase : attributeBase (.Name n p) "append" X.env (eval (.Name n p) X.env) = eval (.Name n p) X.env := by rfl)
    (hfew : ((backTo cpos (starEach [e] X.env)).all (fun x => !x.1) && (backToKw cpos (keywordEach [] X.env)).all (fun x => x.1.isSome)
      && decide (([e]).length + ([] : List Keyword).length + (if ([] : List Keyword).isEmpty then 0 else 1) < 30)) = true := by rfl)
    (hline : (p1.endLine == cpos.line) = true := by rfl) (hs : starEach [e] X.env = (false, eval e X.env) :: starEach [] X.env := by exact star_cons rfl) (hplain : (backTo cpos (starEach [] X.env)).any (·.1) = false := by rfl)
    (hsw : swapsWith (.Call (.Attribute (.Name n p) "append" p1) [e] [] cpos) none pos.line X.env = pure false := by rfl) :
    St1 X W Γe Γ (.Expr (.Call (.Attribute (.Name n p) "append" p1) [e] [] cpos) pos) (fun xs => .n (Γ.set i (.ow (.lst (xs.map fun x => .imm (ei x)))))) (m >>= fun x => ofO (appO xs x)) :=
  smk ⟨_, ps_expr (pe_bm PySem.F.plainAttrs_list PySem.F.slot_list_append PySem.F.type_list_append mt_append (pe_var hN hv hd hcd) (pa_cons (pe_w X e) pa_nil (hs := hs)) hbase hfew hline hs hplain) hsw, fun F M0 M H σ D st po => by
    rw [own_is] at h
    obtain ⟨a, vs, h1, h2, h3, h4⟩ := st.lset h
    refine ⟨_, h1, .inl ⟨rfl, vs, .of h2⟩, he F M0 M H σ _ st (po.bind.imp (fun x _ k v M1 H1 g1 r1 => ?_) fun c z => er_wk st hw z)⟩
    obtain ⟨z, e, k⟩ := k.ofO
    unfold appO at e
    by_cases hc : xs.length < 16777216
    · rw [if_pos hc] at e
      cases e
      refine ⟨a, vs, v, rfl, rfl, g1.hh _ _ h2, by rw [h3.len, List.length_map, sizeLine_eq]; exact hc, ?_⟩
      refine Kn.nx k _ rfl M1 _ σ ?_
      have q := h4 M1 H1 (vs ++ [v]) ((xs.map ei) ++ [ei x]) g1 ((Reps.mono g1.mm _ _ h3).app ⟨v, [], rfl, r1, rfl⟩)
      rw [own_is, List.map_append (l₁ := xs)]
      exact q
    · rw [if_neg hc] at e; cases e⟩
def extO {α : Type} (xs ys : List α) : Option (List α) := if xs.length + ys.length ≤ 16777216 then some (xs ++ ys) else none
theorem st_extend {ei : β → D} {xs : List β} {m : R (List β)} {n : Str} {p p1 cpos : Pos} (i : Nat) (h : Γ[i]? = some (.ow (.lst (xs.map fun x => .imm (ei x))))) (he : DLt X W Γ e (fun xs => xs.map ei) m) (hw : Wk Γe Γ) (hN : X.N[i]? = some n := by rfl) (hv : Vis X.env.scope n := by first | exact Or.inl rfl | exact Or.inr (Or.inl rfl) | exact Or.inr (Or.inr rfl))
    (hd : (n == ("__debug__" : Str)) = false := by decide) (hcd : (n == ("__classdict__" : Str)) = false := by decide)
    (hbase : attributeBase (.Name n p) "extend" X.env (eval (.Name n p) X.env) = eval (.Name n p) X.env := by rfl)
    (hfew : ((backTo cpos (starEach [e] X.env)).all (fun x => !x.1) && (backToKw cpos (keywordEach [] X.env)).all (fun x => x.1.isSome)
      && decide (([e]).length + ([] : List Keyword).length + (if ([] : List Keyword).isEmpty then 0 else 1) < 30)) = true := by rfl)
    (hline : (p1.endLine == cpos.line) = true := by rfl) (hs : starEach [e] X.env = (false, eval e X.env) :: starEach [] X.env := by exact star_cons rfl) (hplain : (backTo cpos (starEach [] X.env)).any (·.1) = false := by rfl)
    (hsw : swapsWith (.Call (.Attribute (.Name n p) "extend" p1) [e] [] cpos) none pos.line X.env = pure false := by rfl) :
    St1 X W Γe Γ (.Expr (.Call (.Attribute (.Name n p) "extend" p1) [e] [] cpos) pos) (fun xs => .n (Γ.set i (.ow (.lst (xs.map fun x => .imm (ei x)))))) (m >>= fun ys => ofO (extO xs ys)) :=
  smk ⟨_, ps_expr (pe_bm PySem.F.plainAttrs_list PySem.F.slot_list_extend PySem.F.type_list_extend mt_extend (pe_var hN hv hd hcd) (pa_cons (pe_w X e) pa_nil (hs := hs)) hbase hfew hline hs hplain) hsw, fun F M0 M H σ D st po => by
    rw [own_is] at h
    obtain ⟨a, vs, h1, h2, h3, h4⟩ := st.lset h
    refine ⟨_, h1, .inl ⟨rfl, vs, .of h2⟩, he F M0 M H σ _ st (po.bind.imp (fun ys _ k b ws M1 H1 g1 hb r1 => ?_) fun c z => er_wk st hw z)⟩
    obtain ⟨z, e, k⟩ := k.ofO
    unfold extO at e
    by_cases hc : xs.length + ys.length ≤ 16777216
    · rw [if_pos hc] at e
      cases e
      refine ⟨a, b, vs, ws, rfl, rfl, g1.hh _ _ h2, hb, by rw [h3.len, r1.len, List.length_map, List.length_map, sizeLine_eq]; exact hc, ?_⟩
      refine Kn.nx k _ rfl M1 _ σ ?_
      have q := h4 M1 H1 (vs ++ ws) ((xs.map ei) ++ (ys.map ei)) g1 ((Reps.mono g1.mm _ _ h3).app r1)
      rw [own_is, List.map_append (l₁ := xs)]
      exact q
    · rw [if_neg hc] at e; cases e⟩
/-- xs[k] = e -/
def setO {α : Type} (xs : List α) (i : Int) (x : α) : Option (List α) := (ixN xs.length i).map fun j => xs.set j x
theorem Reps.set {G : Ctx} {M : Hp} {v : V} {d : D} (r : Rep G M d v) : ∀ {ds : List D} {vs : List V} (i : Nat), Reps G M ds vs → Reps G M (ds.set i d) (vs.set i v)
  | [], vs, i, h => by rw [show vs = [] from h]; exact rfl
  | x :: ds, vs, 0, ⟨w, q, h1, h2, h3⟩ => by subst h1; exact ⟨v, q, rfl, r, h3⟩
  | x :: ds, vs, i + 1, ⟨w, q, h1, h2, h3⟩ => by subst h1; exact ⟨w, q.set i v, rfl, h2, Reps.set r i h3⟩
theorem st_setix {ei : β → D} {xs : List β} {m : R β} {mi : R Int} {n : Str} {p ps : Pos} (i : Nat) (h : Γ[i]? = some (.ow (.lst (xs.map fun x => .imm (ei x))))) (he : DD X W Γ e ei m) (hi : DD X W Γ b D.int mi) (hw : Wk Γe Γ) (hN : X.N[i]? = some n := by rfl) (hv : Vis X.env.scope n := by first | exact Or.inl rfl | exact Or.inr (Or.inl rfl) | exact Or.inr (Or.inr rfl))
    (hd : (n == ("__debug__" : Str)) = false := by decide) (hcd : (n == ("__classdict__" : Str)) = false := by decide)
    (ha : ∀ v, assign (.Subscript (.Name n p) b ps) X.env v = (do
      let ov ← holding [v] (eval (.Name n p) X.env)
      let iv ← holding [v, ov] (eval b X.env)
      standAt ps
      holding [v, ov, iv] (setItem ov iv v)
      release [v, ov, iv] []) := by intro _; rfl)
    (hs : swapsWithSole [.Subscript (.Name n p) b ps] e pos.line X.env = pure false := by rfl) (hsw : swappedStores [.Subscript (.Name n p) b ps] e X.env = pure none := by rfl)
    (h1 : (assignEach [.Subscript (.Name n p) b ps] X.env).map (·.2) = [assign (.Subscript (.Name n p) b ps) X.env] := by rfl) :
    St1 X W Γe Γ (.Assign [.Subscript (.Name n p) b ps] e pos) (fun xs => .n (Γ.set i (.ow (.lst (xs.map fun x => .imm (ei x)))))) (m >>= fun x => mi >>= fun k => ofO (setO xs k x)) :=
  smk ⟨_, ps_asg (pe_w X e) (pg_sub (pe_var hN hv hd hcd) (pe_w X b) set_list ha) hs hsw h1, fun F M0 M H σ D st po => by
    rw [own_is] at h
    refine he F M0 M H σ _ st (po.bind.imp (fun x _ k v M1 H1 g1 r1 => ?_) fun c z => er_wk st hw z)
    have st1 := st.grow g1
    obtain ⟨a, vs, h1, h2, h3, h4⟩ := st1.lset h
    refine ⟨_, h1, hi F M0 M1 H1 σ _ st1 (k.bind.imp (fun j _ k w M2 H2 g2 r2 => ?_) fun c z => er_wk st1 hw z)⟩
    obtain ⟨z, e, k⟩ := k.ofO
    unfold setO at e
    cases q : ixN xs.length j with
    | none => rw [q] at e; cases e
    | some l =>
      rw [q] at e
      cases e
      refine ⟨a, vs, j, l, rfl, r2, g2.hh _ _ h2, by rw [h3.len, List.length_map]; exact q, ?_⟩
      refine Kn.nx k _ rfl M2 _ σ ?_
      have q := h4 M2 H2 (vs.set l v) ((xs.map ei).set l (ei x)) g2 (Reps.set (Rep.mono g2.mm _ _ r1) l (Reps.mono g2.mm _ _ h3))
      rw [own_is, List.map_set (l := xs)]
      exact q⟩
/-- x op= e, ints -/
def AugI (X : Cx) (op : Operator) (f : Int → Int → Option Int) : Prop := ∃ ti, PIp X op ti ∧ ∀ x y z H Q, f x y = some z → Q (.int z) H → ti (.int x) (.int y) H Q
theorem PIp.of {op : Operator} {r : R2} (h : OpR X (inplaceOp op) r) : PIp X op r := fun pins s σ H x y v u Q I r1 r2 q => h pins s σ H x y v u Q I r1 r2 q
theorem aug_add : AugI X .Add fun x y => some (x + y) := ⟨_, PIp.of iop_add, fun x y z H Q e q => ⟨x, y, rfl, rfl, by cases e; exact q⟩⟩
theorem aug_sub : AugI X .Sub fun x y => some (x - y) := ⟨_, PIp.of iop_sub, fun x y z H Q e q => ⟨x, y, rfl, rfl, by cases e; exact q⟩⟩
theorem aug_xor : AugI X .BitXor fun x y => some (Builtin.bitXor x y) := ⟨_, PIp.of iop_xor, fun x y z H Q e q => ⟨x, y, rfl, rfl, by cases e; exact q⟩⟩
theorem aug_mul : AugI X .Mult mulO := ⟨_, PIp.of iop_mul, fun x y z H Q e q => by
  unfold mulO at e
  by_cases c : CMul x y
  · rw [if_pos c] at e; cases e; exact ⟨x, y, rfl, rfl, c, q⟩
  · rw [if_neg c] at e; cases e⟩
theorem st_aug {op : Operator} {f : Int → Int → Option Int} {m : R Int} {n : Str} {p : Pos} {x : Int} (hf : AugI X op f) (i : Nat) (h : Γ[i]? = some (.ow (.imm (.int x)))) (he : DD X W Γ e D.int m) (hw : Wk Γe Γ) (hN : X.N.Nodup) (hi : X.N[i]? = some n := by rfl) (hl : Nat.blt i Γ.length = true := by rfl) (hx : Loc X.env.scope n := by first | exact Or.inl rfl | exact Or.inr rfl)
    (hfn : X.fn n = true ∨ X.env.scope.names.lookup n = some .local := by first | exact .inl rfl | exact .inr rfl) : St1 X W Γe Γ (.AugAssign (.Name n p) op e pos) (fun x => .n (Γ.set i (.ow (.imm (.int x))))) (m >>= fun y => ofO (f x y)) := by
  obtain ⟨ti, hp, ht⟩ := hf
  refine smk ⟨_, ps_aug hN hi hx (pe_w X e) hp hfn, fun F M0 M H σ D st po => ?_⟩
  obtain ⟨as, fr, sa⟩ := id st
  obtain ⟨v, a, q1, q2, q3⟩ := Sat.get sa h
  refine ⟨v, q1, he F M0 M H σ _ st (po.bind.imp (fun y _ k w M1 H1 g1 r1 => ?_) fun c z => er_wk st hw z)⟩
  rw [show v = .int x from q2.2, show w = .int y from r1]
  obtain ⟨z, e, k⟩ := k.ofO
  refine ht x y z H1 _ e ?_
  exact Kn.nx k _ rfl M1 H1 _ (st.put g1 (show Own X.G M1 H1 (.imm (.int z)) (.int z) [] from ⟨rfl, rfl⟩) List.nodup_nil (fun _ z => nomatch z) (Nat.le_of_ble_eq_true hl))
/-! ### targets that are tuples -/
/-- the items of a tuple, stored one behind the other -/
def DGs (X : Cx) (Γ : List Sl) (tgs : List Expr) (put : List Sl) (ds : List D) : Prop := ∃ g, PGs X tgs g ∧ ∀ F M0 M H σ vs Q, S X.G F M0 M H σ Γ → Reps X.G M ds vs → (∀ M' H' σ', Same M M' → S X.G F M0 M' H' σ' put → Q σ' H') → g vs σ H Q
theorem dgs_nil : DGs X Γ [] Γ [] := ⟨_, pgs_nil, fun F M0 M H σ vs Q s r q => ⟨r, q M H σ (.refl _) s⟩⟩
theorem dgs_cons {tgs : List Expr} {Γ1 put : List Sl} {d : D} {ds : List D} (h : DG X Γ tg Γ1 d) (k : DGs X Γ1 tgs put ds) (hs : (assignEach (tg :: tgs) X.env).map (·.2) = assign tg X.env :: (assignEach tgs X.env).map (·.2) := by rfl) : DGs X Γ (tg :: tgs) put (d :: ds) := by
  obtain ⟨g, pg, hg⟩ := k
  refine ⟨_, pgs_cons (pg_w X tg) pg hs, fun F M0 M H σ vs Q s r q => ?_⟩
  obtain ⟨v, r', rfl, h1, h2⟩ := r
  exact ⟨v, r', rfl, h F M0 M H σ v _ s h1 fun M1 H1 σ1 m1 s1 => hg F M0 M1 H1 σ1 r' Q s1 (Reps.mono m1 _ _ h2) fun M2 H2 σ2 m2 s2 => q M2 H2 σ2 (m1.trans m2) s2⟩
theorem dg_tup {tgs : List Expr} {put : List Sl} {ds : List D} {k : Nat} (hc : X.calm = true) (h : DGs X Γ tgs put ds) (hn : (assignEach tgs X.env).length = ds.length := by rfl) (hst : (assignEach tgs X.env).findIdx? (·.1) = none := by rfl) : DG X Γ (.Tuple tgs k pos) put (.tup ds) := by
  obtain ⟨g, pg, hg⟩ := h
  intro F M0 M H σ v Q s r q pins sh u I rv
  obtain ⟨a, vs, rfl, h1, h2⟩ := r
  exact (pg_tup (pos := pos) (k := k) hc pg hn hst).run pins sh σ H _ u Q I rv ⟨a, vs, rfl, same_sqt s.mh h1, by rw [h2.len], hg F M0 M H σ vs Q s h2 q⟩
theorem dg_unl {tgs : List Expr} {put : List Sl} {ds : List D} {k : Nat} (hc : X.calm = true) (h : DGs X Γ tgs put ds) (hn : (assignEach tgs X.env).length = ds.length := by rfl) (hst : (assignEach tgs X.env).findIdx? (·.1) = none := by rfl) : DG X Γ (.Tuple tgs k pos) put (.lst ds) := by
  obtain ⟨g, pg, hg⟩ := h
  intro F M0 M H σ v Q s r q pins sh u I rv
  obtain ⟨a, vs, rfl, h1, h2⟩ := r
  exact (pg_unl (pos := pos) (k := k) hc pg hn hst).run pins sh σ H _ u Q I rv ⟨a, vs, rfl, .of (s.mh _ _ h1), by rw [h2.len], hg F M0 M H σ vs Q s h2 q⟩
theorem st_asg {emb : α → D} {m : R α} {put : α → List Sl} (he : DD X W Γ e emb m) (hg : ∀ x, DG X Γ tg (put x) (emb x)) (hw : Wk Γe Γ) (hs : swapsWithSole [tg] e pos.line X.env = pure false := by rfl) (hsw : swappedStores [tg] e X.env = pure none := by rfl)
    (h1 : (assignEach [tg] X.env).map (·.2) = [assign tg X.env] := by rfl) : St1 X W Γe Γ (.Assign [tg] e pos) (fun x => .n (put x)) m :=
  smk ⟨_, ps_asg (pe_w X e) (pg_w X tg) hs hsw h1, fun F M0 M H σ D st po => he F M0 M H σ _ st (po.imp (fun x _ k v M1 H1 g1 r1 => hg x F M0 M1 H1 σ v _ (st.grow g1) r1 fun M2 H2 σ2 _ s2 => Kn.nx k _ rfl M2 H2 σ2 s2) fun c z => er_wk st hw z)⟩
/-- .. where the number of items is known by a test alone: a list (or tuple) of any length -/
def itemsN {α : Type} (n : Nat) (xs : List α) : Option (List α) := if xs.length = n then some xs else none
/-! ### comprehensions -/
/-- an exception within a comprehension isn't carried -/
def noErr {α : Type} : R α → R α
  | .err _ => .bad
  | m => m
theorem Po.noErr {α : Type} {m : R α} {Q : α → Prop} {E : Str → Prop} (h : Po (noErr m) Q E) : Po m Q fun _ => False := by
  cases m with
  | bad => exact h
  | err c => exact h
  | ok a => exact h
def lcR {α β : Type} (c : α → R Bool) (f : α → R β) : List α → R (List β)
  | [] => .ok []
  | x :: xs => noErr (c x) >>= fun b => if b then noErr (f x) >>= fun y => lcR c f xs >>= fun ys => .ok (y :: ys) else lcR c f xs
def compR {α β : Type} (c : α → R Bool) (f : α → R β) (xs : List α) : R (List β) := if xs.length ≤ 16777216 then lcR c f xs else .bad
abbrev wNo : WX := fun _ _ _ _ => False
/-- the tests of a comprehension -/
def DTs (X : Cx) (Γ : List Sl) (ifs : List Expr) (m : R Bool) : Prop :=
  ∃ tt, PTs X ifs tt ∧ ∀ F M0 M H σ Q, S X.G F M0 M H σ Γ → Po m (fun x => ∀ M' H', Gr M H M' H' → Q x H') (fun _ => False) → tt σ H Q
theorem dts_nil : DTs X Γ [] (.ok true) := ⟨_, pts_nil, fun F M0 M H σ Q s po => po M H (.refl s.mh)⟩
theorem dts_one {m : R Bool} (h : DT X wNo Γ c m) : DTs X Γ [c] m := ⟨_, pts_one (pt_w X c), fun F M0 M H σ Q s po => h F M0 M H σ Q s (po.imp (fun _ _ k => k) fun _ z => z.elim)⟩
def wTs (X : Cx) (ifs : List Expr) : TT := fun σ H Q => ∀ pins s, Inv X pins σ H s → wpAny (model X.prog X.w) X.A (forIn ifs true fun c r => if r = true then do let ok ← isTrue c X.env (eval c X.env); pure (ForInStep.yield ok) else pure (ForInStep.yield r)) (TP X pins σ Q) X.xe s
/-- the own names forgotten -/
def wipeΓ (Γ : List Sl) : List Nat → List Sl
  | [] => Γ
  | v :: vs => (wipeΓ Γ vs).set v .un
theorem Sat.unset {G : Ctx} {F M H : Hp} : ∀ {Γ : List Sl} {σ : St} {as : List Addr} {i : Nat}, Sat G F M H Γ σ as → ∃ bs, Sat G F M H (Γ.set i .un) (σ.set i none) bs ∧ bs.Sublist as
  | [], σ, as, i, h => ⟨as, by rw [h.1]; exact ⟨rfl, h.2⟩, .refl _⟩
  | .un :: Γ, σ, as, 0, ⟨x, r, h1, h2⟩ => ⟨as, by rw [h1]; exact ⟨none, r, rfl, h2⟩, .refl _⟩
  | .ow t' :: Γ, σ, as, 0, ⟨w, r, a1, a2, h1, h2, h3, h4⟩ => ⟨a2, by rw [h1]; exact ⟨none, r, rfl, h4⟩, by rw [h2]; exact List.sublist_append_right _ _⟩
  | .pn w t' :: Γ, σ, as, 0, ⟨r, a1, a2, h1, h2, h3, h4⟩ => ⟨a2, by rw [h1]; exact ⟨none, r, rfl, h4⟩, by rw [h2]; exact List.sublist_append_right _ _⟩
  | .lk t' :: Γ, σ, as, 0, ⟨w, r, a0, h1, h2, h3⟩ => ⟨as, by rw [h1]; exact ⟨none, r, rfl, h3⟩, .refl _⟩
  | .lk t' :: Γ, σ, as, i + 1, ⟨w, r, a0, h1, h2, h3⟩ => by
    obtain ⟨bs, s, sub⟩ := Sat.unset (i := i) h3
    exact ⟨bs, by rw [h1]; exact ⟨w, _, a0, rfl, h2, s⟩, sub⟩
  | .un :: Γ, σ, as, i + 1, ⟨x, r, h1, h2⟩ => by
    obtain ⟨bs, s, sub⟩ := Sat.unset (i := i) h2
    exact ⟨bs, by rw [h1]; exact ⟨x, _, rfl, s⟩, sub⟩
  | .ow t' :: Γ, σ, as, i + 1, ⟨w, r, a1, a2, h1, h2, h3, h4⟩ => by
    obtain ⟨bs, s, sub⟩ := Sat.unset (i := i) h4
    exact ⟨a1 ++ bs, by rw [h1]; exact ⟨w, _, a1, bs, rfl, rfl, h3, s⟩, by rw [h2]; exact List.Sublist.append_left sub a1⟩
  | .pn w t' :: Γ, σ, as, i + 1, ⟨r, a1, a2, h1, h2, h3, h4⟩ => by
    obtain ⟨bs, s, sub⟩ := Sat.unset (i := i) h4
    exact ⟨a1 ++ bs, by rw [h1]; exact ⟨_, a1, bs, rfl, rfl, h3, s⟩, by rw [h2]; exact List.Sublist.append_left sub a1⟩
theorem S.wipe {G : Ctx} {F M0 M H : Hp} {σ : St} {Γ : List Sl} (s : S G F M0 M H σ Γ) : ∀ vs, S G F M0 M H (wipe σ vs) (wipeΓ Γ vs)
  | [] => s
  | v :: vs => by
    obtain ⟨as, f, sa⟩ := S.wipe s vs
    obtain ⟨bs, sb, sub⟩ := Sat.unset (i := v) sa
    exact ⟨bs, f.sub sub, sb⟩
/-- the new list at L is filled: what stood around it -/
theorem gr_list {M1 H1 M H : Hp} {L : Addr} {vs : List V} (g : Gr M1 H1 M H) (h0 : H1 L = none) (hm : M L = none) : Gr M1 H1 M (upd H L (.lst vs)) :=
  ⟨fun b o e => by rw [upd_ne (ne_of_none e h0)]; exact g.hh b o e, g.mm, fun b o e => by rw [upd_ne (ne_of_none e hm)]; exact g.mh b o e, g.nw⟩
theorem gr_keepNone {M H M' H' : Hp} (g : Gr M H M' H') {L : Addr} (hm : M L = none) (hh : H L ≠ none) : M' L = none := by
  cases e : M' L with
  | none => rfl
  | some o =>
    rcases g.nw L (by rw [e]; exact fun z => nomatch z) with q | q
    · exact absurd hm q
    · exact absurd q hh
/-- the context of a comprehension's block -/
abbrev blkX (X : Cx) (scope : Scope) (s : Shared) (H : Hp) (C : Addr) (cl : List (Str × Addr)) (fp : List Addr) : Cx := X.blk s H scope (compEnvC scope cl C X.env) fp
/-- the reading of a comprehension, from its parts' -/
theorem lc_reads {G : Ctx} {own : List (Str × Nat)} {et : β → T} {ei : α → D} {cf : α → R Bool} {f : α → R β} {wi : TI} {g : TG} {tt : TT} {te : TE} {mi : R (List α)} {put : α → List Sl} {F M0 M H : Hp} {σ : St} {Q : VK} {E : Str → Prop}
    (st : S G F M0 M H σ Γ)
    (hi : ∀ R : It → Hp → Prop, Po mi (fun xs => ∀ J M' H', Gr M H M' H' → ItD G J (xs.map ei) M' → R J H') E → wi σ H R)
    (hg : ∀ x F M0 M H σ' v (Q : St → Hp → Prop), S G F M0 M H σ' (wipeΓ Γ (own.map (·.2))) → σ' = wipe σ (own.map (·.2)) → Rep G M (ei x) v → (∀ M' H' σ2, Gr M H M' H' → S G F M0 M' H' σ2 (put x) → wipe σ2 (own.map (·.2)) = σ' → Q σ2 H') → g v σ' H Q)
    (ht : ∀ x F M0 M H σ' Q, S G F M0 M H σ' (put x) → Po (cf x) (fun b => ∀ M' H', Gr M H M' H' → Q b H') (fun _ => False) → tt σ' H Q)
    (he : ∀ x F M0 M H σ' Q, S G F M0 M H σ' (put x) → Po (f x) (fun y => WF G M H (et y) Q) (fun _ => False) → te σ' H Q)
    (po : Po (mi >>= fun xs => compR cf f xs) (fun ys => WF G M H (.lst (ys.map et)) Q) E) : tLc wi g tt te (own.map (·.2)) σ H Q := by
  refine hi _ (po.bind.imp (fun xs _ k J M1 H1 g1 it => ?_) fun c z => z)
  have k : Po (if xs.length ≤ 16777216 then lcR cf f xs else .bad) _ E := k
  by_cases hz : xs.length ≤ 16777216
  case neg => rw [if_neg hz] at k; exact k.elim
  rw [if_pos hz] at k
  intro L hL
  have hML : M1 L = none := by
    cases e : M1 L with
    | none => rfl
    | some o => rw [g1.mh L o e] at hL; cases hL
  have hHL : H L = none := g1.hh.free hL
  refine ⟨fun i m H2 => m = xs.length - i ∧ i ≤ xs.length ∧ ∃ M2 ys acc as, Gr M1 H1 M2 H2 ∧ M2 L = none ∧ H2 L = some (.lst acc) ∧ acc.length ≤ i ∧ Owns G M2 H2 (ys.map et) acc as ∧ as.Nodup ∧ (∀ a ∈ as, H1 a = none ∧ M2 a = none ∧ a ≠ L) ∧
      Po (lcR cf f (xs.drop i)) (fun zs => WF G M H (.lst ((ys ++ zs).map et)) Q) E, ⟨xs.length, by simp, Nat.zero_le _, M1, [], [], [], gr_list (.refl g1.mh) hL hML, hML, upd_same, Nat.le_refl _, (show Owns G M1 _ (([] : List β).map et) [] [] from ⟨rfl, rfl⟩), List.nodup_nil, (fun _ z => nomatch z), k⟩, ?_⟩
  rintro i m H2 ⟨rfl, hi2, M2, ys, acc, as, g2, hM2, hH2, hl, ow, nd, fr, k⟩
  obtain ⟨i1, i2⟩ := it M2 H2 i g2.mm g2.mh
  by_cases hlt : i < xs.length
  · have ex : xs[i]? = some xs[i] := List.getElem?_eq_getElem hlt
    obtain ⟨go, yl⟩ := i1 (ei xs[i]) (by rw [List.getElem?_map, ex]; rfl)
    rw [List.drop_eq_getElem_cons hlt] at k
    have k := (Po.bind (m := noErr (cf xs[i])) k)
    refine .inr ⟨go, fun H' => ∃ M3 ys acc as, Gr M1 H1 M3 H' ∧ M3 L = none ∧ H' L = some (.lst acc) ∧ acc.length ≤ i + 1 ∧ Owns G M3 H' (ys.map et) acc as ∧ as.Nodup ∧ (∀ a ∈ as, H1 a = none ∧ M3 a = none ∧ a ≠ L) ∧
      Po (lcR cf f (xs.drop (i + 1))) (fun zs => WF G M H (.lst ((ys ++ zs).map et)) Q) E, fun H' q => ⟨xs.length - (i + 1), by omega, rfl, hlt, q⟩, fun x H' y => ?_⟩
    obtain ⟨M3, g3, r3⟩ := yl x H' y
    have g13 := g2.trans g3
    have st3 := ((st.grow g1).grow g13).wipe (own.map (·.2))
    refine hg xs[i] F M0 M3 H' _ x _ st3 rfl r3 fun M4 H4 σ4 g4 s4 ew => ⟨ew, ?_⟩
    refine ht xs[i] F M0 M4 H4 σ4 _ s4 (k.noErr.imp (fun b _ k M5 H5 g5 => ?_) fun _ z => z)
    have g25 := (g3.trans g4).trans g5
    have hH5 : H5 L = some (.lst acc) := g25.hh _ _ hH2
    have hM5 : M5 L = none := gr_keepNone g25 hM2 (by rw [hH2]; exact fun z => nomatch z)
    have ow5 := Owns.keep g25.mm _ _ _ (fun a _ o e => g25.hh a o e) ow
    have fr5 : ∀ a ∈ as, H1 a = none ∧ M5 a = none ∧ a ≠ L := fun a ha => ⟨(fr a ha).1, gr_keepNone g25 (fr a ha).2.1 (Owns.there _ _ _ ow a ha), (fr a ha).2.2⟩
    cases b with
    | false =>
      rw [if_neg Bool.false_ne_true] at k
      exact ⟨M5, ys, acc, as, g2.trans g25, hM5, hH5, by omega, ow5, nd, fr5, k⟩
    | true =>
      rw [if_pos rfl] at k
      have k := (Po.bind (m := noErr (f xs[i])) k)
      rw [if_pos rfl]
      refine he xs[i] F M0 M5 H5 σ4 _ (s4.grow g5) (k.noErr.imp (fun y _ k v M6 H6 bs g6 o6 nd6 fr6 => ?_) fun _ z => z)
      have hH6 : H6 L = some (.lst acc) := g6.hh _ _ hH5
      have hM6 : M6 L = none := gr_keepNone g6 hM5 (by rw [hH5]; exact fun z => nomatch z)
      have bL : ∀ a ∈ bs, a ≠ L := fun a ha z => by
        have := (fr6 a ha).1
        rw [z, hH5] at this; cases this
      refine ⟨acc, hH6, Nat.lt_of_lt_of_le (Nat.lt_of_le_of_lt hl hlt) (by rw [sizeLine_eq]; exact hz), M6, ys ++ [y], acc ++ [v], as ++ bs, gr_list ((g2.trans g25).trans g6) hL hM6, hM6, upd_same, by rw [List.length_append, List.length_singleton]; omega, ?_, ?_, fun a ha => ?_, ?_⟩
      · rw [List.map_append]
        refine Owns.app (Owns.keep g6.mm _ _ _ (fun a ha o e => by rw [upd_ne (fr5 a ha).2.2]; exact g6.hh a o e) ow5) ?_
        exact ⟨v, [], bs, [], rfl, by simp, Own.keep (.refl _) _ _ _ (fun a ha o e => by rw [upd_ne (bL a ha)]; exact e) o6, ⟨rfl, rfl⟩⟩
      · rw [List.nodup_append]
        refine ⟨nd, nd6, fun a ha b hb e => ?_⟩
        subst e
        exact Owns.there _ _ _ ow5 a ha (fr6 a hb).1
      · rcases List.mem_append.mp ha with z | z
        · exact ⟨(fr5 a z).1, gr_keepNone g6 (fr5 a z).2.1 (Owns.there _ _ _ ow5 a z), (fr5 a z).2.2⟩
        · exact ⟨(g2.trans g25).hh.free (fr6 a z).1, (fr6 a z).2, bL a z⟩
      · refine k.bind.imp (fun zs _ k => ?_) fun _ z => z
        have k : WF G M H (.lst ((ys ++ (y :: zs)).map et)) Q := k
        rw [List.append_assoc]
        exact k
  · have e : xs.drop i = [] := List.drop_eq_nil_of_le (by omega)
    rw [e] at k
    have k : WF G M H (.lst ((ys ++ []).map et)) Q := k
    rw [List.append_nil] at k
    refine .inl ⟨i2 (by rw [List.length_map]; omega), k (.ref L) M2 H2 (L :: as) (g1.trans g2) ⟨L, acc, as, rfl, rfl, hH2, ow⟩ ?_ fun a ha => ?_⟩
    · rw [List.nodup_cons]
      exact ⟨fun z => (fr L z).2.2 rfl, nd⟩
    · rcases List.mem_cons.mp ha with z | z
      · rw [z]; exact ⟨hHL, hM2⟩
      · exact ⟨g1.hh.free (fr a z).1, (fr a z).2.1⟩
/-- a target of names alone -/
def DGc (X : Cx) (vs : List Nat) (Γ : List Sl) (tg : Expr) (put : List Sl) (d : D) : Prop := ∀ F M0 M H σ v Q, S X.G F M0 M H σ Γ → Rep X.G M d v → (∀ σ', S X.G F M0 M H σ' put → wipe σ' vs = wipe σ vs → Q σ' H) → wG X tg v σ H Q
theorem wipe_set {x : Option V} {i : Nat} : ∀ {vs : List Nat} {σ : St}, i ∈ vs → wipe (σ.set i x) vs = wipe σ vs
  | [], σ, h => nomatch h
  | v :: vs, σ, h => by
    show (wipe (σ.set i x) vs).set v none = (wipe σ vs).set v none
    by_cases hv : i ∈ vs
    · rw [wipe_set hv]
    · have e : i = v := by
        rcases List.mem_cons.mp h with z | z
        · exact z
        · exact absurd z hv
      subst e
      have key : ∀ (vs : List Nat) (σ : St), i ∉ vs → wipe (σ.set i x) vs = (wipe σ vs).set i x := by
        intro vs
        induction vs with
        | nil => intro σ _; rfl
        | cons w ws ih =>
          intro σ hw
          show (wipe (σ.set i x) ws).set w none = ((wipe σ ws).set w none).set i x
          rw [ih σ (fun z => hw (List.mem_cons_of_mem _ z)), List.set_comm _ _ (fun z => hw (by rw [z]; exact List.mem_cons_self))]
      rw [key vs σ hv, List.set_set]
theorem wipe_idem {σ : St} : ∀ {vs : List Nat}, wipe (wipe σ vs) vs = wipe σ vs
  | [] => rfl
  | v :: vs => by
    show (wipe ((wipe σ vs).set v none) vs).set v none = (wipe σ vs).set v none
    by_cases hv : v ∈ vs
    · rw [wipe_set hv, wipe_idem]
    · have key : ∀ (vs : List Nat) (σ : St), v ∉ vs → wipe (σ.set v none) vs = (wipe σ vs).set v none := by
        intro vs
        induction vs with
        | nil => intro σ _; rfl
        | cons w ws ih =>
          intro σ hw
          show (wipe (σ.set v none) ws).set w none = ((wipe σ ws).set w none).set v none
          rw [ih σ (fun z => hw (List.mem_cons_of_mem _ z)), List.set_comm _ _ (fun z => hw (by rw [z]; exact List.mem_cons_self))]
      rw [key vs _ hv, List.set_set, wipe_idem]
theorem dgc_name {n : Str} {d : D} {vs : List Nat} (i : Nat) (hN : X.N.Nodup) (hi : X.N[i]? = some n := by rfl) (hl : Nat.blt i Γ.length = true := by rfl) (hx : Loc X.env.scope n := by first | exact Or.inl rfl | exact Or.inr rfl) (hf : X.fn n = true ∨ X.env.scope.names.lookup n = some .local := by first | exact .inl rfl | exact .inr rfl) (hv : i ∈ vs := by decide) :
    DGc X vs Γ (.Name n pos) (Γ.set i (.ow (.imm d))) d := fun F M0 M H σ v Q s r q pins sh u I rv => by
  have p := pg_name (pos := pos) hN hi hx hf
  exact p.run pins sh σ H v u Q I rv (q _ (s.put (.refl s.mh) (show Own X.G M H (.imm d) v [] from ⟨rfl, r⟩) List.nodup_nil (fun _ z => nomatch z) (Nat.le_of_ble_eq_true hl)) (wipe_set hv))
def DGcs (X : Cx) (ws : List Nat) (Γ : List Sl) (tgs : List Expr) (put : List Sl) (ds : List D) : Prop := ∃ g, PGs X tgs g ∧ ∀ F M0 M H σ vs Q, S X.G F M0 M H σ Γ → Reps X.G M ds vs → (∀ σ', S X.G F M0 M H σ' put → wipe σ' ws = wipe σ ws → Q σ' H) → g vs σ H Q
theorem dgcs_nil {ws : List Nat} : DGcs X ws Γ [] Γ [] := ⟨_, pgs_nil, fun F M0 M H σ vs Q s r q => ⟨r, q σ s rfl⟩⟩
theorem dgcs_cons {ws : List Nat} {tgs : List Expr} {Γ1 put : List Sl} {d : D} {ds : List D} (h : DGc X ws Γ tg Γ1 d) (k : DGcs X ws Γ1 tgs put ds) (hs : (assignEach (tg :: tgs) X.env).map (·.2) = assign tg X.env :: (assignEach tgs X.env).map (·.2) := by rfl) : DGcs X ws Γ (tg :: tgs) put (d :: ds) := by
  obtain ⟨g, pg, hg⟩ := k
  refine ⟨_, pgs_cons (pg_w X tg) pg hs, fun F M0 M H σ vs Q s r q => ?_⟩
  obtain ⟨v, r', rfl, h1, h2⟩ := r
  exact ⟨v, r', rfl, h F M0 M H σ v _ s h1 fun σ1 s1 e1 => hg F M0 M H σ1 r' Q s1 h2 fun σ2 s2 e2 => q σ2 s2 (e2.trans e1)⟩
theorem dgc_tup {ws : List Nat} {tgs : List Expr} {put : List Sl} {ds : List D} {k : Nat} (hc : X.calm = true) (h : DGcs X ws Γ tgs put ds) (hn : (assignEach tgs X.env).length = ds.length := by rfl) (hst : (assignEach tgs X.env).findIdx? (·.1) = none := by rfl) : DGc X ws Γ (.Tuple tgs k pos) put (.tup ds) := by
  obtain ⟨g, pg, hg⟩ := h
  intro F M0 M H σ v Q s r q pins sh u I rv
  obtain ⟨a, vs, rfl, h1, h2⟩ := r
  exact (pg_tup (pos := pos) (k := k) hc pg hn hst).run pins sh σ H _ u Q I rv ⟨a, vs, rfl, same_sqt s.mh h1, by rw [h2.len], hg F M0 M H σ vs Q s h2 q⟩
theorem df_lc {scope : Scope} {ifs : List Expr} {et : β → T} {ei : α → D} {cf : α → R Bool} {f : α → R β} {mi : R (List α)} {put : α → List Sl} (own : List (Str × Nat)) (hc : X.calm = true) (hN : X.N.Nodup) (hi : DI X W Γ tg iter (fun xs => xs.map ei) mi) (hw : Wk Γ Γ)
    (hg : ∀ s H C cl fp x, DGc (blkX X scope s H C cl fp) (own.map (·.2)) (wipeΓ Γ (own.map (·.2))) tg (put x) (ei x))
    (ht : ∀ s H C cl fp x, DTs (blkX X scope s H C cl fp) (put x) ifs (cf x)) (he : ∀ s H C cl fp x, DF (blkX X scope s H C cl fp) wNo (put x) elt et (f x))
    (N' : List Str) (sc' : Scope) (hn1 : X.N = N' := by rfl) (hn2 : X.env.scope = sc' := by rfl) (ok : blkC N' sc' scope own = true := by decide +kernel) (hs : ∀ x, foldedSetIterable iter X.env x = pure x := by intro _; rfl) :
    DF X W Γ (.ListComp elt [⟨tg, iter, ifs, 0⟩] scope pos) (fun ys => .lst (ys.map et)) (mi >>= fun xs => compR cf f xs) :=
  dmk ⟨_, pe_lc (own := own) (g := fun v σ H Q => ∀ s Hh C cl fp, wG (blkX X scope s Hh C cl fp) tg v σ H Q) (tt := fun σ H Q => ∀ s Hh C cl fp, wTs (blkX X scope s Hh C cl fp) ifs σ H Q) (te := fun σ H Q => ∀ s Hh C cl fp, wE (blkX X scope s Hh C cl fp) elt σ H Q) hc hN (pi_w X iter tg) (blkOk_by (by rw [hn1, hn2]; exact ok))
    (fun s Hh C cl fp => ⟨fun pins sh σ H v u Q I r h => h s Hh C cl fp pins sh u I r⟩) (fun s Hh C cl fp => ⟨fun pins sh σ H Q I h => h s Hh C cl fp pins sh I⟩) (fun s Hh C cl fp => ⟨fun pins sh σ H Q I h => h s Hh C cl fp pins sh I⟩) hs,
    fun F M0 M H σ Q st po => lc_reads (put := put) (E := fun c => ∀ M' H', Gr M H M' H' → Er X.G W c σ H') st (fun R po => hi F M0 M H σ R st po)
      (fun x F M0 M H σ' v Q s e r q s0 Hh C cl fp => hg s0 Hh C cl fp x F M0 M H σ' v Q s r fun σ2 s2 e2 => q M H σ2 (.refl s.mh) s2 (by rw [e2, e, wipe_idem]))
      (fun x F M0 M H σ' Q s po s0 Hh C cl fp => by
        obtain ⟨tt, pt, qt⟩ := ht s0 Hh C cl fp x
        exact fun pins sh I => pt.run pins sh σ' H Q I (qt F M0 M H σ' Q s po))
      (fun x F M0 M H σ' Q s po s0 Hh C cl fp => he s0 Hh C cl fp x F M0 M H σ' Q s (po.imp (fun _ _ k => k) fun _ z => z.elim)) po⟩
theorem st_setLc {n : Str} {py pos2 : Pos} {scope : Scope} {ifs : List Expr} {et : β → T} {ei : α → D} {cf : α → R Bool} {f : α → R β} {mi : R (List α)} {put : α → List Sl} (i : Nat) (own : List (Str × Nat)) (hc : X.calm = true) (hN : X.N.Nodup) (hi : DI X W Γ tg iter (fun xs => xs.map ei) mi)
    (hg : ∀ s H C cl fp x, DGc (blkX X scope s H C cl fp) (own.map (·.2)) (wipeΓ Γ (own.map (·.2))) tg (put x) (ei x))
    (ht : ∀ s H C cl fp x, DTs (blkX X scope s H C cl fp) (put x) ifs (cf x)) (he : ∀ s H C cl fp x, DF (blkX X scope s H C cl fp) wNo (put x) elt et (f x)) (hw : Wk Γe Γ)
    (N' : List Str) (sc' : Scope) (hn1 : X.N = N' := by rfl) (hn2 : X.env.scope = sc' := by rfl) (ok : blkC N' sc' scope own = true := by decide +kernel) (hs : ∀ x, foldedSetIterable iter X.env x = pure x := by intro _; rfl)
    (hy : X.N[i]? = some n := by rfl) (hyl : X.env.scope.names.lookup n = some .local := by rfl) (hl : Nat.blt i Γ.length = true := by rfl) (hsw : swapsWith (.ListComp elt [⟨tg, iter, ifs, 0⟩] scope pos2) (some (.Name n py)) pos.line X.env = pure true := by exact sw_true rfl rfl rfl (by decide +kernel)) :
    St1 X W Γe Γ (.Assign [.Name n py] (.ListComp elt [⟨tg, iter, ifs, 0⟩] scope pos2) pos) (fun ys => .n (Γ.set i (.ow (.lst (ys.map et))))) (mi >>= fun xs => compR cf f xs) :=
  smk ⟨_, ps_setLc (own := own) (i := i) (g := fun v σ H Q => ∀ s Hh C cl fp, wG (blkX X scope s Hh C cl fp) tg v σ H Q) (tt := fun σ H Q => ∀ s Hh C cl fp, wTs (blkX X scope s Hh C cl fp) ifs σ H Q) (te := fun σ H Q => ∀ s Hh C cl fp, wE (blkX X scope s Hh C cl fp) elt σ H Q) hc hN hy hyl hsw (pi_w X iter tg) (blkOk_by (by rw [hn1, hn2]; exact ok))
    (fun s Hh C cl fp => ⟨fun pins sh σ H v u Q I r h => h s Hh C cl fp pins sh u I r⟩) (fun s Hh C cl fp => ⟨fun pins sh σ H Q I h => h s Hh C cl fp pins sh I⟩) (fun s Hh C cl fp => ⟨fun pins sh σ H Q I h => h s Hh C cl fp pins sh I⟩) hs,
    fun F M0 M H σ D st po => lc_reads (put := put) (E := fun c => ∀ M' H', Gr M H M' H' → Er X.G W c σ H') (Q := fun x H1 => gName i x σ H1 D.nx) st (fun R po => hi F M0 M H σ R st po)
      (fun x F M0 M H σ' v Q s e r q s0 Hh C cl fp => hg s0 Hh C cl fp x F M0 M H σ' v Q s r fun σ2 s2 e2 => q M H σ2 (.refl s.mh) s2 (by rw [e2, e, wipe_idem]))
      (fun x F M0 M H σ' Q s po s0 Hh C cl fp => by
        obtain ⟨tt, pt, qt⟩ := ht s0 Hh C cl fp x
        exact fun pins sh I => pt.run pins sh σ' H Q I (qt F M0 M H σ' Q s po))
      (fun x F M0 M H σ' Q s po s0 Hh C cl fp => he s0 Hh C cl fp x F M0 M H σ' Q s (po.imp (fun _ _ k => k) fun _ z => z.elim))
      (po.imp (fun ys _ k v M' H' as g o nd fr => Kn.nx k _ rfl M' H' _ (st.put g o nd fr (Nat.le_of_ble_eq_true hl))) fun c z => er_wk st hw z)⟩
end
end Cn
/-! Cn7: equality of data, isinstance, exceptions, the end -/
namespace Cn
open PySem PySem.Spec L2
mutual
def toPy : D → PyData
  | .any => .dict []
  | .val _ => .dict []
  | .non => .none
  | .bl b => .bool b
  | .int i => .int i
  | .str s => .str s
  | .tup ds => .tuple (toPys ds)
  | .lst ds => .list (toPys ds)
  | .frl ds => .list (toPys ds)
  | .dic _ _ => .dict []
  | .dit _ _ => .dict []
  | .obj _ _ _ => .dict []
def toPys : List D → List PyData
  | [] => []
  | d :: ds => toPy d :: toPys ds
end
section
variable {G : Ctx} {M H : Hp}
mutual
theorem Rep.dp (mh : Same M H) : ∀ (d : D) (v : V), PyData.canLay0 (toPy d) = true → Rep G M d v → Dp G.K H v (toPy d)
  | .any, v, h, r => nomatch h
  | .val _, v, h, r => nomatch h
  | .non, v, h, r => by rw [show v = .non from r]; exact .non
  | .bl b, v, h, r => by rw [show v = .bl b from r]; exact .bl b
  | .int b, v, h, r => by rw [show v = .int b from r]; exact .int b
  | .str b, v, h, r => by rw [show v = .str b from r]; exact .str b
  | .tup ds, v, h, ⟨a, vs, h1, h2, h3⟩ => by rw [h1]; exact .tup (same_sqt mh h2) (Reps.dp mh ds vs h h3)
  | .lst ds, v, h, ⟨a, vs, h1, h2, h3⟩ => by rw [h1]; exact .lst (.of (mh _ _ h2)) (Reps.dp mh ds vs h h3)
  | .frl ds, v, h, ⟨a, vs, h1, h2, h3⟩ => by rw [h1]; exact .lst (mh.seq h2) (Reps.dp mh ds vs h h3)
  | .dic _ _, v, h, r => nomatch h
  | .dit _ _, v, h, r => nomatch h
  | .obj _ _ _, v, h, r => nomatch h
theorem Reps.dp (mh : Same M H) : ∀ (ds : List D) (vs : List V), PyData.canLayAll0 (toPys ds) = true → Reps G M ds vs → DpAll G.K H vs (toPys ds)
  | [], vs, h, r => by rw [show vs = [] from r]; exact .nil
  | d :: ds, vs, h, ⟨v, r, h1, h2, h3⟩ => by
    rw [h1]
    have h : (PyData.canLay0 (toPy d) && PyData.canLayAll0 (toPys ds)) = true := h
    rw [Bool.and_eq_true] at h
    exact .cons (Rep.dp mh d v h.1 h2) (Reps.dp mh ds r h.2 h3)
end
end
def eqO (d e : D) : Option Bool := if SeqAt.shaped (toPy d) && SeqAt.shaped (toPy e) then some (PyData.eqv (toPy d) (toPy e)) else none
def neO (d e : D) : Option Bool := (eqO d e).map (!·)
section
variable {X : Cx} {W : WX} {Γe Γ Γt : List Sl} {a b e c tg elt iter : Expr} {es : List Expr} {α β γ ω ω1 : Type} {pos : Pos} {s : Stmt} {rest ss A B : List Stmt}
/-- a value that is compared as data -/
abbrev DE (X : Cx) (W : WX) (Γ : List Sl) (e : Expr) {α : Type} (emb : α → D) (m : R α) : Prop :=
  JQ X Γ (wE X e) fun F M0 M H σ Q => Po m (fun x => ∀ v M' H', Gr M H M' H' → (∀ H'', Same H' H'' → PyData.canLay0 (toPy (emb x)) = true → Dp X.K H'' v (toPy (emb x))) → Q v H') (fun c => ∀ M' H', Gr M H M' H' → Er X.G W c σ H')
theorem de_dd {emb : α → D} {m : R α} (h : DD X W Γ e emb m) : DE X W Γ e emb m := ⟨fun F M0 M H σ Q s po => h F M0 M H σ Q s (po.imp (fun x _ k v M' H' g r => k v M' H' g fun H'' s2 c => Rep.dp (G := X.G) (g.mh.trans s2) _ _ c r) fun _ z => z)⟩
theorem de_dl {ei : β → D} {m : R (List β)} (h : DL X W Γ e (fun xs => xs.map ei) m) : DE X W Γ e (fun xs => .lst (xs.map ei)) m := ⟨fun F M0 M H σ Q s po => h F M0 M H σ Q s (po.imp (fun x _ k a vs M' H' g hl r => k _ M' H' g fun H'' s2 c => .lst (s2.seq hl) (Reps.dp (G := X.G) (g.mh.trans s2) _ _ c r)) fun _ z => z)⟩
theorem eqO_some {d e : D} {k : Bool} (h : eqO d e = some k) : SeqAt.shaped (toPy d) = true ∧ SeqAt.shaped (toPy e) = true ∧ k = PyData.eqv (toPy d) (toPy e) := by
  unfold eqO at h
  cases c : (SeqAt.shaped (toPy d) && SeqAt.shaped (toPy e)) with
  | false => rw [c] at h; cases h
  | true =>
    rw [c] at h
    rw [Bool.and_eq_true] at c
    exact ⟨c.1, c.2, (Option.some.inj h).symm⟩
theorem two_eq {neg : Bool} {r : R2} {ea : α → D} {eb : β → D} {ma : R α} {mb : R β} {F M0 M H : Hp} {σ : St} {Q : VK} (hr : ∀ x y d e H Q, Dp X.K H x d → Dp X.K H y e → SeqAt.shaped d = true → SeqAt.shaped e = true → Q (.bl (neg != PyData.eqv d e)) H → r x y H Q) (ha : DE X W Γ a ea ma) (hb : DE X W Γ b eb mb) (s : S X.G F M0 M H σ Γ)
    (po : Po (ma >>= fun x => mb >>= fun y => ofO ((eqO (ea x) (eb y)).map (neg != ·))) (fun x => WD X.G M H (.bl x) Q) (fun c => ∀ M' H', Gr M H M' H' → Er X.G W c σ H')) : tOp r (wE X a) (wE X b) σ H Q := by
  refine ha F M0 M H σ _ s (po.bind.imp (fun x _ k v M1 H1 g1 p1 => ?_) fun _ z => z)
  refine hb F M0 M1 H1 σ _ (s.grow g1) (k.bind.imp (fun y _ k w M2 H2 g2 p2 => ?_) fun c z M' H' g => z M' H' (g1.trans g))
  obtain ⟨z, e, k⟩ := k.ofO
  cases q : eqO (ea x) (eb y) with
  | none => rw [q] at e; cases e
  | some k' =>
    rw [q] at e
    cases e
    obtain ⟨s1, s2, rfl⟩ := eqO_some q
    exact hr v w _ _ H2 _ (p1 H2 g2.hh (SeqAt.canLay_of_shaped s1)) (p2 H2 (.refl _) (SeqAt.canLay_of_shaped s2)) s1 s2 (k _ M2 H2 (g1.trans g2) rfl)
theorem dd_eq {ea : α → D} {eb : β → D} {ma : R α} {mb : R β} (hu : X.A.units + 64 < cLine) (ha : DE X W Γ a ea ma) (hb : DE X W Γ b eb mb) : DD X W Γ (.Compare a [.Eq] [b] pos) D.bl (ma >>= fun x => mb >>= fun y => ofO ((eqO (ea x) (eb y)).map (false != ·))) :=
  dmk ⟨_, pe_cmpR (op_eqD hu) (pe_w X a) (pe_w X b) (nomark _), fun F M0 M H σ Q s po => two_eq (neg := false) (fun x y d e H Q h1 h2 h3 h4 q => ⟨d, e, h1, h2, h3, h4, by rw [Bool.false_bne] at q; exact q⟩) ha hb s po⟩
theorem dd_ne {ea : α → D} {eb : β → D} {ma : R α} {mb : R β} (hu : X.A.units + 64 < cLine) (ha : DE X W Γ a ea ma) (hb : DE X W Γ b eb mb) : DD X W Γ (.Compare a [.NotEq] [b] pos) D.bl (ma >>= fun x => mb >>= fun y => ofO ((eqO (ea x) (eb y)).map (true != ·))) :=
  dmk ⟨_, pe_cmpR (op_neD hu) (pe_w X a) (pe_w X b) (nomark _), fun F M0 M H σ Q s po => two_eq (neg := true) (fun x y d e H Q h1 h2 h3 h4 q => ⟨d, e, h1, h2, h3, h4, by rw [Bool.true_bne] at q; exact q⟩) ha hb s po⟩
theorem dt_eq {ea : α → D} {eb : β → D} {ma : R α} {mb : R β} (hu : X.A.units + 64 < cLine) (ha : DE X W Γ a ea ma) (hb : DE X W Γ b eb mb) : DT X W Γ (.Compare a [.Eq] [b] pos) (ma >>= fun x => mb >>= fun y => ofO ((eqO (ea x) (eb y)).map (false != ·))) :=
  tmk ⟨_, pt_cmpR (op_eqD hu) (pe_w X a) (pe_w X b) (nomark _), fun F M0 M H σ Q s po => two_eq (neg := false) (fun x y d e H Q h1 h2 h3 h4 q => ⟨d, e, h1, h2, h3, h4, by rw [Bool.false_bne] at q; exact q⟩) ha hb s (po.imp (fun x _ k v M' H' g q => ⟨x, q, k M' H' g⟩) fun _ z => z)⟩
theorem dt_ne {ea : α → D} {eb : β → D} {ma : R α} {mb : R β} (hu : X.A.units + 64 < cLine) (ha : DE X W Γ a ea ma) (hb : DE X W Γ b eb mb) : DT X W Γ (.Compare a [.NotEq] [b] pos) (ma >>= fun x => mb >>= fun y => ofO ((eqO (ea x) (eb y)).map (true != ·))) :=
  tmk ⟨_, pt_cmpR (op_neD hu) (pe_w X a) (pe_w X b) (nomark _), fun F M0 M H σ Q s po => two_eq (neg := true) (fun x y d e H Q h1 h2 h3 h4 q => ⟨d, e, h1, h2, h3, h4, by rw [Bool.true_bne] at q; exact q⟩) ha hb s (po.imp (fun x _ k v M' H' g q => ⟨x, q, k M' H' g⟩) fun _ z => z)⟩
/-! ### isinstance of data -/
def tyD : D → Option String
  | .non => some "NoneType"
  | .bl _ => some "bool"
  | .int _ => some "int"
  | .str _ => some "str"
  | .tup _ => some "tuple"
  | .lst _ => some "list"
  | .frl _ => some "list"
  | .dic _ _ => some "dict"
  | .dit _ _ => some "dict"
  | _ => none
theorem tyX_of {G : Ctx} {M H : Hp} {d : D} {v : V} {t : String} (mh : Same M H) (r : Rep G M d v) (h : tyD d = some t) : TyX G.K H v (.type t) := by
  cases d with
  | any => cases h
  | val _ => cases h
  | non => cases h; rw [show v = .non from r]; exact .base .non
  | bl b => cases h; rw [show v = .bl b from r]; exact .base (.bl b)
  | int b => cases h; rw [show v = .int b from r]; exact .base (.int b)
  | str b => cases h; rw [show v = .str b from r]; exact .base (.str b)
  | tup ds =>
    cases h
    obtain ⟨a, vs, rfl, h2, h3⟩ := r
    rcases h2 with (h2 | ⟨o, h2⟩) | ⟨o, its, n, k, c, _⟩
    · exact .base (.tup (mh _ _ h2))
    · exact .fTuple (mh _ _ h2)
    · exact .kTuple k c
  | lst ds =>
    cases h
    obtain ⟨a, vs, rfl, h2, h3⟩ := r
    exact .base (.lst (mh _ _ h2))
  | frl ds =>
    cases h
    obtain ⟨a, vs, rfl, h2, h3⟩ := r
    rcases h2 with (h2 | ⟨o, h2⟩) | ⟨o, its, n, k, c, _⟩
    · exact .base (.lst (mh _ _ h2))
    · exact .base (.frz (mh _ _ h2))
    · exact .kList k c
  | dic ks ds =>
    cases h
    obtain ⟨a, vs, rfl, h2, h3⟩ := r
    exact .base (.dK (mh _ _ h2))
  | dit ks ds =>
    cases h
    obtain ⟨a, vs, rfl, h2, h3⟩ := r
    exact .base (.dT (mh _ _ h2))
  | obj C fs ds => cases h
theorem dd_isi {emb : α → D} {m : R α} {n : Str} {t u : String} {k : Bool} {p p2 : Pos} (h : DD X W Γ e emb m) (hm : X.mg "isinstance" = none) (hn : X.mg n = none) (hv : bootBuiltins n = some (.type u)) (ht : ∀ x, tyD (emb x) = some t) (hk : kitB t u = some k) (hg : Gl X "isinstance" := by rfl) (hgn : Gl X n := by rfl)
    (hnn : n ≠ "__name__" := by decide) (hd : (n == ("__debug__" : Str)) = false := by decide) (hs : starEach [e, .Name n p2] X.env = (false, eval e X.env) :: starEach [.Name n p2] X.env := by exact star_cons rfl) (hs2 : starEach [Expr.Name n p2] X.env = (false, eval (.Name n p2) X.env) :: starEach [] X.env := by exact star_cons rfl) (hpl : (backTo pos (starEach [Expr.Name n p2] X.env)).any (·.1) = false := by exact star_none rfl) :
    DD X W Γ (.Call (.Name "isinstance" p) [e, .Name n p2] [] pos) D.bl (m >>= fun _ => .ok k) :=
  dmk ⟨_, pe_callB call_isi hg hm (by decide +kernel) (pa_cons (pe_w X e) (pa_cons (pe_bltn (v := .ty u) hgn hn hv rfl hnn hd) pa_nil (hs := hs2)) (hs := hs)) (he := hs) (hpl := hpl), fun F M0 M H σ Q s po => h F M0 M H σ _ s (po.bind.imp (fun x _ q v M1 H1 g1 r1 =>
    ⟨v, .ty u, .type t, .type u, k, rfl, .ty u, tyX_of (G := X.G) g1.mh r1 (ht x), kit_ty hk, q _ M1 H1 g1 rfl⟩) fun _ z => z)⟩
/-! ### exceptions -/
structure XcF (K : PySem.W.Frag) (mg : Str → Option Value) (c : Str) (C : Addr) : Prop where
  g : mg c = some (.ref C)
  x : PySem.W.excIn K C [.type "ValueError", .type "Exception", .type "BaseException", .type "object"] "ValueError.__new__" = true
  k : PySem.W.keepIn K (.ref C) = true
  b : PySem.W.subIn K (.ref C) (.type "BaseException") = some true
  t : PySem.W.typeIn K (.ref C) = some (.type "type")
theorem bk_raise {n m : Str} {C : Addr} {j : Nat} {p p2 pos2 : Pos} {κ : ω → Kd} (f : XcF X.K X.mg n C) (hc : X.calm = true) (tk : Takes X W) (hw : Wk Γe Γ) (hg : Gl X n := by rfl) (hd : (n == ("__debug__" : Str)) = false := by decide) :
    Bk X W Γe Γ (.Raise (some (.Call (.Name n p) [.Constant (.str m) j p2] [] pos)) none pos2 :: rest) κ (.err n) :=
  bmk ⟨_, pss_cons (ps_raise hc tk (pmk_own PySem.F.excBase_ValueError f.x f.g f.k (raises_own f.b f.t) hg hd)) (pss_w X rest), fun F M0 M H σ D s po => (po : ∀ M' H' σ', S X.G F M0 M' H' σ' Γe → Er X.G W n σ' H') M H σ (s.wk hw) C f.g⟩
def catchR {ω : Type} (tbl : Str → Option Bool) (m : R ω) (h : Str → R ω) : R ω :=
  match m with
  | .err c => match tbl c with
    | none => .bad
    | some true => noErr (h c)
    | some false => .err c
  | m => m
theorem st_try {x : Str} {cv : Value} {tbl : Str → Option Bool} {mb : R ω} {hm : Str → R ω} {κ : ω → Kd} {b₀ : Stmt} {suite : List Stmt} {np pos' : Pos} (hc : Names X x cv) (tk : Takes X W)
    (hb : ∀ (W' : WX) (pn : List (Addr × Obj)) (xe : Value → Shared → Prop), Takes (X.tr pn xe) W' → PassesOwn (model X.prog X.w) X.A X.env xe → Bk (X.tr pn xe) W' Γt Γ A κ mb)
    (ht : ∀ k b a, tbl k = some b → X.mg k = some (.ref a) → PySem.W.exmOne X.K (.ref a) cv = some b)
    (hsu : ∀ k D, tbl k = some true → X.mg k = some (.ref D) → ∀ (a : Addr) (oe : Obj) (pn : List (Addr × Obj)), Zc (.ref D) none oe → (∃ vs, oe.data = .fields vs) → Bk (X.suite a ((a, oe) :: pn)) wNo Γe Γt (b₀ :: suite) κ (hm k)) (hw : Wk Γe Γt)
    (hs : X.stack = X.env :: X.outer := by rfl) (hf : X.env.frame = some X.env.locals := by rfl) :
    St1 X W Γe Γ (.Try A [.ExceptHandler (some (.Name x np)) none (b₀ :: suite) pos'] [] [] pos) κ (catchR tbl mb hm) :=
  smk ⟨_, ps_try_only (tb := fun W' D σ H => ∀ pn xe, Takes (X.tr pn xe) W' → PassesOwn (model X.prog X.w) X.A X.env xe → wSs (X.tr pn xe) A D σ H) (ts := fun a cls d D σ H => ∀ oe pn, Zc cls d oe → (∃ vs, oe.data = .fields vs) → wSs (X.suite a ((a, oe) :: pn)) (b₀ :: suite) D σ H) (Wout := W) hs hf hc tk
      (fun W' pn xe t p => ⟨fun pins s σ H D I h => h pn xe t p pins s I⟩) (fun a oe cls d pn z v => ⟨fun pins s σ H D I h => h oe pn z v pins s I⟩), fun F M0 M H σ D st po pn xe t p => by
    refine hb _ pn xe t p F M0 M H σ D st ?_
    cases mb with
    | bad => exact po
    | ok o => exact po
    | err k =>
      show ∀ M' H' σ', S X.G F M0 M' H' σ' Γt → Er X.G _ k σ' H'
      intro M' H' σ' st' a ha
      have po : Po (match tbl k with
        | none => R.bad
        | some true => noErr (hm k)
        | some false => R.err k) _ _ := po
      cases e : tbl k with
      | none => rw [e] at po; exact po.elim
      | some b =>
        rw [e] at po
        refine ⟨b, ht k b a e ha, fun eb a' na oe pn z v => ?_, fun eb => ?_⟩
        · subst eb
          exact hsu k a e ha a' oe pn z v F M0 M' H' σ' D st' ((Po.noErr po).imp (fun _ _ q => q) fun _ z => z.elim)
        · subst eb
          exact (po : ∀ M' H' σ', S X.G F M0 M' H' σ' Γe → Er X.G W k σ' H') M' H' σ' (st'.wk hw) a ha⟩
/-- .. except X as n: slot i is n's -/
theorem S.pin {G : Ctx} {F M0 M H : Hp} {σ : St} {v : V} {i : Nat} (s : S G F M0 M H σ Γ) (hi : i < Γ.length) : S G F M0 M H (σ.set i (some v)) (Γ.set i (.pn v (.imm .any))) := by
  obtain ⟨as, f, sa⟩ := s
  obtain ⟨bs, sb, sub⟩ : ∃ bs, Sat G F M H (Γ.set i (.pn v (.imm .any))) (σ.set i (some v)) bs ∧ bs.Sublist as := by
    clear f
    induction Γ generalizing σ as i with
    | nil => exact absurd hi (Nat.not_lt_zero _)
    | cons x Γ ih =>
      cases i with
      | zero =>
        cases x with
        | un => obtain ⟨x, r, h1, h2⟩ := sa; rw [h1]; exact ⟨as, ⟨r, [], as, rfl, rfl, ⟨rfl, trivial⟩, h2⟩, .refl _⟩
        | ow t => obtain ⟨w, r, a1, a2, h1, h2, h3, h4⟩ := sa; rw [h1]; exact ⟨a2, ⟨r, [], a2, rfl, rfl, ⟨rfl, trivial⟩, h4⟩, by rw [h2]; exact List.sublist_append_right _ _⟩
        | pn w t => obtain ⟨r, a1, a2, h1, h2, h3, h4⟩ := sa; rw [h1]; exact ⟨a2, ⟨r, [], a2, rfl, rfl, ⟨rfl, trivial⟩, h4⟩, by rw [h2]; exact List.sublist_append_right _ _⟩
        | lk t => obtain ⟨w, r, a0, h1, h2, h3⟩ := sa; rw [h1]; exact ⟨as, ⟨r, [], as, rfl, rfl, ⟨rfl, trivial⟩, h3⟩, .refl _⟩
      | succ i =>
        have hi' := Nat.lt_of_succ_lt_succ hi
        cases x with
        | un =>
          obtain ⟨x, r, h1, h2⟩ := sa
          obtain ⟨bs, q1, q2⟩ := ih (i := i) (as := as) (σ := r) hi' h2
          rw [h1]; exact ⟨bs, ⟨x, _, rfl, q1⟩, q2⟩
        | ow t =>
          obtain ⟨w, r, a1, a2, h1, h2, h3, h4⟩ := sa
          obtain ⟨bs, q1, q2⟩ := ih (i := i) (as := a2) (σ := r) hi' h4
          rw [h1]; exact ⟨a1 ++ bs, ⟨w, _, a1, bs, rfl, rfl, h3, q1⟩, by rw [h2]; exact List.Sublist.append_left q2 a1⟩
        | pn w t =>
          obtain ⟨r, a1, a2, h1, h2, h3, h4⟩ := sa
          obtain ⟨bs, q1, q2⟩ := ih (i := i) (as := a2) (σ := r) hi' h4
          rw [h1]; exact ⟨a1 ++ bs, ⟨_, a1, bs, rfl, rfl, h3, q1⟩, by rw [h2]; exact List.Sublist.append_left q2 a1⟩
        | lk t =>
          obtain ⟨w, r, a0, h1, h2, h3⟩ := sa
          obtain ⟨bs, q1, q2⟩ := ih (i := i) (as := as) (σ := r) hi' h3
          rw [h1]; exact ⟨bs, ⟨w, _, a0, rfl, h2, q1⟩, q2⟩
  exact ⟨bs, f.sub sub, sb⟩
theorem S.unset {G : Ctx} {F M0 M H : Hp} {σ : St} {i : Nat} (s : S G F M0 M H σ Γ) : S G F M0 M H (σ.set i none) (Γ.set i .un) := by
  obtain ⟨as, f, sa⟩ := s
  obtain ⟨bs, sb, sub⟩ := Sat.unset (i := i) sa
  exact ⟨bs, f.sub sub, sb⟩
/-- the ends of a suite: slot i is empty behind it -/
def kUn (i : Nat) (k : Kd) : Kd := { nx := k.nx, rt := k.rt, bk := k.bk, ct := k.ct }
theorem st_tryAs {x n : Str} {cv : Value} {tbl : Str → Option Bool} {mb : R ω} {hm : Str → R ω} {κ : ω → Kd} {b₀ : Stmt} {suite : List Stmt} {np pos' : Pos} (i : Nat) (hN : X.N.Nodup) (hc : Names X x cv) (tk : Takes X W)
    (hb : ∀ (W' : WX) (pn : List (Addr × Obj)) (xe : Value → Shared → Prop), Takes (X.tr pn xe) W' → PassesOwn (model X.prog X.w) X.A X.env xe → Bk (X.tr pn xe) W' Γt Γ A κ mb)
    (ht : ∀ k b a, tbl k = some b → X.mg k = some (.ref a) → PySem.W.exmOne X.K (.ref a) cv = some b)
    (hsu : ∀ k D, tbl k = some true → X.mg k = some (.ref D) → ∀ (a : Addr) (oe : Obj) (pn : List (Addr × Obj)), Zc (.ref D) none oe → (∃ vs, oe.data = .fields vs) → Bk (X.suite a ((a, oe) :: pn)) wNo Γe (Γt.set i (.pn (.ref a) (.imm .any))) (b₀ :: suite) (fun o => (κ o).rr) (hm k)) (hw : Wk Γe Γt) (hl : Nat.blt i Γt.length = true := by rfl)
    (hi : X.N[i]? = some n := by rfl) (hln : X.env.kindOf n = some .local := by rfl)
    (hs : X.stack = X.env :: X.outer := by rfl) (hf : X.env.frame = some X.env.locals := by rfl) :
    St1 X W Γe Γ (.Try A [.ExceptHandler (some (.Name x np)) (some n) (b₀ :: suite) pos'] [] [] pos) κ (catchR tbl mb hm) :=
  smk ⟨_, ps_try_as (i := i) (tb := fun W' D σ H => ∀ pn xe, Takes (X.tr pn xe) W' → PassesOwn (model X.prog X.w) X.A X.env xe → wSs (X.tr pn xe) A D σ H) (ts := fun a cls d D σ H => ∀ oe pn, Zc cls d oe → (∃ vs, oe.data = .fields vs) → wSs (X.suite a ((a, oe) :: pn)) (b₀ :: suite) D σ H) (Wout := W) hs hf hN hi hln hc tk
      (fun W' pn xe t p => ⟨fun pins s σ H D I h => h pn xe t p pins s I⟩) (fun a oe cls d pn z v => ⟨fun pins s σ H D I h => h oe pn z v pins s I⟩), fun F M0 M H σ D st po pn xe t p => by
    refine hb _ pn xe t p F M0 M H σ D st ?_
    cases mb with
    | bad => exact po
    | ok o => exact po
    | err k =>
      show ∀ M' H' σ', S X.G F M0 M' H' σ' Γt → Er X.G _ k σ' H'
      intro M' H' σ' st' a ha
      have po : Po (match tbl k with
        | none => R.bad
        | some true => noErr (hm k)
        | some false => R.err k) _ _ := po
      cases e : tbl k with
      | none => rw [e] at po; exact po.elim
      | some b =>
        rw [e] at po
        refine ⟨b, ht k b a e ha, fun eb a' na oe pn z v => ?_, fun eb => ?_⟩
        · subst eb
          exact hsu k a e ha a' oe pn z v F M0 M' H' _ _ (st'.pin (Nat.le_of_ble_eq_true hl)) ((Po.noErr po).imp (fun _ _ q => ⟨fun Γ e => (nomatch e), fun t Γ e => q.rt t Γ e, fun Γ e => (nomatch e), fun Γ e => (nomatch e)⟩) fun _ z => z.elim)
        · subst eb
          exact (po : ∀ M' H' σ', S X.G F M0 M' H' σ' Γe → Er X.G W k σ' H') M' H' σ' (st'.wk hw) a ha⟩
/-- isinstance(e, C) of the caught exception -/
theorem dd_isE {n cn : Str} {a D : Addr} {oe : Obj} {pn : List (Addr × Obj)} {cv : Value} {cV : V} {k : Bool} {p p1 p2 : Pos} (i : Nat) (h : Γ[i]? = some (.pn (.ref a) (.imm .any))) (C : ExcC X.K D) (hz : Zc (.ref D) none oe) (hf : ∃ vs, oe.data = .fields vs) (hm : X.mg "isinstance" = none)
    (hcl : PE (X.suite a ((a, oe) :: pn)) (.Name cn p2) (tC cV)) (hcv : ∀ u, RelV cV u → u = cv) (hk : PySem.W.kitOne X.K (.ref D) cv = some k) (hN : X.N[i]? = some n := by rfl) (hv : Vis X.env.scope n := by first | exact Or.inl rfl | exact Or.inr (Or.inl rfl) | exact Or.inr (Or.inr rfl))
    (hd : (n == ("__debug__" : Str)) = false := by decide) (hcd : (n == ("__classdict__" : Str)) = false := by decide) (hg : Gl X "isinstance" := by rfl)
    (hs : starEach [.Name n p1, .Name cn p2] X.env = (false, eval (.Name n p1) X.env) :: starEach [.Name cn p2] X.env := by exact star_cons rfl) (hs2 : starEach [Expr.Name cn p2] X.env = (false, eval (.Name cn p2) X.env) :: starEach [] X.env := by exact star_cons rfl) (hpl : (backTo pos (starEach [Expr.Name cn p2] X.env)).any (·.1) = false := by exact star_none rfl) :
    DD (X.suite a ((a, oe) :: pn)) W Γ (.Call (.Name "isinstance" p) [.Name n p1, .Name cn p2] [] pos) Cn.D.bl (.ok k) :=
  dmk (X := X.suite a ((a, oe) :: pn)) ⟨_, pe_callB (X := X.suite a ((a, oe) :: pn)) (call_isE C hz hf) hg hm (by decide +kernel) (pa_cons (X := X.suite a ((a, oe) :: pn)) (pe_var (X := X.suite a ((a, oe) :: pn)) hN hv hd hcd) (pa_cons (X := X.suite a ((a, oe) :: pn)) hcl pa_nil (hs := hs2)) (hs := hs)) (he := hs) (hpl := hpl), fun F M0 M H σ Q s po => by
    obtain ⟨as, f, sa⟩ := id s
    obtain ⟨q1, _⟩ := Sat.getP sa h
    exact ⟨_, q1, cV, cv, k, rfl, hcv, hk, po _ M H (.refl s.mh) rfl⟩⟩
end
/-! ### the end of a law -/
/-- what a law asks: a list of at most 63 ints is handed in, True comes out -/
def spLaw (K : PySem.W.Frag) : Sp := fun vs H Q _ => ∃ (a : Addr) (ns : List Int), vs = [.ref a] ∧ SqL K H a (ns.map V.int) ∧ ns.length ≤ 63 ∧ ∀ H', Q (.bl true) H'
theorem law_of {P : Program} {w : World} {K : PySem.W.Frag} {mg : Str → Option Value} {base : Heap} {k : Nat} {f : Addr} {fd : FuncData} {ps : List Str} {g : List Int → R Bool} (h : ∀ ns : List Int, ns.length ≤ 63 → g ns = .ok true)
    (F : FnOk P w K mg base (L2.CX P w) k f fd ps (SpF ⟨K, mg⟩ (fun p : List Int × Unit => [D.frl (p.1.map D.int)]) (fun b => .imm (.bl b)) fun p => g p.1)) : FnOk P w K mg base (L2.CX P w) k f fd ps (spLaw K) := by
  refine F.imp fun vs H Q E ⟨a, ns, e1, e2, e3, q⟩ => ?_
  subst e1
  refine ⟨(ns, ()), H, .refl _, ⟨_, [], rfl, ⟨a, _, rfl, e2, ints_reps ns⟩, rfl⟩, ?_⟩
  show Po (g ns) _ _
  rw [h ns e3]
  intro v M' H' as gr o nd fr
  rw [show v = .bl true from o.2]
  exact q H'
theorem cx_false {P : Program} {w : World} {H : Hp} {s : Shared} {e : Value} {s' : Shared} (h : L2.CX P w [] H s (fun _ _ _ => False) e s') : False := by
  obtain ⟨_, _, _, _, _, _, _, _, _, _, _, _, z⟩ := h
  exact z
end Cn
/-! Cn8: what the printed proofs ask besides -/
namespace Cn
open PySem PySem.Spec L2
def eOpt {α : Type} (e : α → D) : Option α → D
  | none => .non
  | some x => e x
def unp2 {α : Type} : List α → Option (α × α)
  | [a, b] => some (a, b)
  | _ => none
def unp3 {α : Type} : List α → Option (α × α × α)
  | [a, b, c] => some (a, b, c)
  | _ => none
def unp4 {α : Type} : List α → Option (α × α × α × α)
  | [a, b, c, d] => some (a, b, c, d)
  | _ => none
section
variable {X : Cx} {W : WX} {Γe Γ Γt : List Sl} {a b e c tg elt iter : Expr} {es : List Expr} {α β γ ω ω1 : Type} {pos : Pos} {s : Stmt} {rest ss A B : List Stmt}
/-- the same data, said otherwise -/
theorem dd_co {emb : α → D} {emb' : β → D} {m : R α} (h : DD X W Γ e emb m) (g : α → β) (he : ∀ x, emb x = emb' (g x) := by intro _; rfl) : DD X W Γ e emb' (m >>= fun x => .ok (g x)) := ⟨fun F M0 M H σ Q s po => h F M0 M H σ Q s (po.bind.imp (fun x _ k v M' H' g r => k v M' H' g (by rw [← he]; exact r)) fun _ z => z)⟩
theorem dd_coO {emb : α → D} {emb' : β → D} {m : R α} (h : DD X W Γ e emb m) (g : α → Option β) (he : ∀ x y, g x = some y → emb x = emb' y) : DD X W Γ e emb' (m >>= fun x => ofO (g x)) := ⟨fun F M0 M H σ Q s po => h F M0 M H σ Q s (po.bind.imp (fun x _ k v M' H' gr r => by
  obtain ⟨z, e, k⟩ := k.ofO
  exact k v M' H' gr (by rw [← he x z e]; exact r)) fun _ z => z)⟩
theorem unp2_some {xs : List α} {y} (h : unp2 xs = some y) : xs = [y.1, y.2] := by
  match xs, h with
  | [a, b], h => cases h; rfl
theorem unp3_some {xs : List α} {y} (h : unp3 xs = some y) : xs = [y.1, y.2.1, y.2.2] := by
  match xs, h with
  | [a, b, c], h => cases h; rfl
theorem unp4_some {xs : List α} {y} (h : unp4 xs = some y) : xs = [y.1, y.2.1, y.2.2.1, y.2.2.2] := by
  match xs, h with
  | [a, b, c, d], h => cases h; rfl
theorem dd_unp2L {ei : β → D} {m : R (List β)} (h : DD X W Γ e (fun xs => .lst (xs.map ei)) m) : DD X W Γ e (fun p : β × β => .lst [ei p.1, ei p.2]) (m >>= fun xs => ofO (unp2 xs)) := dd_coO h _ fun x y q => by rw [unp2_some q]; rfl
theorem dd_unp3L {ei : β → D} {m : R (List β)} (h : DD X W Γ e (fun xs => .lst (xs.map ei)) m) : DD X W Γ e (fun p : β × β × β => .lst [ei p.1, ei p.2.1, ei p.2.2]) (m >>= fun xs => ofO (unp3 xs)) := dd_coO h _ fun x y q => by rw [unp3_some q]; rfl
theorem dd_unp4L {ei : β → D} {m : R (List β)} (h : DD X W Γ e (fun xs => .lst (xs.map ei)) m) : DD X W Γ e (fun p : β × β × β × β => .lst [ei p.1, ei p.2.1, ei p.2.2.1, ei p.2.2.2]) (m >>= fun xs => ofO (unp4 xs)) := dd_coO h _ fun x y q => by rw [unp4_some q]; rfl
theorem dd_unp2T {ei : β → D} {m : R (List β)} (h : DD X W Γ e (fun xs => .tup (xs.map ei)) m) : DD X W Γ e (fun p : β × β => .tup [ei p.1, ei p.2]) (m >>= fun xs => ofO (unp2 xs)) := dd_coO h _ fun x y q => by rw [unp2_some q]; rfl
theorem dd_unp3T {ei : β → D} {m : R (List β)} (h : DD X W Γ e (fun xs => .tup (xs.map ei)) m) : DD X W Γ e (fun p : β × β × β => .tup [ei p.1, ei p.2.1, ei p.2.2]) (m >>= fun xs => ofO (unp3 xs)) := dd_coO h _ fun x y q => by rw [unp3_some q]; rfl
/-- a statement that leaves by returns alone, among others -/
theorem st_rr {f : ω1 → Kd} {κ : ω → Kd} {m : R (ω1 ⊕ ω)} (h : St1 X W Γe Γ s (kSum f fun o => (κ o).rr) m) : St1 X W Γe Γ s (kSum f fun o => (κ o).ex) m := ⟨fun F M0 M H σ D st po => h F M0 M H σ D st (po.imp (fun o _ q => by
  cases o with
  | inl o => exact q
  | inr o => exact ⟨fun Γ e => (nomatch e), fun t Γ e => Kn.rt q t Γ e, fun Γ e => (nomatch e), fun Γ e => (nomatch e)⟩) fun _ z => z)⟩
theorem dd_isNO {ei : β → D} {m : R (Option β)} {j p} (hne : ∀ x v (M : Hp), Rep X.G M (ei x) v → v ≠ .non) (h : DD X W Γ e (eOpt ei) m) : DD X W Γ (.Compare e [.Is] [.Constant .none j p] pos) D.bl (m >>= fun x => .ok x.isNone) :=
  dmk ⟨_, pe_cmpR op_isN (pe_w X e) pe_non (nomark _), fun F M0 M H σ Q s po => h F M0 M H σ _ s (po.bind.imp (fun x _ k v M1 H1 g1 r1 => ⟨rfl, k _ M1 H1 g1 (by
    cases x with
    | none => rw [show v = .non from r1]; rfl
    | some x => show V.bl _ = V.bl _; rw [decide_eq_false (hne x v M1 r1)]; rfl)⟩) fun _ z => z)⟩
end
/-! ### try by a list of the classes that may come, each with what the suite does -/
def catchL {ω : Type} (l : List (Str × Bool × R ω)) (m : R ω) : R ω := catchR (fun c => (l.lookup c).map (·.1)) m fun c => ((l.lookup c).map (·.2)).getD .bad
theorem lookup_mem {β : Type} : ∀ {l : List (Str × β)} {k : Str} {q : β}, l.lookup k = some q → (k, q) ∈ l
  | [], k, q, h => nomatch h
  | (a, b) :: l, k, q, h => by
    rw [List.lookup_cons] at h
    cases e : (k == a) with
    | true =>
      rw [e] at h
      have e2 : k = a := eq_of_beq e
      cases h
      rw [e2]
      exact List.mem_cons_self
    | false =>
      rw [e] at h
      exact List.mem_cons_of_mem _ (lookup_mem h)
theorem xm_at {K : PySem.W.Frag} {mg : Str → Option Value} {c : Str} {C : Addr} {cv : Value} {b : Bool} (hg : mg c = some (.ref C)) (hx : PySem.W.exmOne K (.ref C) cv = some b) : ∀ a, mg c = some (.ref a) → PySem.W.exmOne K (.ref a) cv = some b := fun a h => by
  rw [hg] at h; cases h; exact hx
section
variable {X : Cx} {W : WX} {Γe Γ Γt : List Sl} {ω : Type} {pos : Pos} {A : List Stmt}
theorem st_tryL {x : Str} {cv : Value} {l : List (Str × Bool × R ω)} {mb : R ω} {κ : ω → Kd} {b₀ : Stmt} {suite : List Stmt} {np pos' : Pos} (hc : Names X x cv) (tk : Takes X W)
    (hb : ∀ (W' : WX) (pn : List (Addr × Obj)) (xe : Value → Shared → Prop), Takes (X.tr pn xe) W' → PassesOwn (model X.prog X.w) X.A X.env xe → Bk (X.tr pn xe) W' Γt Γ A κ mb)
    (ht : ∀ p ∈ l, ∀ a, X.mg p.1 = some (.ref a) → PySem.W.exmOne X.K (.ref a) cv = some p.2.1)
    (hsu : ∀ p ∈ l, p.2.1 = true → ∀ D, X.mg p.1 = some (.ref D) → ∀ (a : Addr) (oe : Obj) (pn : List (Addr × Obj)), Zc (.ref D) none oe → (∃ vs, oe.data = .fields vs) → Bk (X.suite a ((a, oe) :: pn)) wNo Γe Γt (b₀ :: suite) κ p.2.2) (hw : Wk Γe Γt)
    (hs : X.stack = X.env :: X.outer := by rfl) (hf : X.env.frame = some X.env.locals := by rfl) :
    St1 X W Γe Γ (.Try A [.ExceptHandler (some (.Name x np)) none (b₀ :: suite) pos'] [] [] pos) κ (catchL l mb) :=
  st_try hc tk hb (fun k b a e g => by
    cases q : l.lookup k with
    | none => rw [q] at e; cases e
    | some v =>
      rw [q] at e
      cases e
      exact ht _ (lookup_mem q) a g) (fun k D e g a oe pn z v => by
    cases q : l.lookup k with
    | none => rw [q] at e; cases e
    | some v' =>
      rw [q] at e
      have e : v'.1 = true := Option.some.inj e
      exact hsu _ (lookup_mem q) e D g a oe pn z v) hw hs hf
theorem st_tryAsL {x n : Str} {cv : Value} {l : List (Str × Bool × R ω)} {mb : R ω} {κ : ω → Kd} {b₀ : Stmt} {suite : List Stmt} {np pos' : Pos} (i : Nat) (hN : X.N.Nodup) (hc : Names X x cv) (tk : Takes X W)
    (hb : ∀ (W' : WX) (pn : List (Addr × Obj)) (xe : Value → Shared → Prop), Takes (X.tr pn xe) W' → PassesOwn (model X.prog X.w) X.A X.env xe → Bk (X.tr pn xe) W' Γt Γ A κ mb)
    (ht : ∀ p ∈ l, ∀ a, X.mg p.1 = some (.ref a) → PySem.W.exmOne X.K (.ref a) cv = some p.2.1)
    (hsu : ∀ p ∈ l, p.2.1 = true → ∀ D, X.mg p.1 = some (.ref D) → ∀ (a : Addr) (oe : Obj) (pn : List (Addr × Obj)), Zc (.ref D) none oe → (∃ vs, oe.data = .fields vs) → Bk (X.suite a ((a, oe) :: pn)) wNo Γe (Γt.set i (.pn (.ref a) (.imm .any))) (b₀ :: suite) (fun o => (κ o).rr) p.2.2) (hw : Wk Γe Γt) (hl : Nat.blt i Γt.length = true := by rfl)
    (hi : X.N[i]? = some n := by rfl) (hln : X.env.kindOf n = some .local := by rfl)
    (hs : X.stack = X.env :: X.outer := by rfl) (hf : X.env.frame = some X.env.locals := by rfl) :
    St1 X W Γe Γ (.Try A [.ExceptHandler (some (.Name x np)) (some n) (b₀ :: suite) pos'] [] [] pos) κ (catchL l mb) :=
  st_tryAs i hN hc tk hb (fun k b a e g => by
    cases q : l.lookup k with
    | none => rw [q] at e; cases e
    | some v =>
      rw [q] at e
      cases e
      exact ht _ (lookup_mem q) a g) (fun k D e g a oe pn z v => by
    cases q : l.lookup k with
    | none => rw [q] at e; cases e
    | some v' =>
      rw [q] at e
      have e : v'.1 = true := Option.some.inj e
      exact hsu _ (lookup_mem q) e D g a oe pn z v) hw hl hi hln hs hf
end
section
variable {P : Program} {w : World} {K : PySem.W.Frag} {mg : Str → Option Value} {base : Heap}
/-- a def that falls off its end: it hands back None -/
theorem fn_pureN {x qual : Str} {st : Stmt} {f : Addr} {fd : FuncData} {N ps : List Str} {k : Nat} {α : Type} {args : α → List D} {g : α → R Unit} (F : Fun K x qual st f fd) (Sc : FnScope N ps (defScope st))
    (hl : ∀ a, (args a).length = ps.length)
    (hb : ∀ (cdv : Value) (A : Around) (outer : List Env) (s : Shared) (H : Hp) (E : XK), Room k (A.deeper (PyProof.Rows.envOfC qual (defScope st) s.heap.objs.size f cdv)) → ∀ a,
      Bk (cxOf (L2.CX P w) P w K mg base N qual (defScope st) f cdv A outer s H E) (fun cls d _ H => E cls d H) (List.replicate N.length .un) ((args a).map (fun d => .ow (.imm d)) ++ List.replicate (N.length - ps.length) .un) (defBody st) (kRetN (fun _ => .imm .non) N.length) (g a)) :
    FnOk P w K mg base (L2.CX P w) (k + 1) f fd ps (SpF ⟨K, mg⟩ args (fun _ => .imm .non) g) := by
  refine F.okX Sc (fun vs H Q E h => ?_) (fun cdv A outer s H vs Q E hr h => ?_)
  · obtain ⟨a, M, _, r, _⟩ := h
    rw [r.len, hl]
  · obtain ⟨a, M, mh, r, po⟩ := h
    refine ⟨_, pss_w _ _, hb cdv A outer s H E hr a H M M H _ _ ?_ ?_⟩
    · refine ⟨[], ⟨.refl _, .refl _, mh, fun _ z => .inl z, List.nodup_nil, (fun _ z => nomatch z), fun _ z => nomatch z⟩, ?_⟩
      have e : vs.length = ps.length := by rw [r.len, hl]
      unfold L2.start
      rw [e]
      exact Sat.app (as := []) (bs := []) r.sat (Sat.uns _)
    · refine po.imp (fun x _ q => ⟨fun Γ e M' H' σ st => ?_, fun t Γ e M' H' σ v st => ?_, fun Γ e => (nomatch e), fun Γ e => (nomatch e)⟩) fun c z M' H' σ' st C hC => z M' H' ⟨st.fh, st.rel.1, st.mh, st.rel.2⟩ C hC
      · exact q .non M' H' [] ⟨st.fh, st.rel.1, st.mh, st.rel.2⟩ ⟨rfl, rfl⟩ List.nodup_nil fun _ z => nomatch z
      · have e' : (T.imm .non, List.replicate N.length Sl.un) = (t, Γ) := Option.some.inj e
        obtain ⟨e1, e2⟩ := Prod.mk.inj e'
        subst e1; subst e2
        obtain ⟨as, f, ⟨v', r', a1, a2, z1, z2, z3, z4⟩⟩ := st
        obtain ⟨z5, z6⟩ := List.cons.inj z1
        cases z5
        subst z2
        have nd := f.nd
        rw [List.nodup_append] at nd
        exact q v M' H' a1 ⟨f.fh, f.mm, f.mh, f.nw⟩ z3 nd.1 fun b hb => ⟨f.fa b (List.mem_append_left _ hb), f.ma b (List.mem_append_left _ hb)⟩
end
end Cn
/-! Cn9: what the end of a law asks of the written part -/
namespace Cn
open PySem PySem.Spec L2
theorem kit_ref {K : PySem.W.Frag} {t : Value} {C : Addr} {b : Bool} (hd : PySem.W.hasDictIn K C = true) (ht : PySem.W.typeIn K (.ref C) = some (.type "type")) (hs : PySem.W.subIn K t (.ref C) = some b) (hne : ((t == .ref C) && !b) = false) : PySem.W.kitOne K t (.ref C) = some b := by
  unfold PySem.W.kitOne
  cases e : (t == Value.ref C) with
  | true =>
    rw [e] at hne
    cases b with
    | true => rfl
    | false => cases hne
  | false =>
    obtain ⟨cd, hc, _⟩ := PySem.W.any_some hd
    have e2 : ((PySem.W.clsIn K C).isSome && PySem.W.typeIn K (.ref C) == some (.type "type")) = true := by rw [hc, ht] <;> rfl
    show PySem.W.kitCls K t (.ref C) = some b
    show (if ((PySem.W.clsIn K C).isSome && PySem.W.typeIn K (.ref C) == some (.type "type")) = true then PySem.W.subIn K t (.ref C) else none) = some b
    rw [if_pos e2]
    exact hs
theorem kit_type {K : PySem.W.Frag} {C : Addr} {T : String} {b : Bool} (hm : PySem.W.kitMeta T = true) (hs : PySem.W.subIn K (.ref C) (.type T) = some b) : PySem.W.kitOne K (.ref C) (.type T) = some b := by
  show (if PySem.W.kitMeta T = true then PySem.W.subIn K (.ref C) (.type T) else none) = some b
  rw [if_pos hm]
  exact hs
theorem exm_type {K : PySem.W.Frag} {cls : Value} {T : String} {b : Bool} (h1 : PySem.W.subIn K (.type T) (.type "BaseException") = some true) (hm : PySem.W.kitMeta T = true) (hs : PySem.W.subIn K cls (.type T) = some b) : PySem.W.exmOne K cls (.type T) = some b := by
  show (if (PySem.W.subIn K (.type T) (.type "BaseException") == some true) = true then (if PySem.W.kitMeta T = true then PySem.W.subIn K cls (.type T) else none) else none) = some b
  rw [if_pos (by rw [h1]; rfl), if_pos hm]
  exact hs
end Cn
namespace Cn
open PySem PySem.Spec L2
theorem powO_lit {i j z : Int} (h : CPow i j) (e : i ^ j.toNat = z) : powO i j = some z := by
  subst e
  exact if_pos h
end Cn
/-! CnA: more calls -/
namespace Cn
open PySem PySem.Spec L2
section
variable {X : Cx}
theorem cr_sumT (hc : X.calm = true) : CallR X (.builtin "sum") (fun vs H Q => ∃ (a : Addr) (ns : List Int), vs = [V.ref a] ∧ SqT X.K H a (ns.map V.int) ∧ Q (.int ns.sum) H) := by
  intro pins s σ H vs us Q I r h
  obtain ⟨a, ns, rfl, hs, q⟩ := h
  obtain ⟨its, rv, hl, _⟩ := I.tuple hs
  rw [Vals.ref1 r]
  have hi := rv.ints
  have hl : s.heap.IsTuple a its.toArray := hl
  obtain ⟨xs, hx⟩ := hi.allInts.items
  have hn : numsOf its.toArray.toList = ns := by rw [show its.toArray.toList = its from rfl, hi.numsOf]
  rw [hx] at hl hn
  rw [nums_intItems] at hn
  refine PySem.W.ktm_sumG (I.ok.hd hc) hl fun h' tk t' hk => ⟨.int _, H, I.kept hk, ⟨_, rfl⟩, ?_⟩
  rw [preSum_eq, List.take_of_length_le (by simp), hn]
  exact q
theorem truth_ints {prog : Program} {w : World} {A : Around} {ns : List Int} {its : List Value} (e : PyProof.Rows.IntsAre its ns) :
    TruthOf prog w A (fun i v => its.toArray[i]? = some v) (fun i => ns.getD i 0 != 0) := fun i v s Q E hv hq => by
  have hv' : its[i]? = some v := by simpa using hv
  obtain ⟨n, t, hn, rfl⟩ : ∃ n t, ns[i]? = some n ∧ v = Value.int n t := by
    clear hv hq
    induction e generalizing i with
    | nil => cases hv'
    | cons x k h ih =>
      cases i with
      | zero => cases hv'; exact ⟨x, k, rfl, rfl⟩
      | succ i => exact ih i hv'
  have hg : ns.getD i 0 = n := by rw [List.getD_eq_getElem?_getD, hn] <;> rfl
  have hq' : Q (ns.getD i 0 != 0) s := hq
  rw [hg] at hq'
  exact P.truthy_int hq'
theorem any_rangeI : ∀ ns : List Int, (List.range ns.length).any (fun i => ns.getD i 0 != 0) = ns.any (· != 0)
  | [] => rfl
  | b :: bs => by
    rw [List.length_cons, List.range_succ_eq_map, List.any_cons, List.any_map, List.any_cons, ← any_rangeI bs]
    all_goals rfl
theorem iter_anyT {prog : Program} {w : World} {A : Around} {E : Value → Shared → Prop} {s : Shared} {l : Addr} {items : Array Value} {Q : Value → Shared → Prop} (hl : s.heap.IsTuple l items)
    (h : ∀ s₂ : Shared, s₂ = { s with heap := s.heap.push { cls := .type "tuple_iterator", data := .fields #[.ref l, .int 0 0] } } →
      (s₂.heap.IsTupleIter s.heap.objs.size l 0 ∧ s₂.heap.IsTuple l items) → l ≠ s.heap.objs.size → Q (.ref s.heap.objs.size) s₂) : wpAny (model prog w) A (pyIter (.ref l)) Q E s := by
  have hlt : l < s.heap.objs.size := by obtain ⟨_, e, _⟩ := hl; exact Heap.lt_size e
  exact wpAny_pyIter_tuple hl (h _ rfl ⟨⟨_, Heap.get?_push_size _ rfl, rfl, rfl⟩, hl.push _⟩ (Nat.ne_of_lt hlt))
theorem cr_anyT (hc : X.calm = true) : CallR X (.builtin "any") (fun vs H Q => ∃ (a : Addr) (ns : List Int), vs = [V.ref a] ∧ SqT X.K H a (ns.map V.int) ∧ Q (.bl (ns.any (· != 0))) H) := by
  intro pins s σ H vs us Q I r h
  obtain ⟨a, bs, rfl, hs, q⟩ := h
  obtain ⟨its, rv, hl, _⟩ := I.tuple hs
  rw [Vals.ref1 r]
  have hb := rv.ints
  have hl : s.heap.IsTuple a its.toArray := hl
  refine call_any_walk (iter_anyT hl fun s₂ e2 st hne => ?_)
  subst e2
  refine ⟨_, _, _, _, _, _, _, rfl, Walks.tuple (A := X.A.in1) (I.ok.hd hc) _ a hne its.toArray, st, truth_ints hb, fun h' tk hk => ?_⟩
  refine ⟨.bl _, H, I.kept fun b o eo => hk b o (fun hmem => ?_) (Heap.get?_push_of_some _ eo), ?_, q⟩
  · rcases List.mem_cons.mp hmem with e1 | hmem
    · exact absurd (e1 ▸ Heap.lt_size eo) (Nat.lt_irrefl _)
    · cases hmem
  · show Value.bool _ = Value.bool _
    rw [← any_rangeI, List.size_toArray, ← hb.length]
theorem cr_anyI (hc : X.calm = true) : CallR X (.builtin "any") (fun vs H Q => ∃ (a : Addr) (ns : List Int), vs = [V.ref a] ∧ SqL X.K H a (ns.map V.int) ∧ Q (.bl (ns.any (· != 0))) H) := by
  intro pins s σ H vs us Q I r h
  obtain ⟨a, bs, rfl, hs, q⟩ := h
  obtain ⟨its, rv, hl, _⟩ := I.list hs
  rw [Vals.ref1 r]
  have hb := rv.ints
  refine call_any_walk (iter_any hl.isList fun s₂ e2 st hne => ?_)
  subst e2
  refine ⟨_, _, _, _, _, _, _, rfl, Walks.list (A := X.A.in1) (I.ok.hd hc) _ a hne its.toArray, st, truth_ints hb, fun h' tk hk => ?_⟩
  refine ⟨.bl _, H, I.kept fun b o eo => hk b o (fun hmem => ?_) (Heap.get?_push_of_some _ eo), ?_, q⟩
  · rcases List.mem_cons.mp hmem with e1 | hmem
    · exact absurd (e1 ▸ Heap.lt_size eo) (Nat.lt_irrefl _)
    · cases hmem
  · show Value.bool _ = Value.bool _
    rw [← any_rangeI, List.size_toArray, ← hb.length]
theorem cr_max3 (hc : X.calm = true) : CallR X (.builtin "max") (fun xs H Q => ∃ i j k, xs = [.int i, .int j, .int k] ∧ Q (.int (if j > i then (if k > j then k else j) else (if k > i then k else i))) H) := by
  intro pins s σ H vs us Q I r h
  obtain ⟨i, j, k, rfl, q⟩ := h
  obtain ⟨t1, t2, t3, rfl⟩ : ∃ t1 t2 t3, us = [Value.int i t1, Value.int j t2, Value.int k t3] := by
    cases r with
    | cons r t =>
      obtain ⟨t1, rfl⟩ := r
      obtain ⟨t2, t3, rfl⟩ := Vals.int2 t
      exact ⟨t1, t2, t3, rfl⟩
  refine max_three_ints (I.ok.hd hc) fun h' tk hk => ⟨_, H, I.kept hk, ?_, q⟩
  split
  · split
    · exact ⟨_, rfl⟩
    · exact ⟨_, rfl⟩
  · split
    · exact ⟨_, rfl⟩
    · exact ⟨_, rfl⟩
end
section
variable {X : Cx} {W : WX} {Γe Γ Γt : List Sl} {a b c e tg elt iter : Expr} {es : List Expr} {α β γ ω ω1 : Type} {pos : Pos} {s : Stmt} {rest ss A B : List Stmt}
theorem dd_sumT {m : R (List Int)} {p : Pos} (hc : X.calm = true) (h : DD X W Γ e (fun xs => .tup (xs.map D.int)) m) (hm : X.mg "sum" = none) (hg : Gl X "sum" := by rfl) (hs : starEach [e] X.env = (false, eval e X.env) :: starEach [] X.env := by exact star_cons rfl) : DD X W Γ (.Call (.Name "sum" p) [e] [] pos) D.int (m >>= fun xs => .ok xs.sum) :=
  dmk ⟨_, pe_callB (cr_sumT hc) hg hm (by decide +kernel) (pa_cons (pe_w X e) pa_nil (hs := hs)) (he := hs), fun F M0 M H σ Q s po => h F M0 M H σ _ s (po.bind.imp (fun xs _ k v M1 H1 g1 r1 => by
    obtain ⟨a, vs, rfl, hl, r1⟩ := r1
    exact ⟨a, xs, rfl, by rw [← reps_ints r1]; exact same_sqt g1.mh hl, k _ M1 H1 g1 rfl⟩) fun _ z => z)⟩
theorem dd_anyT {m : R (List Int)} {p : Pos} (hc : X.calm = true) (h : DD X W Γ e (fun xs => .tup (xs.map D.int)) m) (hm : X.mg "any" = none) (hg : Gl X "any" := by rfl) (hs : starEach [e] X.env = (false, eval e X.env) :: starEach [] X.env := by exact star_cons rfl) : DD X W Γ (.Call (.Name "any" p) [e] [] pos) D.bl (m >>= fun xs => .ok (xs.any (· != 0))) :=
  dmk ⟨_, pe_callB (cr_anyT hc) hg hm (by decide +kernel) (pa_cons (pe_w X e) pa_nil (hs := hs)) (he := hs), fun F M0 M H σ Q s po => h F M0 M H σ _ s (po.bind.imp (fun xs _ k v M1 H1 g1 r1 => by
    obtain ⟨a, vs, rfl, hl, r1⟩ := r1
    exact ⟨a, xs, rfl, by rw [← reps_ints r1]; exact same_sqt g1.mh hl, k _ M1 H1 g1 rfl⟩) fun _ z => z)⟩
theorem dd_anyI {m : R (List Int)} {p : Pos} (hc : X.calm = true) (h : DL X W Γ e (fun xs => xs.map D.int) m) (hm : X.mg "any" = none) (hg : Gl X "any" := by rfl) (hs : starEach [e] X.env = (false, eval e X.env) :: starEach [] X.env := by exact star_cons rfl) : DD X W Γ (.Call (.Name "any" p) [e] [] pos) D.bl (m >>= fun xs => .ok (xs.any (· != 0))) :=
  dmk ⟨_, pe_callB (cr_anyI hc) hg hm (by decide +kernel) (pa_cons (pe_w X e) pa_nil (hs := hs)) (he := hs), fun F M0 M H σ Q s po => h F M0 M H σ _ s (po.bind.imp (fun xs _ k a vs M1 H1 g1 hl r1 => ⟨a, xs, rfl, by rw [← reps_ints r1]; exact hl, k _ M1 H1 g1 rfl⟩) fun _ z => z)⟩
theorem dd_three_ints {ma mb mc : R Int} {n : Str} {id : String} {p : Pos} {f : Int → Int → Int → Int} (hr : CallR X (.builtin id) (fun xs H Q => ∃ i j k, xs = [.int i, .int j, .int k] ∧ Q (.int (f i j k)) H)) (ha : DD X W Γ a D.int ma) (hb : DD X W Γ b D.int mb) (hc : DD X W Γ c D.int mc) (hm : X.mg n = none) (hv : bootBuiltins n = some (.builtin id)) (hg : Gl X n := by rfl) (hn : n ≠ "__name__" := by decide) (hdb : (n == ("__debug__" : Str)) = false := by decide)
    (hs : starEach [a, b, c] X.env = (false, eval a X.env) :: starEach [b, c] X.env := by exact star_cons rfl) (hs2 : starEach [b, c] X.env = (false, eval b X.env) :: starEach [c] X.env := by exact star_cons rfl) (hs3 : starEach [c] X.env = (false, eval c X.env) :: starEach [] X.env := by exact star_cons rfl) (hpl : (backTo pos (starEach [b, c] X.env)).any (·.1) = false := by exact star_none rfl) : DD X W Γ (.Call (.Name n p) [a, b, c] [] pos) D.int (ma >>= fun x => mb >>= fun y => mc >>= fun z => .ok (f x y z)) := by
  refine dmk ⟨_, pe_callB hr hg hm hv (pa_cons (pe_w X a) (pa_cons (pe_w X b) (pa_cons (pe_w X c) pa_nil (hs := hs3)) (hs := hs2)) (hs := hs)) (hn := hn) (hdb := hdb) (he := hs) (hpl := hpl), fun F M0 M H σ Q s po => ha F M0 M H σ _ s (po.bind.imp (fun x _ k v M1 H1 g1 r1 => hb F M0 M1 H1 σ _ (s.grow g1) (k.bind.imp (fun y _ k w M2 H2 g2 r2 => hc F M0 M2 H2 σ _ ((s.grow g1).grow g2) (k.bind.imp (fun z _ k u M3 H3 g3 r3 => ⟨x, y, z, by rw [show v = .int x from r1, show w = .int y from r2, show u = .int z from r3], k _ M3 H3 ((g1.trans g2).trans g3) rfl⟩) fun c z M' H' g => z M' H' ((g1.trans g2).trans g))) fun c z M' H' g => z M' H' (g1.trans g))) fun _ z => z)⟩
/-- a tuple of ints of the module's -/
def GTup (K : PySem.W.Frag) (a : Addr) (ns : List Int) : Prop := ∃ (o : Obj) (its : Array Value) (n : Nat), K.lookup a = some o ∧ o.cls = .type "tuple" ∧ o.data = .seq its n ∧ its.size ≤ sizeLine ∧ Vals (ns.map V.int) its.toList
theorem dd_gtup {n : Str} {ns : List Int} {ad : Addr} {p : Pos} (hm : X.mg n = some (.ref ad)) (h : GTup X.K ad ns) (hg : Gl X n := by rfl) (hd : (n == ("__debug__" : Str)) = false := by decide) : DD X W Γ (.Name n p) (fun xs => .tup (xs.map D.int)) (.ok ns) :=
  dmk ⟨_, pe_glob (v := .ref ad) hg hm rfl hd, fun F M0 M H σ Q s po => po (.ref ad) M H (.refl s.mh) ⟨ad, _, rfl, .inr h, ints_reps ns⟩⟩
/-- a op b op' c of ints -/
theorem chain_int {f g : Int → Int → Bool} {ma mb mc : R Int} {F M0 M H : Hp} {σ : St} {Q : VK} (ha : DD X W Γ a D.int ma) (hb : DD X W Γ b D.int mb) (hc : DD X W Γ c D.int mc) (s : S X.G F M0 M H σ Γ)
    (po : Po (ma >>= fun x => mb >>= fun y => if f x y then mc >>= fun z => .ok (g y z) else .ok false) (fun x => WD X.G M H (D.bl x) Q) (fun c => ∀ M' H', Gr M H M' H' → Er X.G W c σ H')) :
    tChain (rI0 fun i j => .bl (f i j)) (rI0 fun i j => .bl (g i j)) (wE X a) (wE X b) (wE X c) σ H Q := by
  refine ha F M0 M H σ _ s (po.bind.imp (fun x _ k v M1 H1 g1 r1 => ?_) fun _ z => z)
  refine hb F M0 M1 H1 σ _ (s.grow g1) (k.bind.imp (fun y _ k w M2 H2 g2 r2 => ?_) fun c z M' H' g => z M' H' (g1.trans g))
  refine ⟨x, y, r1, r2, f x y, rfl, ?_⟩
  cases e : f x y with
  | false =>
    rw [e] at k
    exact k _ M2 H2 (g1.trans g2) rfl
  | true =>
    rw [e] at k
    refine hc F M0 M2 H2 σ _ ((s.grow g1).grow g2) ((show Po (mc >>= fun z => .ok (g y z)) _ _ from k).bind.imp (fun z _ k u M3 H3 g3 r3 => ?_) fun c z M' H' g => z M' H' ((g1.trans g2).trans g))
    exact ⟨y, z, r2, r3, k _ M3 H3 ((g1.trans g2).trans g3) rfl⟩
theorem dd_chain {op op' : CmpOp} {f g : Int → Int → Bool} {ma mb mc : R Int} (ho : OpR X (compareOp op) (rI0 fun i j => .bl (f i j))) (ho' : OpR X (compareOp op') (rI0 fun i j => .bl (g i j))) (ha : DD X W Γ a D.int ma) (hb : DD X W Γ b D.int mb) (hc : DD X W Γ c D.int mc) (hm : lastMarks [op, op'] [b, c] = false := by with_unfolding_all rfl) :
    DD X W Γ (.Compare a [op, op'] [b, c] pos) D.bl (ma >>= fun x => mb >>= fun y => if f x y then mc >>= fun z => .ok (g y z) else .ok false) :=
  dmk ⟨_, pe_chain ho ho' (pe_w X a) (pe_w X b) (pe_w X c) hm, fun F M0 M H σ Q s po => chain_int ha hb hc s po⟩
theorem dt_chain {op op' : CmpOp} {f g : Int → Int → Bool} {ma mb mc : R Int} (ho : OpR X (compareOp op) (rI0 fun i j => .bl (f i j))) (ho' : OpR X (compareOp op') (rI0 fun i j => .bl (g i j))) (ha : DD X W Γ a D.int ma) (hb : DD X W Γ b D.int mb) (hc : DD X W Γ c D.int mc) (hm : lastMarks [op, op'] [b, c] = false := by with_unfolding_all rfl) :
    DT X W Γ (.Compare a [op, op'] [b, c] pos) (ma >>= fun x => mb >>= fun y => if f x y then mc >>= fun z => .ok (g y z) else .ok false) :=
  tmk ⟨_, pt_chain ho ho' (pe_w X a) (pe_w X b) (pe_w X c) hm, fun F M0 M H σ Q s po => chain_int ha hb hc s (po.imp (fun x _ k v M' H' g q => ⟨x, q, k M' H' g⟩) fun _ z => z)⟩
end
end Cn
namespace Cn
open PySem PySem.Spec L2
section
variable {X : Cx} {W : WX} {Γe Γ Γt : List Sl} {a b c e tg elt iter : Expr} {es : List Expr} {α β γ ω ω1 : Type} {pos : Pos} {s : Stmt} {rest ss A B : List Stmt}
/-- len of a tuple of a known length -/
theorem dd_lenP {et : α → D} {m : R α} {p : Pos} (h : DD X W Γ e et m) (ds : α → List D) (n : Nat) (hm : X.mg "len" = none) (h1 : ∀ x, et x = .tup (ds x) := by intro _; rfl) (h2 : ∀ x, (ds x).length = n := by intro _; rfl) (hg : Gl X "len" := by rfl) (hs : starEach [e] X.env = (false, eval e X.env) :: starEach [] X.env := by exact star_cons rfl) : DD X W Γ (.Call (.Name "len" p) [e] [] pos) D.int (m >>= fun _ => .ok (n : Int)) :=
  dmk ⟨_, pe_callB call_len_seq hg hm boot_len (pa_cons (pe_w X e) pa_nil (hs := hs)) (he := hs), fun F M0 M H σ Q s po => h F M0 M H σ _ s (po.bind.imp (fun x _ k v M1 H1 g1 r1 => by
    rw [h1 x] at r1
    obtain ⟨a, vs, rfl, hl, r1⟩ := r1
    exact ⟨a, vs, rfl, .inr (same_sqt g1.mh hl), k _ M1 H1 g1 (by rw [r1.len, h2 x]; rfl)⟩) fun _ z => z)⟩
end
end Cn
/-! CnB: paths into one's own trees; lenses -/
namespace Cn
open PySem PySem.Spec L2
def T.kids : T → List T
  | .imm _ => []
  | .lst ts => ts
  | .dic _ ts => ts
  | .dit _ ts => ts
  | .obj _ _ ts => ts
def T.wk : T → List T → T
  | .imm d, _ => .imm d
  | .lst _, ts => .lst ts
  | .dic ks _, ts => .dic ks ts
  | .dit ks _, ts => .dit ks ts
  | .obj C fs _, ts => .obj C fs ts
def T.get : List Nat → T → Option T
  | [], t => some t
  | i :: p, t => match t.kids[i]? with
    | some k => T.get p k
    | none => none
def T.set : List Nat → T → T → T
  | [], _, u => u
  | i :: p, t, u => match t.kids[i]? with
    | some k => t.wk (t.kids.set i (T.set p k u))
    | none => t
/-- the values below an object -/
def okids : HO → Option (List V)
  | .lst vs => some vs
  | .dK kvs => some (kvs.map (·.2))
  | .dT kvs => some (kvs.map (·.2))
  | .ins _ _ kvs => some (kvs.map (·.2))
  | _ => none
/-- w stands at the path p below v -/
def At (H : Hp) : List Nat → V → V → Prop
  | [], v, w => w = v
  | i :: p, v, w => ∃ a o vs u, v = .ref a ∧ H a = some o ∧ okids o = some vs ∧ vs[i]? = some u ∧ At H p u w
theorem At.same {H H' : Hp} (e : Same H H') : ∀ {p : List Nat} {v w : V}, At H p v w → At H' p v w
  | [], v, w, h => h
  | i :: p, v, w, ⟨a, o, vs, u, h1, h2, h3, h4, h5⟩ => ⟨a, o, vs, u, h1, e _ _ h2, h3, h4, At.same e h5⟩
theorem At.det {H : Hp} : ∀ {p : List Nat} {v w w' : V}, At H p v w → At H p v w' → w = w'
  | [], v, w, w', h, h' => by rw [show w = v from h, show w' = v from h']
  | i :: p, v, w, w', ⟨a, o, vs, u, h1, h2, h3, h4, h5⟩, ⟨a', o', vs', u', g1, g2, g3, g4, g5⟩ => by
    subst h1
    cases g1
    rw [h2] at g2
    cases g2
    rw [h3] at g3
    cases g3
    rw [h4] at g4
    cases g4
    exact At.det h5 g5
theorem At.snoc {H : Hp} {i : Nat} {a : Addr} {o : HO} {vs : List V} {u : V} (h2 : H a = some o) (h3 : okids o = some vs) (h4 : vs[i]? = some u) : ∀ {p : List Nat} {v : V}, At H p v (.ref a) → At H (p ++ [i]) v u
  | [], v, h => ⟨a, o, vs, u, h.symm, h2, h3, h4, rfl⟩
  | j :: p, v, ⟨b, o', vs', u', g1, g2, g3, g4, g5⟩ => ⟨b, o', vs', u', g1, g2, g3, g4, At.snoc h2 h3 h4 g5⟩
section
variable {G : Ctx} {F M0 M M' H H' : Hp}
theorem Owns.focus : ∀ {ts : List T} {vs : List V} {as : List Addr} {i : Nat} {t : T}, Owns G M H ts vs as → ts[i]? = some t →
    ∃ v l a r, vs[i]? = some v ∧ as = l ++ a ++ r ∧ Own G M H t v a ∧ ∀ M' H' t' v' a', Same M M' → (∀ b ∈ l ++ r, ∀ o, H b = some o → H' b = some o) → Own G M' H' t' v' a' → Owns G M' H' (ts.set i t') (vs.set i v') (l ++ a' ++ r)
  | [], vs, as, i, t, h, e => by simp at e
  | t0 :: ts, vs, as, 0, t, ⟨v, r, a1, a2, h1, h2, h3, h4⟩, e => by
    have z : t0 = t := Option.some.inj e
    subst z; subst h1
    exact ⟨v, [], a1, a2, rfl, h2, h3, fun M' H' t' v' a' m k o => ⟨v', r, a', a2, rfl, rfl, o, Owns.keep m _ _ _ (fun b hb => k b hb) h4⟩⟩
  | t0 :: ts, vs, as, i + 1, t, ⟨v, r, a1, a2, h1, h2, h3, h4⟩, e => by
    subst h1; subst h2
    obtain ⟨w, l, a, r', q1, q2, q3, q4⟩ := Owns.focus (i := i) h4 e
    subst q2
    refine ⟨w, a1 ++ l, a, r', q1, by simp, q3, fun M' H' t' v' a' m k o => ⟨v, r.set i v', a1, l ++ a' ++ r', rfl, by simp, Own.keep m t0 v a1 (fun b hb => k b (by simp [hb])) h3, q4 M' H' t' v' a' m (fun b hb => k b ?_) o⟩⟩
    rw [List.append_assoc]; exact List.mem_append_right _ hb
theorem set_same {α : Type} {xs : List α} {i : Nat} {x : α} (h : xs[i]? = some x) : xs.set i x = xs := by
  apply List.ext_getElem?
  intro j
  rw [List.getElem?_set]
  by_cases c : i = j
  · subst c
    rw [if_pos rfl, h]
    have := (List.getElem?_eq_some_iff.mp h).1
    simp [this]
  · rw [if_neg c]
/-- the tree at a path alone, the others around it -/
theorem Own.focus : ∀ {p : List Nat} {t u : T} {v : V} {as : List Addr}, Own G M H t v as → T.get p t = some u →
    ∃ w l a r, At H p v w ∧ as = l ++ a ++ r ∧ Own G M H u w a ∧ ∀ M' H' u' a', Same M M' → (∀ b ∈ l ++ r, ∀ o, H b = some o → H' b = some o) → Own G M' H' u' w a' → Own G M' H' (T.set p t u') v (l ++ a' ++ r)
  | [], t, u, v, as, h, e => by
    cases e
    exact ⟨v, [], as, [], rfl, by simp, h, fun M' H' u' a' _ _ o => by simpa [T.set] using o⟩
  | i :: p, t, u, v, as, h, e => by
    cases ek : t.kids[i]? with
    | none => unfold T.get at e; rw [ek] at e; cases e
    | some k =>
      have e : T.get p k = some u := by unfold T.get at e; rw [ek] at e; exact e
      have es : ∀ u', T.set (i :: p) t u' = t.wk (t.kids.set i (T.set p k u')) := fun u' => by
        show (match t.kids[i]? with | some k => t.wk (t.kids.set i (T.set p k u')) | none => t) = _
        rw [ek]
      revert ek es
      rename_i e0
      clear e0
      intro ek es
      cases t with
      | imm d => cases ek
      | lst ts =>
        obtain ⟨a, vs, r0, h1, h2, h3, h4⟩ := h
        subst h2
        obtain ⟨x, l, b, r, q1, q2, q3, q4⟩ := Owns.focus h4 ek
        obtain ⟨w, l', c, r', z1, z2, z3, z4⟩ := Own.focus q3 e
        subst q2; subst z2
        refine ⟨w, a :: (l ++ l'), c, r' ++ r, ⟨a, _, vs, x, h1, h3, rfl, q1, z1⟩, by simp, z3, fun M' H' u' a' m kk o => ?_⟩
        rw [es]
        have := q4 M' H' _ x _ m (fun b hb => kk b (by simp only [List.mem_append, List.mem_cons] at hb ⊢; rcases hb with z | z <;> simp [z])) (z4 M' H' u' a' m (fun b hb => kk b (by simp only [List.mem_append, List.mem_cons] at hb ⊢; rcases hb with z | z <;> simp [z])) o)
        rw [set_same q1] at this
        exact ⟨a, vs, l ++ (l' ++ a' ++ r') ++ r, h1, by simp, kk a (by simp) _ h3, this⟩
      | dic ks ts =>
        obtain ⟨a, vs, r0, h1, h2, h3, h5, h4⟩ := h
        subst h2
        obtain ⟨x, l, b, r, q1, q2, q3, q4⟩ := Owns.focus h4 ek
        obtain ⟨w, l', c, r', z1, z2, z3, z4⟩ := Own.focus q3 e
        subst q2; subst z2
        refine ⟨w, a :: (l ++ l'), c, r' ++ r, ⟨a, _, _, x, h1, h3, rfl, q1, z1⟩, by simp, z3, fun M' H' u' a' m kk o => ?_⟩
        rw [es]
        have := q4 M' H' _ x _ m (fun b hb => kk b (by simp only [List.mem_append, List.mem_cons] at hb ⊢; rcases hb with z | z <;> simp [z])) (z4 M' H' u' a' m (fun b hb => kk b (by simp only [List.mem_append, List.mem_cons] at hb ⊢; rcases hb with z | z <;> simp [z])) o)
        rw [set_same q1] at this
        exact ⟨a, vs, l ++ (l' ++ a' ++ r') ++ r, h1, by simp, kk a (by simp) _ h3, h5, this⟩
      | dit ks ts =>
        obtain ⟨a, vs, r0, h1, h2, h3, h5, h4⟩ := h
        subst h2
        obtain ⟨x, l, b, r, q1, q2, q3, q4⟩ := Owns.focus h4 ek
        obtain ⟨w, l', c, r', z1, z2, z3, z4⟩ := Own.focus q3 e
        subst q2; subst z2
        refine ⟨w, a :: (l ++ l'), c, r' ++ r, ⟨a, _, _, x, h1, h3, rfl, q1, z1⟩, by simp, z3, fun M' H' u' a' m kk o => ?_⟩
        rw [es]
        have := q4 M' H' _ x _ m (fun b hb => kk b (by simp only [List.mem_append, List.mem_cons] at hb ⊢; rcases hb with z | z <;> simp [z])) (z4 M' H' u' a' m (fun b hb => kk b (by simp only [List.mem_append, List.mem_cons] at hb ⊢; rcases hb with z | z <;> simp [z])) o)
        rw [set_same q1] at this
        exact ⟨a, vs, l ++ (l' ++ a' ++ r') ++ r, h1, by simp, kk a (by simp) _ h3, h5, this⟩
      | obj C fs ts =>
        obtain ⟨a, c0, dx, vs, r0, h1, h2, h6, h3, h5, h4⟩ := h
        subst h2
        obtain ⟨x, l, b, r, q1, q2, q3, q4⟩ := Owns.focus h4 ek
        obtain ⟨w, l', c, r', z1, z2, z3, z4⟩ := Own.focus q3 e
        subst q2; subst z2
        refine ⟨w, a :: (l ++ l'), c, r' ++ r, ⟨a, _, _, x, h1, h3, rfl, q1, z1⟩, by simp, z3, fun M' H' u' a' m kk o => ?_⟩
        rw [es]
        have := q4 M' H' _ x _ m (fun b hb => kk b (by simp only [List.mem_append, List.mem_cons] at hb ⊢; rcases hb with z | z <;> simp [z])) (z4 M' H' u' a' m (fun b hb => kk b (by simp only [List.mem_append, List.mem_cons] at hb ⊢; rcases hb with z | z <;> simp [z])) o)
        rw [set_same q1] at this
        exact ⟨a, c0, dx, vs, l ++ (l' ++ a' ++ r') ++ r, h1, by simp, h6, kk a (by simp) _ h3, h5, this⟩
/-! ### slots that hold a tree -/
def Sl.tree : Sl → Option T
  | .un => none
  | .ow t => some t
  | .pn _ t => some t
  | .lk _ => none
def Sl.put : Sl → T → Sl
  | .un, _ => .un
  | .ow _, t => .ow t
  | .pn v _, t => .pn v t
  | .lk t, _ => .lk t
theorem Sat.focusS : ∀ {Γ : List Sl} {σ : St} {as : List Addr} {i : Nat} {x : Sl} {t : T}, Sat G F M H Γ σ as → Γ[i]? = some x → x.tree = some t →
    ∃ v l a r, σ[i]? = some (some v) ∧ as = l ++ a ++ r ∧ Own G M H t v a ∧ (∀ w u, x = .pn w u → v = w) ∧ ∀ M' H' t' a', Same M M' → (∀ b ∈ l ++ r, ∀ o, H b = some o → H' b = some o) → Own G M' H' t' v a' → Sat G F M' H' (Γ.set i (x.put t')) σ (l ++ a' ++ r)
  | [], σ, as, i, x, t, h, e, et => by simp at e
  | .un :: Γ, σ, as, 0, x, t, h, e, et => by cases e; cases et
  | .un :: Γ, σ, as, i + 1, x, t, ⟨y, r, h1, h2⟩, e, et => by
    subst h1
    obtain ⟨v, l, a, r', q1, q2, q3, q5, q4⟩ := Sat.focusS (i := i) h2 e et
    exact ⟨v, l, a, r', q1, q2, q3, q5, fun M' H' t' a' m k o => ⟨y, r, rfl, q4 M' H' t' a' m k o⟩⟩
  | .ow t0 :: Γ, σ, as, 0, x, t, ⟨v, r, a1, a2, h1, h2, h3, h4⟩, e, et => by
    cases e; cases et; subst h1
    refine ⟨v, [], a1, a2, rfl, h2, h3, (fun _ _ z => nomatch z), fun M' H' t' a' m k o => ⟨v, r, a', a2, rfl, rfl, o, Sat.keep m Γ r a2 (fun b hb => k b (by simpa using hb)) h4⟩⟩
  | .ow t0 :: Γ, σ, as, i + 1, x, t, ⟨v, r, a1, a2, h1, h2, h3, h4⟩, e, et => by
    subst h1; subst h2
    obtain ⟨w, l, a, r', q1, q2, q3, q5, q4⟩ := Sat.focusS (i := i) h4 e et
    subst q2
    refine ⟨w, a1 ++ l, a, r', q1, by simp, q3, q5, fun M' H' t' a' m k o => ⟨v, r, a1, l ++ a' ++ r', rfl, by simp, Own.keep m t0 v a1 (fun b hb => k b (by simp [hb])) h3, q4 M' H' t' a' m (fun b hb => k b ?_) o⟩⟩
    rw [List.append_assoc]; exact List.mem_append_right _ hb
  | .lk t0 :: Γ, σ, as, 0, x, t, h, e, et => by cases e; cases et
  | .lk t0 :: Γ, σ, as, i + 1, x, t, ⟨y, r, a0, h1, h2, h3⟩, e, et => by
    subst h1
    obtain ⟨v, l, a, r', q1, q2, q3, q5, q4⟩ := Sat.focusS (i := i) h3 e et
    exact ⟨v, l, a, r', q1, q2, q3, q5, fun M' H' t' a' m k o => ⟨y, r, a0, rfl, Own.keep m _ _ _ (fun _ _ _ q => q) h2, q4 M' H' t' a' m k o⟩⟩
  | .pn w0 t0 :: Γ, σ, as, 0, x, t, ⟨r, a1, a2, h1, h2, h3, h4⟩, e, et => by
    cases e; cases et; subst h1
    refine ⟨w0, [], a1, a2, rfl, h2, h3, (fun _ _ z => by cases z; rfl), fun M' H' t' a' m k o => ⟨r, a', a2, rfl, rfl, o, Sat.keep m Γ r a2 (fun b hb => k b (by simpa using hb)) h4⟩⟩
  | .pn w0 t0 :: Γ, σ, as, i + 1, x, t, ⟨r, a1, a2, h1, h2, h3, h4⟩, e, et => by
    subst h1; subst h2
    obtain ⟨w, l, a, r', q1, q2, q3, q5, q4⟩ := Sat.focusS (i := i) h4 e et
    subst q2
    refine ⟨w, a1 ++ l, a, r', q1, by simp, q3, q5, fun M' H' t' a' m k o => ⟨r, a1, l ++ a' ++ r', rfl, by simp, Own.keep m t0 w0 a1 (fun b hb => k b (by simp [hb])) h3, q4 M' H' t' a' m (fun b hb => k b ?_) o⟩⟩
    rw [List.append_assoc]; exact List.mem_append_right _ hb
/-- the tree at path p of slot i is changed -/
structure Chg (M H M' H' : Hp) (a : List Addr) : Prop where
  kp : ∀ b o, b ∉ a → H b = some o → H' b = some o
  mm : Same M M'
  mh : Same M' H'
  nw : ∀ b, M' b ≠ none → M b ≠ none ∨ H b = none ∨ b ∈ a
structure Nw (M' H : Hp) (a a' : List Addr) : Prop where
  nd : a'.Nodup
  fr : ∀ b ∈ a', b ∈ a ∨ H b = none
  ma : ∀ b ∈ a', M' b = none
theorem S.change {σ : St} {Γ : List Sl} {i : Nat} {x : Sl} {t u : T} {p : List Nat} (s : S G F M0 M H σ Γ) (h : Γ[i]? = some x) (ht : x.tree = some t) (hp : T.get p t = some u) :
    ∃ v w a, σ[i]? = some (some v) ∧ At H p v w ∧ Own G M H u w a ∧ a.Nodup ∧ (∀ b ∈ a, M b = none) ∧ (∀ b ∈ a, F b = none) ∧ (∀ w u, x = .pn w u → v = w) ∧
      ∀ M' H' u' a', Chg M H M' H' a → Own G M' H' u' w a' → Nw M' H a a' → S G F M0 M' H' σ (Γ.set i (x.put (T.set p t u'))) := by
  obtain ⟨as, f, sa⟩ := s
  obtain ⟨v, l, a1, r, q1, q2, q3, q5, q4⟩ := Sat.focusS sa h ht
  obtain ⟨w, l', a, r', z1, z2, z3, z4⟩ := Own.focus q3 hp
  subst z2
  have th := Sat.there Γ σ as sa
  have e : as = (l ++ l') ++ a ++ (r' ++ r) := by rw [q2]; simp
  have nd := f.nd
  rw [e, List.append_assoc, List.nodup_append] at nd
  have nd2 := nd.2.1
  rw [List.nodup_append] at nd2
  have oa : ∀ b ∈ a, b ∈ as := fun b hb => by rw [e]; simp only [List.mem_append]; exact .inl (.inr hb)
  have ol : ∀ b ∈ l ++ l', b ∈ as := fun b hb => by rw [e]; exact List.mem_append_left _ (List.mem_append_left _ hb)
  have oR : ∀ b ∈ r' ++ r, b ∈ as := fun b hb => by rw [e]; exact List.mem_append_right _ hb
  have nl : ∀ b ∈ l ++ l', b ∉ a := fun b hb ha => nd.2.2 b hb b (List.mem_append_left _ ha) rfl
  have nr : ∀ b ∈ r' ++ r, b ∉ a := fun b hb ha => nd2.2.2 b ha b hb rfl
  refine ⟨v, w, a, q1, z1, z3, nd2.1, fun b hb => f.ma b (oa b hb), fun b hb => f.fa b (oa b hb), q5, fun M' H' u' a' c o nw => ?_⟩
  have mN : ∀ b ∈ as, b ∉ a → M' b = none := fun b hb hn => by
    cases eb : M' b with
    | none => rfl
    | some o =>
      rcases c.nw b (by rw [eb]; exact fun q => nomatch q) with q | q | q
      · exact absurd (f.ma b hb) q
      · exact absurd q (th b hb)
      · exact absurd q hn
  have kl : ∀ b ∈ l', ∀ o, H b = some o → H' b = some o := fun b hb o e => c.kp b o (nl b (List.mem_append_right _ hb)) e
  have o2 := z4 M' H' u' a' c.mm (fun b hb o e => c.kp b o (by
    rcases List.mem_append.mp hb with y | y
    · exact nl b (List.mem_append_right _ y)
    · exact nr b (List.mem_append_left _ y)) e) o
  have s2 := q4 M' H' _ _ c.mm (fun b hb o e => c.kp b o (by
    rcases List.mem_append.mp hb with y | y
    · exact nl b (List.mem_append_left _ y)
    · exact nr b (List.mem_append_right _ y)) e) o2
  have e2 : l ++ (l' ++ a' ++ r') ++ r = (l ++ l') ++ a' ++ (r' ++ r) := by simp
  rw [e2] at s2
  refine ⟨_, ⟨fun b o e => ?_, f.mm.trans c.mm, c.mh, fun b z => ?_, ?_, fun b hb => ?_, fun b hb => ?_⟩, s2⟩
  · exact c.kp b o (fun hb => by have := f.fa b (oa b hb); rw [e] at this; cases this) (f.fh b o e)
  · rcases c.nw b z with q | q | q
    · exact f.nw b q
    · exact .inr (f.fh.free q)
    · exact .inr (f.fa b (oa b q))
  · have dj : ∀ b ∈ a', ∀ c' ∈ as, c' ∉ a → b ≠ c' := fun b hb c' hc hn z => by
      subst z
      rcases nw.fr b hb with q | q
      · exact hn q
      · exact th b hc q
    rw [List.append_assoc, List.nodup_append]
    refine ⟨nd.1, by rw [List.nodup_append]; exact ⟨nw.nd, nd2.2.1, fun x hx y hy => dj x hx y (oR y hy) (nr y hy)⟩, fun x hx y hy z => ?_⟩
    rcases List.mem_append.mp hy with q | q
    · exact dj y q x (ol x hx) (nl x hx) z.symm
    · exact nd.2.2 x hx y (List.mem_append_right _ q) z
  · rcases List.mem_append.mp hb with q | q
    · rcases List.mem_append.mp q with q | q
      · exact f.fa b (ol b q)
      · rcases nw.fr b q with y | y
        · exact f.fa b (oa b y)
        · exact f.fh.free y
    · exact f.fa b (oR b q)
  · rcases List.mem_append.mp hb with q | q
    · rcases List.mem_append.mp q with q | q
      · exact mN b (ol b q) (nl b q)
      · exact nw.ma b q
    · exact mN b (oR b q) (nr b q)
end
end Cn
/-! CnC: what stands at a path, looked at and changed -/
namespace Cn
open PySem PySem.Spec L2
theorem T.get_snoc {j : Nat} {u : T} : ∀ {p : List Nat} {t : T}, T.get p t = some u → T.get (p ++ [j]) t = u.kids[j]?
  | [], t, h => by
    cases h
    show (match u.kids[j]? with | some k => T.get [] k | none => none) = _
    cases u.kids[j]? <;> rfl
  | i :: p, t, h => by
    show (match t.kids[i]? with | some k => T.get (p ++ [j]) k | none => none) = _
    have h : (match t.kids[i]? with | some k => T.get p k | none => none) = some u := h
    cases e : t.kids[i]? with
    | none => rw [e] at h; cases h
    | some k => rw [e] at h; exact T.get_snoc (p := p) h
theorem T.set_snoc {j : Nat} {u y : T} : ∀ {p : List Nat} {t : T}, T.get p t = some u → T.set (p ++ [j]) t y = T.set p t (T.set [j] u y)
  | [], t, h => by cases h; rfl
  | i :: p, t, h => by
    show (match t.kids[i]? with | some k => t.wk (t.kids.set i (T.set (p ++ [j]) k y)) | none => t) = (match t.kids[i]? with | some k => t.wk (t.kids.set i (T.set p k (T.set [j] u y))) | none => t)
    have h : (match t.kids[i]? with | some k => T.get p k | none => none) = some u := h
    cases e : t.kids[i]? with
    | none => rfl
    | some k =>
      rw [e] at h
      show t.wk _ = t.wk _
      rw [T.set_snoc (p := p) h]
/-- e's value is what stands at a path of slot i -/
structure DP (X : Cx) (W : WX) (Γ : List Sl) (e : Expr) (i : Nat) {α β κ : Type} (ea : α → T) (a : α) (path : κ → List Nat) (eb : β → T) (val : κ → β) (put : κ → β → α) (m : R κ) : Prop where
  run : JQ X Γ (wE X e) fun F M0 M H σ Q => Po m (fun k => ∀ v w M' H', Gr M H M' H' → σ[i]? = some (some v) → At H' (path k) v w → Q w H') (fun c => ∀ M' H', Gr M H M' H' → Er X.G W c σ H')
  get : ∀ k, m = .ok k → T.get (path k) (ea a) = some (eb (val k))
  set : ∀ k y, m = .ok k → T.set (path k) (ea a) (eb y) = ea (put k y)
theorem Po.and {α : Type} {m : R α} {Q : α → Prop} {E : Str → Prop} (h : Po m Q E) : Po m (fun x => m = .ok x ∧ Q x) E := by
  cases m with
  | bad => exact h
  | err c => exact h
  | ok a => exact ⟨rfl, h⟩
section
variable {X : Cx} {W : WX} {Γe Γ : List Sl} {a b e c tg : Expr} {es : List Expr} {α β γ κ ω ω1 : Type} {pos : Pos} {s : Stmt} {rest ss A B : List Stmt}
section
variable {i : Nat} {ea : α → T} {x0 : α} {path : κ → List Nat} {eb : β → T} {val : κ → β} {put : κ → β → α} {m : R κ}
theorem S.look {G : Ctx} {F M0 M H : Hp} {σ : St} {Γ : List Sl} {i : Nat} {x : Sl} {t : T} (s : S G F M0 M H σ Γ) (h : Γ[i]? = some x) (ht : x.tree = some t) : ∃ v a, σ[i]? = some (some v) ∧ Own G M H t v a := by
  obtain ⟨v, w, a, h1, h2, h3, _⟩ := s.change (p := []) h ht rfl
  cases h2
  exact ⟨_, _, h1, h3⟩
theorem S.at {G : Ctx} {F M0 M H : Hp} {σ : St} {Γ : List Sl} {i : Nat} {x : Sl} {t u : T} {p : List Nat} (s : S G F M0 M H σ Γ) (h : Γ[i]? = some x) (ht : x.tree = some t) (hp : T.get p t = some u) : ∃ v w a, σ[i]? = some (some v) ∧ At H p v w ∧ Own G M H u w a := by
  obtain ⟨v, w, a, h1, h2, h3, _⟩ := s.change h ht hp
  exact ⟨v, w, a, h1, h2, h3⟩
theorem dp_var {n : Str} {x : Sl} (i : Nat) (h : Γ[i]? = some x) (ht : x.tree = some (ea x0)) (hN : X.N[i]? = some n := by rfl) (hv : Vis X.env.scope n := by first | exact Or.inl rfl | exact Or.inr (Or.inl rfl) | exact Or.inr (Or.inr rfl))
    (hd : (n == ("__debug__" : Str)) = false := by decide) (hcd : (n == ("__classdict__" : Str)) = false := by decide) : DP X W Γ (.Name n pos) i ea x0 (fun _ : Unit => []) ea (fun _ => x0) (fun _ y => y) (.ok ()) where
  run := dmk ⟨_, pe_var hN hv hd hcd, fun F M0 M H σ Q s po => by
    obtain ⟨v, a, h1, h2⟩ := s.look h ht
    exact ⟨v, h1, po v v M H (.refl s.mh) h1 rfl⟩⟩
  get := fun _ _ => rfl
  set := fun _ _ _ => rfl
/-- looked at -/
theorem db_dp {x : Sl} (h : DP X W Γ e i ea x0 path eb val put m) (hx : Γ[i]? = some x) (ht : x.tree = some (ea x0)) : DB X W Γ e eb (m >>= fun k => .ok (val k)) := ⟨fun F M0 M H σ Q s po => h.run F M0 M H σ _ s ((Po.bind po).and.imp (fun k _ ⟨em, q⟩ v w M1 H1 g hv hw => by
  obtain ⟨v', w', a, h1, h2, h3⟩ := (s.grow g).at hx ht (h.get k em)
  rw [hv] at h1
  cases h1
  cases At.det hw h2
  exact q w M1 H1 a g h3) fun _ z => z)⟩
/-- the class of one's own objects -/
structure ClF (X : Cx) (n : Str) (C : Addr) : Prop where
  g : X.mg n = some (.ref C)
  c : Cls X.K C
theorem lookup_ix {f : Str} : ∀ {kvs : List (Str × V)} {j : Nat}, (kvs.map (·.1)).findIdx? (f == ·) = some j → ∃ v, (kvs.map (·.2))[j]? = some v ∧ kvs.lookup f = some v
  | [], j, h => by cases h
  | (k, v) :: kvs, j, h => by
    rw [List.map_cons, List.findIdx?_cons] at h
    by_cases c : (f == k) = true
    · rw [if_pos c] at h
      cases h
      exact ⟨v, rfl, by rw [List.lookup_cons, c]⟩
    · rw [if_neg c] at h
      cases q : (kvs.map (·.1)).findIdx? (f == ·) with
      | none => rw [q] at h; cases h
      | some j' =>
        rw [q] at h
        cases h
        obtain ⟨w, h1, h2⟩ := lookup_ix q
        refine ⟨w, h1, ?_⟩
        rw [List.lookup_cons, show (f == k) = false from by simpa using c]
        exact h2
theorem dp_fld {n f : Str} {C : Addr} {x : Sl} {fs : List Str} {ec : γ → T} {ts : β → List T} (j : Nat) (g : β → γ) (st : β → γ → β) (hp : DP X W Γ e i ea x0 path eb val put m) (hx : Γ[i]? = some x) (ht : x.tree = some (ea x0)) (cf : ClF X n C) (na : NoAttr X.K C f)
    (hb : ∀ y, eb y = .obj n fs (ts y) := by intro _; rfl) (hj : fs.findIdx? (f == ·) = some j := by decide) (hg : ∀ y, (ts y)[j]? = some (ec (g y)) := by intro _; rfl) (hs : ∀ y z, T.obj n fs ((ts y).set j (ec z)) = eb (st y z) := by intro _ _; rfl)
    (hba : attributeBase e f X.env (eval e X.env) = eval e X.env := by rfl) : DP X W Γ (.Attribute e f pos) i ea x0 (fun k => path k ++ [j]) ec (fun k => g (val k)) (fun k z => put k (st (val k) z)) m where
  run := dmk ⟨_, pe_fld (pe_w X e) hba, fun F M0 M H σ Q s po => hp.run F M0 M H σ _ s (po.and.imp (fun k _ ⟨em, q⟩ v w M1 H1 gr hv hw => by
    obtain ⟨v', w', a, h1, h2, h3⟩ := (s.grow gr).at hx ht (hp.get k em)
    rw [hv] at h1
    cases h1
    cases At.det hw h2
    rw [hb] at h3
    obtain ⟨ad, c0, dx, kvs, r, rfl, q2, q3, q4, q5, q6⟩ := h3
    have hj := hj
    rw [← q5] at hj
    obtain ⟨u, z1, z2⟩ := lookup_ix hj
    have z3 : X.mg n = some (.ref c0) := q3
    rw [cf.g] at z3
    cases z3
    exact ⟨ad, C, dx, kvs, u, rfl, q4, cf.c, na, z2, q v u M1 H1 gr hv (At.snoc q4 rfl z1 hw)⟩) fun _ z => z)⟩
  get := fun k em => by
    rw [T.get_snoc (hp.get k em), hb]
    exact hg _
  set := fun k y em => by
    rw [T.set_snoc (hp.get k em), ← hp.set k _ em, ← hs, hb]
    show T.set (path k) (ea x0) (match (ts (val k))[j]? with | some _ => _ | none => _) = _
    rw [hg]
    rfl
def ixI {β : Type} (xs : List β) (i : Int) : Option (Nat × β) := match ixN xs.length i with
  | some j => xs[j]?.map fun x => (j, x)
  | none => none
theorem ixI_some {β : Type} {xs : List β} {i : Int} {p : Nat × β} (h : ixI xs i = some p) : ixN xs.length i = some p.1 ∧ xs[p.1]? = some p.2 := by
  unfold ixI at h
  cases q : ixN xs.length i with
  | none => rw [q] at h; cases h
  | some j =>
    rw [q] at h
    have h : (xs[j]?.map fun x => (j, x)) = some p := h
    cases z : xs[j]? with
    | none => rw [z] at h; cases h
    | some y => rw [z] at h; cases h; exact ⟨rfl, z⟩
theorem dp_ix {x : Sl} {ec : γ → T} {val : κ → List γ} {put : κ → List γ → α} {mb : R Int} (hp : DP X W Γ e i ea x0 path (fun xs => .lst (xs.map ec)) val put m) (hx : Γ[i]? = some x) (ht : x.tree = some (ea x0)) (hb : DD X W Γ b D.int mb) (hs : PlainIx b := by exact fun _ _ => rfl) :
    DP X W Γ (.Subscript e b pos) i ea x0 (fun k : κ × Nat × γ => path k.1 ++ [k.2.1]) ec (fun k => k.2.2) (fun k z => put k.1 ((val k.1).set k.2.1 z)) (m >>= fun k => mb >>= fun z => ofO (ixI (val k) z) >>= fun p => .ok (k, p)) where
  run := dmk ⟨_, pe_ix ix_list (pe_w X e) (pe_w X b) hs, fun F M0 M H σ Q s po => hp.run F M0 M H σ _ s (po.bind.and.imp (fun k _ ⟨em, q⟩ v w M1 H1 g1 hv hw => hb F M0 M1 H1 σ _ (s.grow g1) (q.bind.imp (fun z _ q u M2 H2 g2 r2 => by
    have q := q.bind
    obtain ⟨p, ez, q⟩ := q.ofO
    obtain ⟨i1, i2⟩ := ixI_some ez
    obtain ⟨v', w', as, h1, h2, h3⟩ := (s.grow (g1.trans g2)).at hx ht (hp.get k em)
    rw [hv] at h1
    cases h1
    have hw2 := At.same g2.hh hw
    cases At.det hw2 h2
    obtain ⟨ad, vs, r, rfl, q2, q3, q4⟩ := h3
    obtain ⟨y, ay, y1, _, _⟩ := Owns.get q4 (i := p.1) (t := ec p.2) (by rw [List.getElem?_map, i2]; rfl)
    refine ⟨ad, vs, z, y, rfl, r2, .of q3, ?_, q v y M2 H2 (g1.trans g2) hv (At.snoc q3 rfl y1 hw2)⟩
    unfold atI
    rw [show vs.length = (val k).length by rw [q4.len, List.length_map], i1]
    exact y1) fun c z M' H' g => z M' H' (g1.trans g))) fun _ z => z)⟩
  get := fun k em => by
    cases hm : m with
    | bad => rw [hm] at em; cases em
    | err c => rw [hm] at em; cases em
    | ok k0 =>
      rw [hm] at em
      have em : (mb >>= fun z => ofO (ixI (val k0) z) >>= fun p => R.ok (k0, p)) = .ok k := em
      cases hz : mb with
      | bad => rw [hz] at em; cases em
      | err c => rw [hz] at em; cases em
      | ok z =>
        rw [hz] at em
        have em : (ofO (ixI (val k0) z) >>= fun p => R.ok (k0, p)) = .ok k := em
        cases hi : ixI (val k0) z with
        | none => rw [hi] at em; cases em
        | some p =>
          rw [hi] at em
          cases em
          rw [T.get_snoc (hp.get k0 hm)]
          show ((val k0).map ec)[p.1]? = _
          rw [List.getElem?_map, (ixI_some hi).2]
          rfl
  set := fun k y em => by
    cases hm : m with
    | bad => rw [hm] at em; cases em
    | err c => rw [hm] at em; cases em
    | ok k0 =>
      rw [hm] at em
      have em : (mb >>= fun z => ofO (ixI (val k0) z) >>= fun p => R.ok (k0, p)) = .ok k := em
      cases hz : mb with
      | bad => rw [hz] at em; cases em
      | err c => rw [hz] at em; cases em
      | ok z =>
        rw [hz] at em
        have em : (ofO (ixI (val k0) z) >>= fun p => R.ok (k0, p)) = .ok k := em
        cases hi : ixI (val k0) z with
        | none => rw [hi] at em; cases em
        | some p =>
          rw [hi] at em
          cases em
          rw [T.set_snoc (hp.get k0 hm), ← hp.set k0 _ hm]
          congr 1
          show (match ((val k0).map ec)[p.1]? with | some k => T.lst (((val k0).map ec).set p.1 (ec y)) | none => _) = _
          rw [List.getElem?_map, (ixI_some hi).2, List.map_set]
          rfl
end
end
end Cn
/-! CnD: expressions that change one's own; stores at paths -/
namespace Cn
open PySem PySem.Spec L2
section
variable {G : Ctx} {F M0 M M' H H' : Hp} {σ : St} {Γ : List Sl}
theorem S.front {v : V} {t : T} (s : S G F M0 M H (some v :: σ) (.ow t :: Γ)) : S G F M0 M H σ Γ := by
  obtain ⟨as, f, ⟨v', r, a1, a2, e1, e2, h3, h4⟩⟩ := s
  cases e1
  exact ⟨a2, f.sub (by rw [e2]; exact List.sublist_append_right _ _), h4⟩
/-- the value ahead of the slots, stored -/
theorem S.pop {v : V} {t : T} {i : Nat} (s : S G F M0 M H (some v :: σ) (.ow t :: Γ)) (hi : i < Γ.length) : S G F M0 M H (σ.set i (some v)) (Γ.set i (.ow t)) := by
  obtain ⟨as, f, ⟨v', r, a1, a2, e1, e2, h3, h4⟩⟩ := s
  cases e1
  obtain ⟨bs, l, r', sb, eb, sub⟩ := Sat.put h4 hi h3
  refine ⟨bs, ?_, sb⟩
  have f2 : Fr0 F M0 M H (a1 ++ (l ++ r')) := f.sub (by rw [e2]; exact List.Sublist.append_left sub a1)
  refine f2.perm ?_
  rw [eb, ← List.append_assoc]
  exact List.perm_append_comm.append_right r'
/-- what stands ahead was made just now -/
theorem S.back {v : V} {t : T} (s : S G F M0 M H (some v :: σ) (.ow t :: Γ)) : ∃ Hm n, S G F M0 M Hm σ Γ ∧ Gr M Hm M H ∧ Own G M H t v n ∧ n.Nodup ∧ ∀ a ∈ n, Hm a = none ∧ M a = none := by
  obtain ⟨as, f, ⟨v', r, a1, a2, e1, e2, h3, h4⟩⟩ := s
  cases e1
  have nd := f.nd
  rw [e2, List.nodup_append] at nd
  obtain ⟨Hm, hM⟩ : ∃ Hm : Hp, Hm = fun b => if b ∈ a1 then none else H b := ⟨_, rfl⟩
  have m1 : ∀ b ∈ a1, Hm b = none := fun b hb => by rw [hM]; show (if b ∈ a1 then none else H b) = none; rw [if_pos hb]
  have m2 : ∀ b, b ∉ a1 → Hm b = H b := fun b hb => by rw [hM]; show (if b ∈ a1 then none else H b) = H b; rw [if_neg hb]
  have o1 : ∀ b ∈ a1, b ∈ as := fun b hb => by rw [e2]; exact List.mem_append_left _ hb
  refine ⟨Hm, a1, ⟨a2, ⟨fun b o e => ?_, f.mm, fun b o e => ?_, f.nw, nd.2.1, fun b hb => f.fa b (by rw [e2]; exact List.mem_append_right _ hb), fun b hb => f.ma b (by rw [e2]; exact List.mem_append_right _ hb)⟩, Sat.keep (.refl _) _ _ _ (fun b hb o e => ?_) h4⟩, ⟨fun b o e => ?_, .refl _, f.mh, fun b z => .inl z⟩, h3, nd.1, fun b hb => ⟨m1 b hb, f.ma b (o1 b hb)⟩⟩
  · rw [m2 b fun hb => by have := f.fa b (o1 b hb); rw [e] at this; cases this]
    exact f.fh b o e
  · rw [m2 b fun hb => by have := f.ma b (o1 b hb); rw [e] at this; cases this]
    exact f.mh b o e
  · rw [m2 b fun hb' => nd.2.2 b hb' b hb rfl]; exact e
  · by_cases hb : b ∈ a1
    · rw [m1 b hb] at e; cases e
    · rw [m2 b hb] at e; exact e
end
/-- an expression that may change what the slots own -/
abbrev DX (X : Cx) (W : WX) (Γ : List Sl) (e : Expr) {β : Type} (Γ' : β → List Sl) (emb : β → T) (m : R β) : Prop :=
  JQ X Γ (wE X e) fun F M0 M H σ Q => Po m (fun x => ∀ v M' H', S X.G F M0 M' H' (some v :: σ) (.ow (emb x) :: Γ' x) → Q v H') (fun c => ∀ M' H', S X.G F M0 M' H' σ Γ → Er X.G W c σ H')
section
variable {X : Cx} {W : WX} {Γe Γ : List Sl} {a b e c tg : Expr} {es : List Expr} {α β γ κ ω ω1 : Type} {pos : Pos} {s : Stmt} {rest ss A B : List Stmt}
theorem dx_df {emb : α → T} {m : R α} (h : DF X W Γ e emb m) : DX X W Γ e (fun _ => Γ) emb m := ⟨fun F M0 M H σ Q s po => h F M0 M H σ Q s (po.imp (fun x _ k v M' H' as g o nd fr => k v M' H' (s.cons g o nd fr)) fun c z M' H' g => z M' H' (s.grow g))⟩
theorem dx_dd {emb : α → D} {m : R α} (h : DD X W Γ e emb m) : DX X W Γ e (fun _ => Γ) (fun x => .imm (emb x)) m := dx_df (df_of_dd h)
/-- a name whose tree is given away -/
theorem dx_move {n : Str} {t : T} {emb : α → T} {x : α} (i : Nat) (h : Γ[i]? = some (.ow (emb x))) (hN : X.N[i]? = some n := by rfl) (hv : Vis X.env.scope n := by first | exact Or.inl rfl | exact Or.inr (Or.inl rfl) | exact Or.inr (Or.inr rfl))
    (hd : (n == ("__debug__" : Str)) = false := by decide) (hcd : (n == ("__classdict__" : Str)) = false := by decide) : DX X W Γ (.Name n pos) (fun _ => Γ.set i .un) emb (.ok x) := dmk
  ⟨_, pe_var hN hv hd hcd, fun F M0 M H σ Q s po => by
    obtain ⟨as, f, sa⟩ := s
    obtain ⟨v, bs, q1, q2, q3⟩ := Sat.move sa h
    exact ⟨v, q1, po v M H ⟨bs, f.perm q3, q2⟩⟩⟩
theorem er_wkS {F M0 : Hp} {σ : St} (hw : Wk Γe Γ) {c : Str} (z : ∀ M' H' σ', S X.G F M0 M' H' σ' Γe → Er X.G W c σ' H') : ∀ M' H', S X.G F M0 M' H' σ Γ → Er X.G W c σ H' := fun M' H' s => z M' H' σ (s.wk hw)
theorem st_setX {n : Str} {p : Pos} {Γ' : α → List Sl} {emb : α → T} {m : R α} (i : Nat) (he : DX X W Γ e Γ' emb m) (hw : Wk Γe Γ) (hl : ∀ x, Nat.blt i (Γ' x).length = true := by intro _; rfl) (hN : X.N.Nodup) (hi : X.N[i]? = some n := by rfl) (hx : Loc X.env.scope n := by first | exact Or.inl rfl | exact Or.inr rfl)
    (hs : swapsWith e (some (.Name n p)) pos.line X.env = pure false := by rfl) (hf : X.fn n = true ∨ X.env.scope.names.lookup n = some .local := by first | exact .inl rfl | exact .inr rfl) : St1 X W Γe Γ (.Assign [.Name n p] e pos) (fun x => .n ((Γ' x).set i (.ow (emb x)))) m :=
  smk ⟨_, ps_set hN hi hx (pe_w X e) hs hf, fun F M0 M H σ D s po => he F M0 M H σ _ s (po.imp (fun x _ q v M' H' st => Kn.nx q _ rfl M' H' _ (st.pop (Nat.le_of_ble_eq_true (hl x)))) fun c z => er_wkS hw z)⟩
theorem st_exprX {Γ' : α → List Sl} {emb : α → T} {m : R α} (he : DX X W Γ e Γ' emb m) (hw : Wk Γe Γ) (hs : swapsWith e none pos.line X.env = pure false := by rfl) : St1 X W Γe Γ (.Expr e pos) (fun x => .n (Γ' x)) m :=
  smk ⟨_, ps_expr (pe_w X e) hs, fun F M0 M H σ D s po => he F M0 M H σ _ s (po.imp (fun x _ q v M' H' st => Kn.nx q _ rfl M' H' _ st.front) fun c z => er_wkS hw z)⟩
theorem bk_retX {Γ' : α → List Sl} {emb : α → T} {m : R α} {κ : ω → Kd} {g : α → ω} {Γr : α → List Sl} (he : DX X W Γ e Γ' emb m) (hk : ∀ x, (κ (g x)).rt = some (emb x, Γr x)) (hr : ∀ x, Wk (Γr x) (Γ' x)) (hw : Wk Γe Γ) : Bk X W Γe Γ (.Return (some e) pos :: rest) κ (m >>= fun x => .ok (g x)) :=
  bmk ⟨_, pss_cons (ps_ret (pe_w X e)) (pss_w X rest), fun F M0 M H σ D s po => he F M0 M H σ _ s (po.bind.imp (fun x _ q v M' H' st => Kn.rt q _ _ (hk x) M' H' σ v (st.wkc (hr x))) fun c z => er_wkS hw z)⟩
theorem st_asgX {Γ' : α → List Sl} {emb : α → D} {m : R α} {put : α → List Sl} (he : DX X W Γ e Γ' (fun x => .imm (emb x)) m) (hg : ∀ x, DG X (Γ' x) tg (put x) (emb x)) (hw : Wk Γe Γ) (hs : swapsWithSole [tg] e pos.line X.env = pure false := by rfl) (hsw : swappedStores [tg] e X.env = pure none := by rfl)
    (h1 : (assignEach [tg] X.env).map (·.2) = [assign tg X.env] := by rfl) : St1 X W Γe Γ (.Assign [tg] e pos) (fun x => .n (put x)) m :=
  smk ⟨_, ps_asg (pe_w X e) (pg_w X tg) hs hsw h1, fun F M0 M H σ D st po => he F M0 M H σ _ st (po.imp (fun x _ k v M1 H1 st1 => by
    obtain ⟨Hm, n, s', g, o, _⟩ := st1.back
    exact hg x F M0 M1 H1 σ v _ st1.front o.2 fun M2 H2 σ2 _ s2 => Kn.nx k _ rfl M2 H2 σ2 s2) fun c z => er_wkS hw z)⟩
/-! ### what stands at a path is changed -/
theorem mem_ne {H : Hp} {ad : Addr} {r : List Addr} {a : List Addr} (e : a = ad :: r) (nd : a.Nodup) : ad ∉ r := by
  rw [e, List.nodup_cons] at nd
  exact nd.1
/-- the object itself is changed at its place; H1: where its value was found, (M2, H2): where it is changed -/
theorem S.root {G : Ctx} {F M0 M1 H1 : Hp} {σ : St} {Γ : List Sl} {i : Nat} {x : Sl} {t u : T} {p : List Nat} {v w : V} (s : S G F M0 M1 H1 σ Γ) (h : Γ[i]? = some x) (ht : x.tree = some t) (hp : T.get p t = some u) (hv : σ[i]? = some (some v)) (hw : At H1 p v w) :
    ∃ a, Own G M1 H1 u w a ∧ a.Nodup ∧ (∀ b ∈ a, M1 b = none) ∧ ∀ ad r, w = .ref ad → a = ad :: r → ∀ M2 H2 o' u' r', Gr M1 H1 M2 H2 → Own G M2 (upd H2 ad o') u' w (ad :: r') → r'.Nodup → (∀ b ∈ r', (b ∈ r ∨ H1 b = none) ∧ M2 b = none) → S G F M0 M2 (upd H2 ad o') σ (Γ.set i (x.put (T.set p t u'))) := by
  obtain ⟨v', w', a, h1, h2, h3, nd, ma, fa, _, k⟩ := s.change h ht hp
  rw [hv] at h1
  cases h1
  cases At.det hw h2
  refine ⟨a, h3, nd, ma, fun ad r ew ea M2 H2 o' u' r' g o nr fr => ?_⟩
  have ad1 : H1 ad ≠ none := Own.there _ _ _ h3 ad (by rw [ea]; exact List.mem_cons_self)
  have m2 : M2 ad = none := gr_keepNone g (ma ad (by rw [ea]; exact List.mem_cons_self)) ad1
  refine k M2 _ u' (ad :: r') ⟨fun b o hb e => ?_, g.mm, fun b o e => ?_, fun b z => (g.nw b z).elim .inl fun q => .inr (.inl q)⟩ o ⟨?_, fun b hb => ?_, fun b hb => ?_⟩
  · rw [upd_ne fun z => hb (by rw [z, ea]; exact List.mem_cons_self)]
    exact g.hh b o e
  · rw [upd_ne fun z => by rw [z, m2] at e; cases e]
    exact g.mh b o e
  · rw [List.nodup_cons]
    refine ⟨fun hb => ?_, nr⟩
    rcases (fr ad hb).1 with q | q
    · exact mem_ne (H := H1) ea nd q
    · exact ad1 q
  · rcases List.mem_cons.mp hb with q | q
    · rw [q, ea]; exact .inl List.mem_cons_self
    · rcases (fr b q).1 with z | z
      · rw [ea]; exact .inl (List.mem_cons_of_mem _ z)
      · exact .inr z
  · rcases List.mem_cons.mp hb with q | q
    · rw [q]; exact m2
    · exact (fr b q).2
section
variable {i : Nat} {ea : α → T} {x0 : α} {path : κ → List Nat} {eb : β → T} {val : κ → β} {put : κ → β → α} {m : R κ} {x : Sl} {p1 cpos : Pos}
/-- tgt.append(e) -/
theorem st_appendP {ec : γ → T} {val : κ → List γ} {put : κ → List γ → α} {me : R γ} (hp : DP X W Γ tg i ea x0 path (fun xs => .lst (xs.map ec)) val put m) (hx : Γ[i]? = some x) (ht : x.tree = some (ea x0)) (he : DF X W Γ e ec me) (hw : Wk Γe Γ)
    (hbase : attributeBase tg "append" X.env (eval tg X.env) = eval tg X.env := by rfl)
    (hfew : ((backTo cpos (starEach [e] X.env)).all (fun x => !x.1) && (backToKw cpos (keywordEach [] X.env)).all (fun x => x.1.isSome)
      && decide (([e]).length + ([] : List Keyword).length + (if ([] : List Keyword).isEmpty then 0 else 1) < 30)) = true := by rfl)
    (hline : (p1.endLine == cpos.line) = true := by rfl) (hs : starEach [e] X.env = (false, eval e X.env) :: starEach [] X.env := by exact star_cons rfl) (hplain : (backTo cpos (starEach [] X.env)).any (·.1) = false := by rfl)
    (hsw : swapsWith (.Call (.Attribute tg "append" p1) [e] [] cpos) none pos.line X.env = pure false := by rfl) :
    St1 X W Γe Γ (.Expr (.Call (.Attribute tg "append" p1) [e] [] cpos) pos) (fun y => .n (Γ.set i (x.put (ea y)))) (m >>= fun k => me >>= fun z => ofO (appO (val k) z) >>= fun ys => .ok (put k ys)) :=
  smk ⟨_, ps_expr (pe_bm PySem.F.plainAttrs_list PySem.F.slot_list_append PySem.F.type_list_append mt_append (pe_w X tg) (pa_cons (pe_w X e) pa_nil (hs := hs)) hbase hfew hline hs hplain) hsw, fun F M0 M H σ D st po => by
    refine hp.run F M0 M H σ _ st (po.bind.and.imp (fun k _ ⟨em, q⟩ v w M1 H1 g1 hv ha => ?_) fun c z => er_wk st hw z)
    have st1 := st.grow g1
    obtain ⟨a, o1, nd, ma, kk⟩ := st1.root hx ht (hp.get k em) hv ha
    obtain ⟨ad, vs, r, rfl, ea', h1, h2⟩ := id o1
    refine ⟨.inl ⟨rfl, vs, .of h1⟩, ?_⟩
    refine he F M0 M1 H1 σ _ st1 (q.bind.imp (fun z _ q v2 M2 H2 n g2 o2 nd2 fr2 => ?_) fun c z => er_wk st1 hw z)
    have q := q.bind
    obtain ⟨ys, ez, q⟩ := q.ofO
    unfold appO at ez
    by_cases hc : (val k).length < 16777216
    · rw [if_pos hc] at ez
      cases ez
      refine ⟨ad, vs, v2, rfl, rfl, g2.hh _ _ h1, by rw [h2.len, List.length_map, sizeLine_eq]; exact hc, ?_⟩
      refine Kn.nx q _ rfl M2 _ σ ?_
      rw [← hp.set k _ em]
      have hna : ∀ b ∈ r ++ n, b ≠ ad := fun b hb z => by
        subst z
        rcases List.mem_append.mp hb with y | y
        · exact mem_ne (H := H1) ea' nd y
        · have := (fr2 b y).1
          rw [h1] at this; cases this
      refine kk ad r rfl ea' M2 H2 _ _ (r ++ n) g2 ⟨ad, vs ++ [v2], r ++ n, rfl, rfl, upd_same, ?_⟩ ?_ fun b hb => ?_
      · rw [List.map_append]
        refine Owns.app (Owns.keep g2.mm _ _ _ (fun b hb o e => by rw [upd_ne (hna b (List.mem_append_left _ hb))]; exact g2.hh b o e) h2) ?_
        exact ⟨v2, [], n, [], rfl, by simp, Own.keep (.refl _) _ _ _ (fun b hb o e => by rw [upd_ne (hna b (List.mem_append_right _ hb))]; exact e) o2, ⟨rfl, rfl⟩⟩
      · rw [List.nodup_append]
        have nd := nd
        rw [ea', List.nodup_cons] at nd
        refine ⟨nd.2, nd2, fun y hy y' hy' e => ?_⟩
        subst e
        exact Owns.there _ _ _ h2 y hy (fr2 y hy').1
      · rcases List.mem_append.mp hb with y | y
        · exact ⟨.inl y, gr_keepNone g2 (ma b (by rw [ea']; exact List.mem_cons_of_mem _ y)) (Owns.there _ _ _ h2 b y)⟩
        · exact ⟨.inr (fr2 b y).1, (fr2 b y).2⟩
    · rw [if_neg hc] at ez; cases ez⟩
/-- tgt.extend(e), items that are data -/
theorem st_extendP {ei : γ → D} {val : κ → List γ} {put : κ → List γ → α} {me : R (List γ)} (hp : DP X W Γ tg i ea x0 path (fun xs => .lst (xs.map fun y => .imm (ei y))) val put m) (hx : Γ[i]? = some x) (ht : x.tree = some (ea x0)) (he : DLt X W Γ e (fun xs => xs.map ei) me) (hw : Wk Γe Γ)
    (hbase : attributeBase tg "extend" X.env (eval tg X.env) = eval tg X.env := by rfl)
    (hfew : ((backTo cpos (starEach [e] X.env)).all (fun x => !x.1) && (backToKw cpos (keywordEach [] X.env)).all (fun x => x.1.isSome)
      && decide (([e]).length + ([] : List Keyword).length + (if ([] : List Keyword).isEmpty then 0 else 1) < 30)) = true := by rfl)
    (hline : (p1.endLine == cpos.line) = true := by rfl) (hs : starEach [e] X.env = (false, eval e X.env) :: starEach [] X.env := by exact star_cons rfl) (hplain : (backTo cpos (starEach [] X.env)).any (·.1) = false := by rfl)
    (hsw : swapsWith (.Call (.Attribute tg "extend" p1) [e] [] cpos) none pos.line X.env = pure false := by rfl) :
    St1 X W Γe Γ (.Expr (.Call (.Attribute tg "extend" p1) [e] [] cpos) pos) (fun y => .n (Γ.set i (x.put (ea y)))) (m >>= fun k => me >>= fun z => ofO (extO (val k) z) >>= fun ys => .ok (put k ys)) :=
  smk ⟨_, ps_expr (pe_bm PySem.F.plainAttrs_list PySem.F.slot_list_extend PySem.F.type_list_extend mt_extend (pe_w X tg) (pa_cons (pe_w X e) pa_nil (hs := hs)) hbase hfew hline hs hplain) hsw, fun F M0 M H σ D st po => by
    refine hp.run F M0 M H σ _ st (po.bind.and.imp (fun k _ ⟨em, q⟩ v w M1 H1 g1 hv ha => ?_) fun c z => er_wk st hw z)
    have st1 := st.grow g1
    obtain ⟨a, o1, nd, ma, kk⟩ := st1.root hx ht (hp.get k em) hv ha
    obtain ⟨ad, vs, r, rfl, ea', h1, h2⟩ := id o1
    refine ⟨.inl ⟨rfl, vs, .of h1⟩, ?_⟩
    refine he F M0 M1 H1 σ _ st1 (q.bind.imp (fun z _ q b ws M2 H2 g2 hb r2 => ?_) fun c z => er_wk st1 hw z)
    have q := q.bind
    obtain ⟨ys, ez, q⟩ := q.ofO
    unfold extO at ez
    by_cases hc : (val k).length + z.length ≤ 16777216
    · rw [if_pos hc] at ez
      cases ez
      refine ⟨ad, b, vs, ws, rfl, rfl, g2.hh _ _ h1, hb, by rw [h2.len, r2.len, List.length_map, List.length_map, sizeLine_eq]; exact hc, ?_⟩
      refine Kn.nx q _ rfl M2 _ σ ?_
      rw [← hp.set k _ em]
      rw [map_imm] at h2
      obtain ⟨h3, er⟩ := Owns.of_imm h2
      subst er
      refine kk ad [] rfl ea' M2 H2 _ _ [] g2 ⟨ad, vs ++ ws, [], rfl, rfl, upd_same, ?_⟩ List.nodup_nil fun _ z => nomatch z
      rw [map_imm, List.map_append (l₁ := val k)]
      exact Owns.imm ((Reps.mono g2.mm _ _ h3).app r2)
    · rw [if_neg hc] at ez; cases ez⟩
/-- tgt[b] = e -/
theorem st_setixP {ec : γ → T} {val : κ → List γ} {put : κ → List γ → α} {me : R γ} {mi : R Int} {ps : Pos} (hp : DP X W Γ tg i ea x0 path (fun xs => .lst (xs.map ec)) val put m) (hx : Γ[i]? = some x) (ht : x.tree = some (ea x0)) (he : DF X W Γ e ec me) (hi : DD X W Γ b D.int mi) (hw : Wk Γe Γ)
    (ha : ∀ v, assign (.Subscript tg b ps) X.env v = (do
      let ov ← holding [v] (eval tg X.env)
      let iv ← holding [v, ov] (eval b X.env)
      standAt ps
      holding [v, ov, iv] (setItem ov iv v)
      release [v, ov, iv] []) := by intro _; rfl)
    (hs : swapsWithSole [.Subscript tg b ps] e pos.line X.env = pure false := by rfl) (hsw : swappedStores [.Subscript tg b ps] e X.env = pure none := by rfl)
    (h1 : (assignEach [.Subscript tg b ps] X.env).map (·.2) = [assign (.Subscript tg b ps) X.env] := by rfl) :
    St1 X W Γe Γ (.Assign [.Subscript tg b ps] e pos) (fun y => .n (Γ.set i (x.put (ea y)))) (me >>= fun z => m >>= fun k => mi >>= fun j => ofO (setO (val k) j z) >>= fun ys => .ok (put k ys)) :=
  smk ⟨_, ps_asg (pe_w X e) (pg_sub (pe_w X tg) (pe_w X b) set_list ha) hs hsw h1, fun F M0 M H σ D st po => by
    refine he F M0 M H σ _ st (po.bind.imp (fun z _ q v2 M1 H1 n g1 o2 nd2 fr2 => ?_) fun c z => er_wk st hw z)
    have st1 := st.grow g1
    refine hp.run F M0 M1 H1 σ _ st1 (q.bind.and.imp (fun k _ ⟨em, q⟩ v w M2 H2 g2 hv ha => ?_) fun c z => er_wk st1 hw z)
    have st2 := st1.grow g2
    refine hi F M0 M2 H2 σ _ st2 (q.bind.imp (fun j _ q u M3 H3 g3 r3 => ?_) fun c z => er_wk st2 hw z)
    have q := q.bind
    obtain ⟨ys, ez, q⟩ := q.ofO
    unfold setO at ez
    cases hq : ixN (val k).length j with
    | none => rw [hq] at ez; cases ez
    | some l =>
      rw [hq] at ez
      cases ez
      -- the heap in which the new item isn't there yet
      obtain ⟨Hm, n', sm, gm, om, ndm, frm⟩ := (st.cons (M' := M1) (H' := H1) (t := ec z) g1 o2 nd2 fr2).grow (g2.trans g3) |>.back
      have hw3 := At.same g3.hh ha
      have st3 := st2.grow g3
      obtain ⟨v', w', aa, y1, y2, y3⟩ := sm.at hx ht (hp.get k em)
      rw [hv] at y1
      cases y1
      cases At.det hw3 (At.same gm.hh y2)
      obtain ⟨a, o1, nd, ma, kk⟩ := sm.root hx ht (hp.get k em) hv y2
      obtain ⟨ad, vs, r, rfl, ea', h1, h2⟩ := id o1
      refine ⟨ad, vs, j, l, rfl, r3, gm.hh _ _ h1, by rw [h2.len, List.length_map]; exact hq, ?_⟩
      refine Kn.nx q _ rfl M3 _ σ ?_
      rw [← hp.set k _ em]
      have hl : l < (val k).length := by
        have := (ixN_seq hq).2.1
        exact this
      obtain ⟨w0, lf, af, rf, q1, q2, q3, q4⟩ := Owns.focus h2 (i := l) (t := ec (val k)[l]) (by rw [List.getElem?_map, List.getElem?_eq_getElem hl]; rfl)
      have nd' := nd
      rw [ea', List.nodup_cons] at nd'
      have hsub : ∀ b ∈ lf ++ rf, b ∈ r := fun b hb => by
        rw [q2]
        rcases List.mem_append.mp hb with y | y <;> simp [y]
      have hna : ∀ b ∈ n', b ≠ ad := fun b hb z => by
        subst z
        have := (frm b hb).1
        rw [h1] at this; cases this
      have hnr : ∀ b ∈ lf ++ rf, b ≠ ad := fun b hb z => by
        subst z
        exact nd'.1 (hsub b hb)
      refine kk ad r rfl ea' M3 H3 _ _ (lf ++ n' ++ rf) gm ⟨ad, vs.set l v2, lf ++ n' ++ rf, rfl, rfl, upd_same, ?_⟩ ?_ fun b hb => ?_
      · rw [List.map_set]
        exact q4 M3 _ _ _ _ gm.mm (fun b hb o e => by rw [upd_ne (hnr b hb)]; exact gm.hh b o e) (Own.keep (.refl _) _ _ _ (fun b hb o e => by rw [upd_ne (hna b hb)]; exact e) om)
      · have sub : (lf ++ rf).Sublist r := by
          rw [q2, List.append_assoc]
          exact List.Sublist.append_left (List.sublist_append_right _ _) _
        have nlr := nd'.2.sublist sub
        rw [List.nodup_append] at nlr
        have thr : ∀ b ∈ r, Hm b ≠ none := Owns.there _ _ _ h2
        rw [List.append_assoc, List.nodup_append, ]
        refine ⟨nlr.1, by rw [List.nodup_append]; exact ⟨ndm, nlr.2.1, fun y hy y' hy' e => by subst e; exact thr y (hsub y (List.mem_append_right _ hy')) (frm y hy).1⟩, fun y hy y' hy' e => ?_⟩
        subst e
        rcases List.mem_append.mp hy' with z | z
        · exact thr y (hsub y (List.mem_append_left _ hy)) (frm y z).1
        · exact nlr.2.2 y hy y z rfl
      · rcases List.mem_append.mp hb with y | y
        · rcases List.mem_append.mp y with y | y
          · exact ⟨.inl (hsub b (List.mem_append_left _ y)), ma b (by rw [ea']; exact List.mem_cons_of_mem _ (hsub b (List.mem_append_left _ y)))⟩
          · exact ⟨.inr (frm b y).1, (frm b y).2⟩
        · exact ⟨.inl (hsub b (List.mem_append_right _ y)), ma b (by rw [ea']; exact List.mem_cons_of_mem _ (hsub b (List.mem_append_right _ y)))⟩⟩
end
end
end Cn
/-! CnE: looking at trees and fields; defs that look, defs that change what they are handed; methods; making objects -/
namespace Cn
open PySem PySem.Spec L2
def Sl.look : Sl → Option T
  | .un => none
  | .ow t => some t
  | .pn _ t => some t
  | .lk t => some t
section
variable {G : Ctx} {F M0 M M' H H' : Hp}
theorem Sat.see : ∀ {Γ : List Sl} {σ : St} {as : List Addr} {i : Nat} {x : Sl} {t : T}, Same F H → Sat G F M H Γ σ as → Γ[i]? = some x → x.look = some t → ∃ v a, σ[i]? = some (some v) ∧ Own G M H t v a
  | [], σ, as, i, x, t, fh, h, e, et => by simp at e
  | .un :: Γ, σ, as, 0, x, t, fh, h, e, et => by cases e; cases et
  | .un :: Γ, σ, as, i + 1, x, t, fh, ⟨y, r, h1, h2⟩, e, et => by
    subst h1
    exact Sat.see (i := i) fh h2 e et
  | .ow t' :: Γ, σ, as, 0, x, t, fh, ⟨v, r, a1, a2, h1, h2, h3, h4⟩, e, et => by
    cases e; cases et; subst h1
    exact ⟨v, a1, rfl, h3⟩
  | .ow t' :: Γ, σ, as, i + 1, x, t, fh, ⟨v, r, a1, a2, h1, h2, h3, h4⟩, e, et => by
    subst h1
    exact Sat.see (i := i) fh h4 e et
  | .pn w t' :: Γ, σ, as, 0, x, t, fh, ⟨r, a1, a2, h1, h2, h3, h4⟩, e, et => by
    cases e; cases et; subst h1
    exact ⟨w, a1, rfl, h3⟩
  | .pn w t' :: Γ, σ, as, i + 1, x, t, fh, ⟨r, a1, a2, h1, h2, h3, h4⟩, e, et => by
    subst h1
    exact Sat.see (i := i) fh h4 e et
  | .lk t' :: Γ, σ, as, 0, x, t, fh, ⟨v, r, a0, h1, h2, h3⟩, e, et => by
    cases e; cases et; subst h1
    exact ⟨v, a0, rfl, Own.keep (.refl _) _ _ _ (fun b _ o q => fh b o q) h2⟩
  | .lk t' :: Γ, σ, as, i + 1, x, t, fh, ⟨v, r, a0, h1, h2, h3⟩, e, et => by
    subst h1
    exact Sat.see (i := i) fh h3 e et
theorem S.see {σ : St} {Γ : List Sl} {i : Nat} {x : Sl} {t : T} (s : S G F M0 M H σ Γ) (h : Γ[i]? = some x) (ht : x.look = some t) : ∃ v a, σ[i]? = some (some v) ∧ Own G M H t v a := by
  obtain ⟨as, f, sa⟩ := s
  exact Sat.see f.fh sa h ht
end
section
variable {X : Cx} {W : WX} {Γe Γ : List Sl} {a b e c tg : Expr} {es : List Expr} {α β γ κ ω ω1 ρ ξ : Type} {pos : Pos} {s : Stmt} {rest ss A B : List Stmt}
theorem db_see {emb : α → T} {x : α} {sl : Sl} {n : Str} (i : Nat) (h : Γ[i]? = some sl) (hs : sl.look = some (emb x)) (hN : X.N[i]? = some n := by rfl) (hv : Vis X.env.scope n := by first | exact Or.inl rfl | exact Or.inr (Or.inl rfl) | exact Or.inr (Or.inr rfl))
    (hd : (n == ("__debug__" : Str)) = false := by decide) (hcd : (n == ("__classdict__" : Str)) = false := by decide) : DB X W Γ (.Name n pos) emb (.ok x) := dmk
  ⟨_, pe_var hN hv hd hcd, fun F M0 M H σ Q s po => by
    obtain ⟨v, a, h1, h2⟩ := s.see h hs
    exact ⟨v, h1, po v M H a (.refl s.mh) h2⟩⟩
theorem dd_db {emb : α → D} {m : R α} (h : DB X W Γ e (fun x => .imm (emb x)) m) : DD X W Γ e emb m := ⟨fun F M0 M H σ Q s po => h F M0 M H σ Q s (po.imp (fun x _ k v M' H' as g o => k v M' H' g o.2) fun _ z => z)⟩
theorem db_fld {n f : Str} {C : Addr} {fs : List Str} {eb : β → T} {ec : γ → T} {ts : β → List T} {m : R β} (j : Nat) (g : β → γ) (h : DB X W Γ e eb m) (cf : ClF X n C) (na : NoAttr X.K C f)
    (hb : ∀ y, eb y = .obj n fs (ts y) := by intro _; rfl) (hj : fs.findIdx? (f == ·) = some j := by decide) (hg : ∀ y, (ts y)[j]? = some (ec (g y)) := by intro _; rfl)
    (hba : attributeBase e f X.env (eval e X.env) = eval e X.env := by rfl) : DB X W Γ (.Attribute e f pos) ec (m >>= fun y => .ok (g y)) :=
  dmk ⟨_, pe_fld (pe_w X e) hba, fun F M0 M H σ Q s po => h F M0 M H σ _ s (po.bind.imp (fun y _ q v M1 H1 as gr o => by
    rw [hb] at o
    obtain ⟨ad, c0, dx, kvs, r, rfl, q2, q3, q4, q5, q6⟩ := o
    have hj := hj
    rw [← q5] at hj
    obtain ⟨u, z1, z2⟩ := lookup_ix hj
    have z3 : X.mg n = some (.ref c0) := q3
    rw [cf.g] at z3
    cases z3
    obtain ⟨w, a, y1, y2, _⟩ := Owns.get q6 (hg y)
    rw [z1] at y1
    cases y1
    exact ⟨ad, C, dx, kvs, u, rfl, q4, cf.c, na, z2, q u M1 H1 a gr y2⟩) fun _ z => z)⟩
/-- a field of an object that is shared data -/
theorem dd_fldD {n f : Str} {C : Addr} {fs : List Str} {eb : β → D} {ec : γ → D} {ts : β → List D} {m : R β} (j : Nat) (g : β → γ) (h : DD X W Γ e eb m) (cf : ClF X n C) (na : NoAttr X.K C f)
    (hb : ∀ y, eb y = .obj n fs (ts y) := by intro _; rfl) (hj : fs.findIdx? (f == ·) = some j := by decide) (hg : ∀ y, (ts y)[j]? = some (ec (g y)) := by intro _; rfl)
    (hba : attributeBase e f X.env (eval e X.env) = eval e X.env := by rfl) : DD X W Γ (.Attribute e f pos) ec (m >>= fun y => .ok (g y)) :=
  dmk ⟨_, pe_fld (pe_w X e) hba, fun F M0 M H σ Q s po => h F M0 M H σ _ s (po.bind.imp (fun y _ q v M1 H1 gr o => by
    rw [hb] at o
    obtain ⟨ad, c0, dx, kvs, rfl, q3, q4, q5, q6⟩ := o
    have hj := hj
    rw [← q5] at hj
    obtain ⟨u, z1, z2⟩ := lookup_ix hj
    have z3 : X.mg n = some (.ref c0) := q3
    rw [cf.g] at z3
    cases z3
    obtain ⟨w, y1, y2⟩ := Reps.get q6 (hg y)
    rw [z1] at y1
    cases y1
    exact ⟨ad, C, dx, kvs, u, rfl, gr.mh _ _ q4, cf.c, na, z2, q u M1 H1 gr y2⟩) fun _ z => z)⟩
theorem db_ix {ec : γ → T} {ma : R (List γ)} {mb : R Int} (ha : DB X W Γ e (fun xs => .lst (xs.map ec)) ma) (hb : DD X W Γ b D.int mb) (hs : PlainIx b := by exact fun _ _ => rfl) : DB X W Γ (.Subscript e b pos) ec (ma >>= fun xs => mb >>= fun z => ofO (atI xs z)) :=
  dmk ⟨_, pe_ix ix_list (pe_w X e) (pe_w X b) hs, fun F M0 M H σ Q s po => ha F M0 M H σ _ s (po.bind.imp (fun xs _ q v M1 H1 as g1 o => hb F M0 M1 H1 σ _ (s.grow g1) (q.bind.imp (fun z _ q u M2 H2 g2 r2 => by
    obtain ⟨y, ez, q⟩ := q.ofO
    have o := Own.keep g2.mm _ _ _ (fun b _ o e => g2.hh b o e) o
    obtain ⟨ad, vs, r, rfl, q2, q3, q4⟩ := o
    unfold atI at ez
    cases hi : ixN xs.length z with
    | none => rw [hi] at ez; cases ez
    | some j =>
      rw [hi] at ez
      have ez : xs[j]? = some y := ez
      obtain ⟨w, a, y1, y2, _⟩ := Owns.get q4 (i := j) (t := ec y) (by rw [List.getElem?_map, ez]; rfl)
      refine ⟨ad, vs, z, w, rfl, r2, .of q3, ?_, q w M2 H2 a (g1.trans g2) y2⟩
      unfold atI
      rw [show vs.length = xs.length by rw [q4.len, List.length_map], hi]
      exact y1) fun c z M' H' g => z M' H' (g1.trans g))) fun _ z => z)⟩
/-! ### what a def is handed -/
inductive Ar where
  /-- shared data -/
  | dt (d : D)
  /-- a tree -/
  | tr (t : T)
def Ar.to : Ar → Cn.T
  | .dt d => .imm d
  | .tr t => t
/-- a def that looks at what it is handed: it hands back what stands for f a, or raises -/
def SpL (G : Ctx) {α ρ : Type} (args : α → List Ar) (er : ρ → T) (f : α → R ρ) : Sp := fun vs H Q E => ∃ (a : α) (M : Hp) (as : List Addr), Same M H ∧ Owns G M H ((args a).map Ar.to) vs as ∧
  Po (f a) (fun r => WF G M H (er r) Q) (fun c => ∀ M' H', Gr M H M' H' → ∀ C, G.mg c = some (.ref C) → E (.ref C) none H')
abbrev DAL (X : Cx) (W : WX) (Γ : List Sl) (es : List Expr) {α : Type} (emb : α → List Ar) (m : R α) : Prop :=
  JQ X Γ (wA X es) fun F M0 M H σ Q => Po m (fun x => ∀ vs M' H' as, Gr M H M' H' → Owns X.G M' H' ((emb x).map Ar.to) vs as → Q vs H') (fun c => ∀ M' H', Gr M H M' H' → Er X.G W c σ H')
theorem dal_nil : DAL X W Γ [] (fun _ : Unit => []) (.ok ()) := amk ⟨_, pa_nil, fun F M0 M H σ Q s po => po [] M H [] (.refl s.mh) ⟨rfl, rfl⟩⟩
theorem dal_db {ec : α → T} {es' : β → List Ar} {m : R α} {n : R β} (h : DB X W Γ e ec m) (k : DAL X W Γ es es' n) (hs : starEach (e :: es) X.env = (false, eval e X.env) :: starEach es X.env := by exact star_cons rfl) :
    DAL X W Γ (e :: es) (fun p : α × β => .tr (ec p.1) :: es' p.2) (m >>= fun x => n >>= fun y => .ok (x, y)) :=
  amk ⟨_, pa_cons (pe_w X e) (pa_w X es) hs, fun F M0 M H σ Q s po => h F M0 M H σ _ s (po.bind.imp (fun x _ q v M1 H1 a1 g o => k F M0 M1 H1 σ _ (s.grow g) (q.bind.imp (fun y _ z vs M2 H2 as g2 r2 => z _ M2 H2 (a1 ++ as) (g.trans g2) ⟨v, vs, a1, as, rfl, rfl, Own.keep g2.mm _ _ _ (fun b _ o e => g2.hh b o e) o, r2⟩) fun c z M2 H2 g2 => z M2 H2 (g.trans g2))) fun _ z => z)⟩
theorem dal_dd {ec : α → D} {es' : β → List Ar} {m : R α} {n : R β} (h : DD X W Γ e ec m) (k : DAL X W Γ es es' n) (hs : starEach (e :: es) X.env = (false, eval e X.env) :: starEach es X.env := by exact star_cons rfl) :
    DAL X W Γ (e :: es) (fun p : α × β => .dt (ec p.1) :: es' p.2) (m >>= fun x => n >>= fun y => .ok (x, y)) :=
  amk ⟨_, pa_cons (pe_w X e) (pa_w X es) hs, fun F M0 M H σ Q s po => h F M0 M H σ _ s (po.bind.imp (fun x _ q v M1 H1 g o => k F M0 M1 H1 σ _ (s.grow g) (q.bind.imp (fun y _ z vs M2 H2 as g2 r2 => z _ M2 H2 as (g.trans g2) ⟨v, vs, [], as, rfl, rfl, ⟨rfl, Rep.mono g2.mm _ _ o⟩, r2⟩) fun c z M2 H2 g2 => z M2 H2 (g.trans g2))) fun _ z => z)⟩
theorem wf_grow {G : Ctx} {M H M1 H1 : Hp} {t : T} {Q : VK} (g : Gr M H M1 H1) (k : WF G M H t Q) : WF G M1 H1 t Q := fun v M2 H2 as g2 o nd fr => k v M2 H2 as (g.trans g2) o nd fun a ha => ⟨g.hh.free (fr a ha).1, (fr a ha).2⟩
theorem df_callL {k : Nat} {f : Addr} {fd : FuncData} {ps : List Str} {n : Str} {p : Pos} {args : α → List Ar} {er : ρ → T} {g : α → R ρ} {m : R α} (Fk : FnOk X.prog X.w X.K X.mg X.base (L2.CX X.prog X.w) k f fd ps (SpL X.G args er g)) (hr : Room k X.A) (hm : X.mg n = some (.ref f)) (hk : PySem.W.keepIn X.K (.ref f) = true) (hb : Binds X.K fd ps [])
    (tk : Takes X W) (ha : DAL X W Γ (e :: es) args m) (hg : Gl X n := by rfl) (hdb : (n == ("__debug__" : Str)) = false := by decide) (he : starEach (e :: es) X.env = (false, eval e X.env) :: starEach es X.env := by exact star_cons rfl) (hpl : (backTo pos (starEach es X.env)).any (·.1) = false := by exact star_none rfl) :
    DF X W Γ (.Call (.Name n p) (e :: es) [] pos) er (m >>= g) :=
  dmk ⟨_, pe_callS Fk hr hg hm hk hb (fun σ => passAt tk σ) (pa_w X (e :: es)) hdb he hpl, fun F M0 M H σ Q s po => ha F M0 M H σ _ s (po.bind.imp (fun x _ k vs M1 H1 as g1 o1 => ⟨x, M1, as, g1.mh, o1, k.imp (fun r _ z => wf_grow g1 z) fun c z M2 H2 g2 => z M2 H2 (g1.trans g2)⟩) fun _ z => z)⟩
/-! methods -/
def tMethS (C : Addr) (m : Str) (sp : Sp) (E : St → XK) (ta : TE) (t : TA) : TE := fun σ H Q => ta σ H fun x H1 => ∃ a dx fs, x = .ref a ∧ H1 a = some (.ins C dx fs) ∧ fs.lookup m = none ∧ t σ H1 fun vs H2 => sp (x :: vs) H2 Q (E σ)
theorem pe_methP {CX : CXT} {k : Nat} {C f : Addr} {fd : FuncData} {ps : List Str} {sp : Sp} {E : St → XK} {m : Str} {apos : Pos} {o : Expr} {ta : TE} {t : TA} {pl : Sem Bool} (he : PE X o ta) (c : Cls X.K C) (hm : Meth X.K C m f) (F : FnOk X.prog X.w X.K X.mg X.base CX k f fd ps sp) (hr : Room k X.A) (hb : Binds X.K fd ps []) (hx : ∀ σ, PassesAt CX X σ (E σ)) (ha : PA X (e :: es) t)
    (hst : starEach (e :: es) X.env = (false, eval e X.env) :: starEach es X.env := by rfl) (hpl : (backTo pos (starEach es X.env)).any (·.1) = false := by rfl)
    (ht : eval (.Call (.Attribute o m apos) (e :: es) [] pos) X.env = (do
      let ov ← eval o X.env
      standAt apos.atName
      let (f, first) ← holding [ov] (getMethod ov m pl)
      callWith pos f first (backTo pos (starEach (e :: es) X.env)) (backToKw pos (keywordEach [] X.env))) := by rfl) :
    PE X (.Call (.Attribute o m apos) (e :: es) [] pos) (tMethS C m sp E ta t) := by
  refine ⟨fun pins s σ H Q I h => ?_⟩
  refine PySem.W.methodCall_KW (pl := pl) (thn (he.run pins s σ H _ I h) fun u s1 ⟨x, H1, I1, rx, a, dx, fs, ex, ea, l, q⟩ => ?_) ht
  subst ex
  obtain rfl : u = Value.ref a := rx
  refine getmeth_ok I1 ea c hm l ?_
  refine PySem.W.callWith_K (first := [.ref a]) (h₀ := X.base) I.ok.mod.kin hm.kp (thn (ha.run pos pins s1 σ H1 _ I1 q) fun us s2 ⟨vs, H2, I2, r, q2⟩ => ⟨I2.kIn, ?_⟩) hst hpl
  exact run_fnS (us := .ref a :: us) (vs := .ref a :: vs) F hr hb (hx σ) I2 (.cons rfl r) q2
theorem pe_methP0 {CX : CXT} {k : Nat} {C f : Addr} {fd : FuncData} {ps : List Str} {sp : Sp} {E : St → XK} {m : Str} {apos : Pos} {o : Expr} {ta : TE} {pl : Sem Bool} (he : PE X o ta) (c : Cls X.K C) (hm : Meth X.K C m f) (F : FnOk X.prog X.w X.K X.mg X.base CX k f fd ps sp) (hr : Room k X.A) (hb : Binds X.K fd ps []) (hx : ∀ σ, PassesAt CX X σ (E σ))
    (ht : eval (.Call (.Attribute o m apos) [] [] pos) X.env = (do
      let ov ← eval o X.env
      standAt apos.atName
      let (f, first) ← holding [ov] (getMethod ov m pl)
      callWith pos f first (backTo pos (starEach [] X.env)) (backToKw pos (keywordEach [] X.env))) := by rfl) :
    PE X (.Call (.Attribute o m apos) [] [] pos) (tMethS C m sp E ta tNil) := by
  refine ⟨fun pins s σ H Q I h => ?_⟩
  refine PySem.W.methodCall_KW (pl := pl) (thn (he.run pins s σ H _ I h) fun u s1 ⟨x, H1, I1, rx, a, dx, fs, ex, ea, l, q⟩ => ?_) ht
  subst ex
  obtain rfl : u = Value.ref a := rx
  refine getmeth_ok I1 ea c hm l ?_
  exact PySem.W.callWith_K0 (first := [.ref a]) I1.kIn hm.kp (run_fnS (us := [.ref a]) (vs := [.ref a]) F hr hb (hx σ) I1 (.cons rfl .nil) q)
theorem lookup_no {m : Str} : ∀ {kvs : List (Str × V)}, (kvs.map (·.1)).contains m = false → kvs.lookup m = none
  | [], _ => rfl
  | (k, v) :: kvs, h => by
    rw [List.map_cons, List.contains_cons, Bool.or_eq_false_iff] at h
    rw [List.lookup_cons, show (m == k) = false from h.1]
    exact lookup_no h.2
/-- o.m(e, ..), o looked at -/
theorem df_methL {k : Nat} {f C : Addr} {fd : FuncData} {ps : List Str} {n mt : Str} {apos : Pos} {o : Expr} {eb : β → T} {mo : R β} {fs : List Str} {ts : β → List T} {args : α → List Ar} {args' : γ → List Ar} {er : ρ → T} {g : α → R ρ} {m : R γ} (cv : β → γ → α) (Fk : FnOk X.prog X.w X.K X.mg X.base (L2.CX X.prog X.w) k f fd ps (SpL X.G args er g)) (hr : Room k X.A) (cf : ClF X n C) (hm : Meth X.K C mt f) (hb : Binds X.K fd ps [])
    (tk : Takes X W) (ho : DB X W Γ o eb mo) (ha : DAL X W Γ (e :: es) args' m) (hob : ∀ y, eb y = .obj n fs (ts y) := by intro _; rfl) (hf : fs.contains mt = false := by decide) (hcv : ∀ y z, args (cv y z) = .tr (eb y) :: args' z := by intro _ _; rfl)
    (he : starEach (e :: es) X.env = (false, eval e X.env) :: starEach es X.env := by exact star_cons rfl) (hpl : (backTo pos (starEach es X.env)).any (·.1) = false := by exact star_none rfl)
    (pl : Sem Bool) (ht : eval (.Call (.Attribute o mt apos) (e :: es) [] pos) X.env = (do
      let ov ← eval o X.env
      standAt apos.atName
      let (f, first) ← holding [ov] (getMethod ov mt pl)
      callWith pos f first (backTo pos (starEach (e :: es) X.env)) (backToKw pos (keywordEach [] X.env))) := by rfl) :
    DF X W Γ (.Call (.Attribute o mt apos) (e :: es) [] pos) er (mo >>= fun y => m >>= fun z => g (cv y z)) :=
  dmk ⟨_, pe_methP (pl := pl) (pe_w X o) cf.c hm Fk hr hb (fun σ => passAt tk σ) (pa_w X (e :: es)) he hpl ht, fun F M0 M H σ Q s po => ho F M0 M H σ _ s (po.bind.imp (fun y _ q v M1 H1 a1 g1 o1 => by
    have o1' := o1
    rw [hob] at o1'
    obtain ⟨ad, c0, dx, kvs, r, rfl, q2, q3, q4, q5, q6⟩ := o1'
    have z3 : X.mg n = some (.ref c0) := q3
    rw [cf.g] at z3
    cases z3
    refine ⟨ad, dx, kvs, rfl, q4, lookup_no (by rw [q5]; exact hf), ha F M0 M1 H1 σ _ (s.grow g1) (q.bind.imp (fun z _ k vs M2 H2 as g2 o2 => ⟨cv y z, M2, a1 ++ as, g2.mh, ?_, k.imp (fun r _ z => wf_grow (g1.trans g2) z) fun c z M3 H3 g3 => z M3 H3 ((g1.trans g2).trans g3)⟩) fun c z M' H' g => z M' H' (g1.trans g))⟩
    rw [hcv]
    exact ⟨.ref ad, vs, a1, as, rfl, rfl, Own.keep g2.mm _ _ _ (fun b _ o e => g2.hh b o e) o1, o2⟩) fun _ z => z)⟩
theorem df_methL0 {k : Nat} {f C : Addr} {fd : FuncData} {ps : List Str} {n mt : Str} {apos : Pos} {o : Expr} {eb : β → T} {mo : R β} {fs : List Str} {ts : β → List T} {args : α → List Ar} {er : ρ → T} {g : α → R ρ} (cv : β → α) (Fk : FnOk X.prog X.w X.K X.mg X.base (L2.CX X.prog X.w) k f fd ps (SpL X.G args er g)) (hr : Room k X.A) (cf : ClF X n C) (hm : Meth X.K C mt f) (hb : Binds X.K fd ps [])
    (tk : Takes X W) (ho : DB X W Γ o eb mo) (hob : ∀ y, eb y = .obj n fs (ts y) := by intro _; rfl) (hf : fs.contains mt = false := by decide) (hcv : ∀ y, args (cv y) = [.tr (eb y)] := by intro _; rfl)
    (pl : Sem Bool) (ht : eval (.Call (.Attribute o mt apos) [] [] pos) X.env = (do
      let ov ← eval o X.env
      standAt apos.atName
      let (f, first) ← holding [ov] (getMethod ov mt pl)
      callWith pos f first (backTo pos (starEach [] X.env)) (backToKw pos (keywordEach [] X.env))) := by rfl) :
    DF X W Γ (.Call (.Attribute o mt apos) [] [] pos) er (mo >>= fun y => g (cv y)) :=
  dmk ⟨_, pe_methP0 (pl := pl) (pe_w X o) cf.c hm Fk hr hb (fun σ => passAt tk σ) ht, fun F M0 M H σ Q s po => ho F M0 M H σ _ s (po.bind.imp (fun y _ q v M1 H1 a1 g1 o1 => by
    have o1' := o1
    rw [hob] at o1'
    obtain ⟨ad, c0, dx, kvs, r, rfl, q2, q3, q4, q5, q6⟩ := o1'
    have z3 : X.mg n = some (.ref c0) := q3
    rw [cf.g] at z3
    cases z3
    refine ⟨ad, dx, kvs, rfl, q4, lookup_no (by rw [q5]; exact hf), cv y, M1, a1, g1.mh, ?_, q.imp (fun r _ z => wf_grow g1 z) fun c z M3 H3 g3 => z M3 H3 (g1.trans g3)⟩
    rw [hcv]
    exact ⟨.ref ad, [], a1, [], rfl, by simp, o1, ⟨rfl, rfl⟩⟩) fun _ z => z)⟩
end
/-! ### a def that looks -/
def slotsL : List Ar → List Sl
  | [] => []
  | .dt d :: as => .ow (.imm d) :: slotsL as
  | .tr t :: as => .lk t :: slotsL as
theorem Owns.satL {G : Ctx} {M H : Hp} : ∀ {ars : List Ar} {vs : List V} {as : List Addr}, Owns G M H (ars.map Ar.to) vs as → Sat G H M H (slotsL ars) (vs.map some) []
  | [], vs, as, h => by rw [h.1]; exact ⟨rfl, rfl⟩
  | .dt d :: ars, vs, as, ⟨v, r, a1, a2, h1, h2, h3, h4⟩ => by
    subst h1
    exact ⟨v, _, [], [], rfl, rfl, ⟨rfl, h3.2⟩, Owns.satL h4⟩
  | .tr t :: ars, vs, as, ⟨v, r, a1, a2, h1, h2, h3, h4⟩ => by
    subst h1
    exact ⟨v, _, a1, rfl, h3, Owns.satL h4⟩
section
variable {P : Program} {w : World} {K : PySem.W.Frag} {mg : Str → Option Value} {base : Heap}
theorem fn_lookK {x qual : Str} {st : Stmt} {f : Addr} {fd : FuncData} {N ps : List Str} {k : Nat} {α ρ : Type} {args : α → List Ar} {er : ρ → T} {g : α → R ρ} (κ : ρ → Kd) (F : Fun K x qual st f fd) (Sc : FnScope N ps (defScope st))
    (hl : ∀ a, (args a).length = ps.length)
    (hb : ∀ (cdv : Value) (A : Around) (outer : List Env) (s : Shared) (H : Hp) (E : XK), Room k (A.deeper (PyProof.Rows.envOfC qual (defScope st) s.heap.objs.size f cdv)) → ∀ a,
      Bk (cxOf (L2.CX P w) P w K mg base N qual (defScope st) f cdv A outer s H E) (fun cls d _ H => E cls d H) (List.replicate N.length .un) (slotsL (args a) ++ List.replicate (N.length - ps.length) .un) (defBody st) κ (g a))
    (hκ : ∀ r, ((κ r).nx = none ∨ ((κ r).nx = some (List.replicate N.length .un) ∧ er r = .imm .non)) ∧ ((κ r).rt = none ∨ (κ r).rt = some (er r, List.replicate N.length .un)) ∧ (κ r).bk = none ∧ (κ r).ct = none) :
    FnOk P w K mg base (L2.CX P w) (k + 1) f fd ps (SpL ⟨K, mg⟩ args er g) := by
  refine F.okX Sc (fun vs H Q E h => ?_) (fun cdv A outer s H vs Q E hr h => ?_)
  · obtain ⟨a, M, as, _, r, _⟩ := h
    rw [r.len, List.length_map, hl]
  · obtain ⟨a, M, as, mh, r, po⟩ := h
    refine ⟨_, pss_w _ _, hb cdv A outer s H E hr a H M M H _ _ ?_ ?_⟩
    · refine ⟨[], ⟨.refl _, .refl _, mh, fun _ z => .inl z, List.nodup_nil, (fun _ z => nomatch z), fun _ z => nomatch z⟩, ?_⟩
      have e : vs.length = ps.length := by rw [r.len, List.length_map, hl]
      unfold L2.start
      rw [e]
      exact Sat.app (as := []) (bs := []) r.satL (Sat.uns _)
    · refine po.imp (fun x _ q => ⟨fun Γ e M' H' σ st => ?_, fun t Γ e M' H' σ v st => ?_, fun Γ e => ?_, fun Γ e => ?_⟩) fun c z M' H' σ' st C hC => z M' H' ⟨st.fh, st.rel.1, st.mh, st.rel.2⟩ C hC
      · rcases (hκ x).1 with y | ⟨y, y2⟩
        · rw [y] at e; cases e
        · rw [y2] at q
          exact q .non M' H' [] ⟨st.fh, st.rel.1, st.mh, st.rel.2⟩ ⟨rfl, rfl⟩ List.nodup_nil fun _ z => nomatch z
      · rcases (hκ x).2.1 with y | y
        · rw [y] at e; cases e
        · rw [y] at e
          obtain ⟨e1, e2⟩ := Prod.mk.inj (Option.some.inj e)
          subst e1; subst e2
          obtain ⟨as, f, ⟨v', r', a1, a2, z1, z2, z3, z4⟩⟩ := st
          obtain ⟨z5, z6⟩ := List.cons.inj z1
          cases z5
          subst z2
          have nd := f.nd
          rw [List.nodup_append] at nd
          exact q v M' H' a1 ⟨f.fh, f.mm, f.mh, f.nw⟩ z3 nd.1 fun b hb => ⟨f.fa b (List.mem_append_left _ hb), f.ma b (List.mem_append_left _ hb)⟩
      · rw [(hκ x).2.2.1] at e; cases e
      · rw [(hκ x).2.2.2] at e; cases e
theorem fn_look {x qual : Str} {st : Stmt} {f : Addr} {fd : FuncData} {N ps : List Str} {k : Nat} {α ρ : Type} {args : α → List Ar} {er : ρ → T} {g : α → R ρ} (F : Fun K x qual st f fd) (Sc : FnScope N ps (defScope st))
    (hl : ∀ a, (args a).length = ps.length)
    (hb : ∀ (cdv : Value) (A : Around) (outer : List Env) (s : Shared) (H : Hp) (E : XK), Room k (A.deeper (PyProof.Rows.envOfC qual (defScope st) s.heap.objs.size f cdv)) → ∀ a,
      Bk (cxOf (L2.CX P w) P w K mg base N qual (defScope st) f cdv A outer s H E) (fun cls d _ H => E cls d H) (List.replicate N.length .un) (slotsL (args a) ++ List.replicate (N.length - ps.length) .un) (defBody st) (kRet er N.length) (g a)) :
    FnOk P w K mg base (L2.CX P w) (k + 1) f fd ps (SpL ⟨K, mg⟩ args er g) :=
  fn_lookK (kRet er N.length) F Sc hl hb fun _ => ⟨.inl rfl, .inr rfl, rfl, rfl⟩
theorem fn_lookN {x qual : Str} {st : Stmt} {f : Addr} {fd : FuncData} {N ps : List Str} {k : Nat} {α : Type} {args : α → List Ar} {g : α → R Unit} (F : Fun K x qual st f fd) (Sc : FnScope N ps (defScope st))
    (hl : ∀ a, (args a).length = ps.length)
    (hb : ∀ (cdv : Value) (A : Around) (outer : List Env) (s : Shared) (H : Hp) (E : XK), Room k (A.deeper (PyProof.Rows.envOfC qual (defScope st) s.heap.objs.size f cdv)) → ∀ a,
      Bk (cxOf (L2.CX P w) P w K mg base N qual (defScope st) f cdv A outer s H E) (fun cls d _ H => E cls d H) (List.replicate N.length .un) (slotsL (args a) ++ List.replicate (N.length - ps.length) .un) (defBody st) (kRetN (fun _ => .imm .non) N.length) (g a)) :
    FnOk P w K mg base (L2.CX P w) (k + 1) f fd ps (SpL ⟨K, mg⟩ args (fun _ => .imm .non) g) :=
  fn_lookK (kRetN (fun _ => .imm .non) N.length) F Sc hl hb fun _ => ⟨.inr ⟨rfl, rfl⟩, .inr rfl, rfl, rfl⟩
end
end Cn
/-! CnF: defs that change what they are handed -/
namespace Cn
open PySem PySem.Spec L2
theorem T.get_set {u y : T} : ∀ {p : List Nat} {t : T}, T.get p t = some u → T.get p (T.set p t y) = some y
  | [], t, h => rfl
  | i :: p, t, h => by
    have h : (match t.kids[i]? with | some k => T.get p k | none => none) = some u := h
    show T.get (i :: p) (match t.kids[i]? with | some k => t.wk (t.kids.set i (T.set p k y)) | none => t) = _
    cases e : t.kids[i]? with
    | none => rw [e] at h; cases h
    | some k =>
      rw [e] at h
      have h : T.get p k = some u := h
      have hi : i < t.kids.length := (List.getElem?_eq_some_iff.mp e).1
      have kw : ∀ ts : List T, t.kids.length = ts.length → (t.wk ts).kids = ts := fun ts hl => by
        cases t with
        | imm d => exact absurd hi (Nat.not_lt_zero _)
        | lst _ => rfl
        | dic _ _ => rfl
        | dit _ _ => rfl
        | obj _ _ _ => rfl
      show (match (t.wk (t.kids.set i (T.set p k y))).kids[i]? with | some k => T.get p k | none => none) = _
      rw [kw _ (by rw [List.length_set]), List.getElem?_set_self hi]
      exact T.get_set h
theorem T.set_set {u y z : T} : ∀ {p : List Nat} {t : T}, T.get p t = some u → T.set p (T.set p t y) z = T.set p t z
  | [], t, h => rfl
  | i :: p, t, h => by
    have h : (match t.kids[i]? with | some k => T.get p k | none => none) = some u := h
    have e1 : ∀ (s x : T), T.set (i :: p) s x = (match s.kids[i]? with | some k => s.wk (s.kids.set i (T.set p k x)) | none => s) := fun _ _ => rfl
    cases e : t.kids[i]? with
    | none => rw [e] at h; cases h
    | some k =>
      rw [e] at h
      have h : T.get p k = some u := h
      have hi : i < t.kids.length := (List.getElem?_eq_some_iff.mp e).1
      have kw : ∀ ts : List T, (t.wk ts).kids = ts ∧ ∀ us, (t.wk ts).wk us = t.wk us := fun ts => by
        cases t with
        | imm d => exact absurd hi (Nat.not_lt_zero _)
        | lst _ => exact ⟨rfl, fun _ => rfl⟩
        | dic _ _ => exact ⟨rfl, fun _ => rfl⟩
        | dit _ _ => exact ⟨rfl, fun _ => rfl⟩
        | obj _ _ _ => exact ⟨rfl, fun _ => rfl⟩
      rw [e1 t y, e]
      show T.set (i :: p) (t.wk (t.kids.set i (T.set p k y))) z = _
      rw [e1, (kw _).1, List.getElem?_set_self hi]
      show (t.wk _).wk ((t.kids.set i (T.set p k y)).set i (T.set p (T.set p k y) z)) = _
      rw [(kw _).2, List.set_set, T.set_set h, e1, e]
theorem T.set_get {u : T} : ∀ {p : List Nat} {t : T}, T.get p t = some u → T.set p t u = t
  | [], t, h => by cases h; rfl
  | i :: p, t, h => by
    have h : (match t.kids[i]? with | some k => T.get p k | none => none) = some u := h
    show (match t.kids[i]? with | some k => t.wk (t.kids.set i (T.set p k u)) | none => t) = t
    cases e : t.kids[i]? with
    | none => rfl
    | some k =>
      rw [e] at h
      show t.wk (t.kids.set i (T.set p k u)) = t
      rw [T.set_get (p := p) h, set_same e]
      cases t <;> rfl
theorem Sl.tree_put {x : Sl} {t y : T} (h : x.tree = some t) : (x.put y).tree = some y := by
  cases x with
  | un => cases h
  | ow _ => rfl
  | pn _ _ => rfl
  | lk _ => cases h
theorem Sl.put_put {x : Sl} {y z : T} : (x.put y).put z = x.put z := by cases x <;> rfl
theorem Sl.put_tree {x : Sl} {t : T} (h : x.tree = some t) : x.put t = x := by
  cases x with
  | un => cases h
  | ow _ => cases h; rfl
  | pn _ _ => cases h; rfl
  | lk _ => cases h
section
variable {G : Ctx} {F M0 M M' H H' : Hp} {σ : St} {Γ : List Sl}
/-- what stands at a path is lent: it stands ahead of the slots, in its place a mark -/
theorem S.lend {i : Nat} {x : Sl} {t u : T} {p : List Nat} {v w : V} (s : S G F M0 M H σ Γ) (h : Γ[i]? = some x) (ht : x.tree = some t) (hp : T.get p t = some u) (hv : σ[i]? = some (some v)) (hw : At H p v w) :
    S G F M0 M H (some w :: σ) (.ow u :: Γ.set i (x.put (T.set p t (.imm (.val w))))) := by
  obtain ⟨as, f, sa⟩ := s
  obtain ⟨v', l, a1, r, q1, q2, q3, q5, q4⟩ := Sat.focusS sa h ht
  rw [hv] at q1
  cases q1
  obtain ⟨w', l', a, r', z1, z2, z3, z4⟩ := Own.focus q3 hp
  cases At.det hw z1
  subst z2
  have o2 := z4 M H (.imm (.val w)) [] (.refl _) (fun _ _ _ q => q) ⟨rfl, rfl⟩
  have s2 := q4 M H _ _ (.refl _) (fun _ _ _ q => q) o2
  refine ⟨a ++ (l ++ (l' ++ [] ++ r') ++ r), f.perm ?_, ⟨w, σ, a, _, rfl, rfl, z3, s2⟩⟩
  rw [q2, List.append_nil]
  have e1 : l ++ (l' ++ a ++ r') ++ r = (l ++ l') ++ (a ++ (r' ++ r)) := by simp
  have e2 : l ++ (l' ++ r') ++ r = (l ++ l') ++ (r' ++ r) := by simp
  rw [e1, e2, ← List.append_assoc]
  refine (List.perm_append_comm.append_right (r' ++ r)).trans ?_
  rw [List.append_assoc]
/-- .. and given back, from behind a value -/
theorem S.giveBack {i : Nat} {y : Sl} {x0 : Sl} {t u tr u' : T} {p : List Nat} {v w : V} (s : S G F M0 M H (some v :: some w :: σ) (.ow tr :: .ow u' :: Γ)) (h : Γ[i]? = some y) (ht : y.tree = some t) (hp : T.get p t = some (.imm (.val w))) :
    S G F M0 M H (some v :: σ) (.ow tr :: Γ.set i (y.put (T.set p t u'))) := by
  obtain ⟨as, f, ⟨v1, r1, a1, a2, e1, e2, h3, ⟨v2, r2, b1, b2, g1, g2, g3, g4⟩⟩⟩ := s
  cases e1
  cases g1
  obtain ⟨v', l, c1, r, q1, q2, q3, q5, q4⟩ := Sat.focusS g4 h ht
  obtain ⟨w', l', a, r', z1, z2, z3, z4⟩ := Own.focus q3 hp
  obtain ⟨y1, y2⟩ := z3
  subst y1
  have y2 : w' = w := y2
  subst y2
  have o2 := z4 M H u' b1 (.refl _) (fun _ _ _ q => q) g3
  have s2 := q4 M H _ _ (.refl _) (fun _ _ _ q => q) o2
  refine ⟨a1 ++ (l ++ (l' ++ b1 ++ r') ++ r), f.perm ?_, ⟨v, σ, a1, _, rfl, rfl, h3, s2⟩⟩
  rw [e2, g2, q2, z2]
  refine List.Perm.append_left a1 ?_
  have e1 : l ++ (l' ++ b1 ++ r') ++ r = (l ++ l') ++ (b1 ++ (r' ++ r)) := by simp
  have e2 : l ++ (l' ++ [] ++ r') ++ r = (l ++ l') ++ (r' ++ r) := by simp
  rw [e1, e2, ← List.append_assoc (l ++ l') b1, ← List.append_assoc b1 (l ++ l')]
  exact List.perm_append_comm.append_right (r' ++ r)
theorem S.second {v w : V} {tr u : T} (s : S G F M0 M H (some v :: some w :: σ) (.ow tr :: .ow u :: Γ)) : S G F M0 M H (some v :: σ) (.ow tr :: Γ) := by
  obtain ⟨as, f, ⟨v1, r1, a1, a2, e1, e2, h3, ⟨v2, r2, b1, b2, g1, g2, g3, g4⟩⟩⟩ := s
  cases e1
  cases g1
  refine ⟨a1 ++ b2, f.sub ?_, ⟨v, σ, a1, b2, rfl, rfl, h3, g4⟩⟩
  rw [e2, g2]
  exact List.Sublist.append_left (List.sublist_append_right _ _) _
end
/-! ### arguments: data, or what stands at a path of a slot -/
inductive Ag where
  | dt (d : D)
  | pt (i : Nat) (p : List Nat) (x : Sl) (t u : T)
def Ag.ar : Ag → Ar
  | .dt d => .dt d
  | .pt _ _ _ _ u => .tr u
/-- the arguments' slots are as they say -/
def AgOk (Γ : List Sl) : List Ag → Prop
  | [] => True
  | .dt _ :: as => AgOk Γ as
  | .pt i p x t u :: as => Γ[i]? = some x ∧ x.tree = some t ∧ T.get p t = some u ∧ AgOk Γ as
def agSlots : List Ag → List Nat
  | [] => []
  | .dt _ :: as => agSlots as
  | .pt i _ _ _ _ :: as => i :: agSlots as
def AgVs (G : Ctx) (M H : Hp) (σ : St) : List Ag → List V → Prop
  | [], vs => vs = []
  | .dt d :: as, vs => ∃ v r, vs = v :: r ∧ Rep G M d v ∧ AgVs G M H σ as r
  | .pt i p _ _ _ :: as, vs => ∃ v r v0, vs = v :: r ∧ σ[i]? = some (some v0) ∧ At H p v0 v ∧ AgVs G M H σ as r
theorem AgVs.grow {G : Ctx} {M H M' H' : Hp} {σ : St} (g : Gr M H M' H') : ∀ {as : List Ag} {vs : List V}, AgVs G M H σ as vs → AgVs G M' H' σ as vs
  | [], vs, h => h
  | .dt d :: as, vs, ⟨v, r, h1, h2, h3⟩ => ⟨v, r, h1, Rep.mono g.mm _ _ h2, AgVs.grow g h3⟩
  | .pt i p _ _ _ :: as, vs, ⟨v, r, v0, h1, h2, h3, h4⟩ => ⟨v, r, v0, h1, h2, At.same g.hh h3, AgVs.grow g h4⟩
theorem AgVs.len {G : Ctx} {M H : Hp} {σ : St} : ∀ {as : List Ag} {vs : List V}, AgVs G M H σ as vs → vs.length = as.length
  | [], vs, h => by rw [show vs = [] from h]; rfl
  | .dt d :: as, vs, ⟨v, r, h1, h2, h3⟩ => by rw [h1, List.length_cons, List.length_cons, AgVs.len h3]
  | .pt i p _ _ _ :: as, vs, ⟨v, r, v0, h1, h2, h3, h4⟩ => by rw [h1, List.length_cons, List.length_cons, AgVs.len h4]
/-- the slots with marks in place of what is lent -/
def holes (Γ : List Sl) : List Ag → List V → List Sl
  | .dt _ :: as, _ :: vs => holes Γ as vs
  | .pt i p x t _ :: as, v :: vs => (holes Γ as vs).set i (x.put (T.set p t (.imm (.val v))))
  | _, _ => Γ
theorem holes_get {Γ : List Sl} {i : Nat} : ∀ {as : List Ag} {vs : List V}, i ∉ agSlots as → (holes Γ as vs)[i]? = Γ[i]?
  | [], vs, h => rfl
  | .dt _ :: as, [], h => rfl
  | .pt _ _ _ _ _ :: as, [], h => rfl
  | .dt _ :: as, v :: vs, h => holes_get (as := as) (vs := vs) h
  | .pt j p x t u :: as, v :: vs, h => by
    show ((holes Γ as vs).set j _)[i]? = _
    rw [List.getElem?_set_ne (fun z => h (by rw [z]; exact List.mem_cons_self))]
    exact holes_get (as := as) (vs := vs) fun z => h (List.mem_cons_of_mem _ z)
theorem holes_set {Γ : List Sl} {i : Nat} {y : Sl} : ∀ {as : List Ag} {vs : List V}, i ∉ agSlots as → holes (Γ.set i y) as vs = (holes Γ as vs).set i y
  | [], vs, h => rfl
  | .dt _ :: as, [], h => rfl
  | .pt _ _ _ _ _ :: as, [], h => rfl
  | .dt _ :: as, v :: vs, h => holes_set (as := as) (vs := vs) h
  | .pt j p x t u :: as, v :: vs, h => by
    show (holes (Γ.set i y) as vs).set j _ = ((holes Γ as vs).set j _).set i y
    rw [holes_set (as := as) (vs := vs) fun z => h (List.mem_cons_of_mem _ z), List.set_comm _ _ (fun z => h (by rw [z]; exact List.mem_cons_self))]
/-- what is given back -/
def fill : List Ar → List T → List T
  | [], _ => []
  | .dt d :: as, us => .imm d :: fill as us
  | .tr _ :: as, u :: us => u :: fill as us
  | .tr _ :: as, [] => .imm .any :: fill as []
def putBack (Γ : List Sl) : List Ag → List T → List Sl
  | [], _ => Γ
  | .dt _ :: as, us => putBack Γ as us
  | .pt i p x t _ :: as, u :: us => putBack (Γ.set i (x.put (T.set p t u))) as us
  | .pt i p x t _ :: as, [] => putBack (Γ.set i (x.put (T.set p t (.imm .any)))) as []
section
variable {G : Ctx} {F M0 M M' H H' : Hp}
theorem S.consD {σ : St} {Γ : List Sl} {d : D} {v : V} (s : S G F M0 M H σ Γ) (r : Rep G M d v) : S G F M0 M H (some v :: σ) (.ow (.imm d) :: Γ) :=
  s.cons (.refl s.mh) ⟨rfl, r⟩ List.nodup_nil fun _ z => nomatch z
theorem S.lends {σ : St} {Γ : List Sl} (s : S G F M0 M H σ Γ) : ∀ {as : List Ag} {vs : List V}, AgOk Γ as → (agSlots as).Nodup → AgVs G M H σ as vs → S G F M0 M H (vs.map some ++ σ) (as.map (fun a => .ow a.ar.to) ++ holes Γ as vs)
  | [], vs, _, _, h => by rw [show vs = [] from h]; exact s
  | .dt d :: as, vs, ok, nd, ⟨v, r, h1, h2, h3⟩ => by
    subst h1
    exact (S.lends s (as := as) ok nd h3).consD h2
  | .pt i p x t u :: as, vs, ok, nd, ⟨v, r, v0, h1, h2, h3, h4⟩ => by
    subst h1
    obtain ⟨o1, o2, o3, o4⟩ := ok
    have nd : (i :: agSlots as).Nodup := nd
    rw [List.nodup_cons] at nd
    have s2 := S.lends s o4 nd.2 h4
    have hl : (r.map (some : V → Option V)).length = as.length := by rw [List.length_map, h4.len]
    have e1 : (as.map (fun a => Sl.ow a.ar.to) ++ holes Γ as r)[as.length + i]? = some x := by
      rw [List.getElem?_append_right (by rw [List.length_map]; omega), List.length_map, Nat.add_sub_cancel_left, holes_get nd.1, o1]
    have e2 : (r.map some ++ σ)[as.length + i]? = some (some v0) := by
      rw [List.getElem?_append_right (by omega), hl, Nat.add_sub_cancel_left, h2]
    have s3 := s2.lend e1 o2 o3 e2 h3
    have e3 : (as.map (fun a => Sl.ow a.ar.to) ++ holes Γ as r).set (as.length + i) (x.put (T.set p t (.imm (.val v)))) = as.map (fun a => Sl.ow a.ar.to) ++ holes Γ (.pt i p x t u :: as) (v :: r) := by
      rw [List.set_append_right _ _ (by rw [List.length_map]; omega), List.length_map, Nat.add_sub_cancel_left]
      rfl
    rw [e3] at s3
    exact s3
theorem S.backs {σ : St} {v : V} {tr : T} : ∀ {as : List Ag} {Γ : List Sl} {vs : List V} {us : List T}, AgOk Γ as → (agSlots as).Nodup → vs.length = as.length → S G F M0 M H (some v :: (vs.map some ++ σ)) (.ow tr :: ((fill (as.map Ag.ar) us).map .ow ++ holes Γ as vs)) → S G F M0 M H (some v :: σ) (.ow tr :: putBack Γ as us)
  | [], Γ, vs, us, _, _, hl, s => by
    have e : vs = [] := List.length_eq_zero_iff.mp hl
    subst e
    exact s
  | .dt d :: as, Γ, [], us, ok, nd, hl, s => by cases hl
  | .pt _ _ _ _ _ :: as, Γ, [], us, ok, nd, hl, s => by cases hl
  | .dt d :: as, Γ, w :: vs, us, ok, nd, hl, s => S.backs (as := as) (Γ := Γ) (vs := vs) (us := us) ok nd (Nat.succ.inj hl) (S.second s)
  | .pt i p x t u :: as, Γ, w :: vs, us, ok, nd, hl, s => by
    obtain ⟨o1, o2, o3, o4⟩ := ok
    have nd : (i :: agSlots as).Nodup := nd
    rw [List.nodup_cons] at nd
    have hl := Nat.succ.inj hl
    have key : ∀ (u' : T) (us' : List T), S G F M0 M H (some v :: some w :: (vs.map some ++ σ)) (.ow tr :: .ow u' :: ((fill (as.map Ag.ar) us').map .ow ++ (holes Γ as vs).set i (x.put (T.set p t (.imm (.val w)))))) → S G F M0 M H (some v :: σ) (.ow tr :: putBack (Γ.set i (x.put (T.set p t u'))) as us') := fun u' us' s => by
      have hlen : ((fill (as.map Ag.ar) us').map Sl.ow).length = as.length := by
        rw [List.length_map]
        have : ∀ (ars : List Ar) (us : List T), (fill ars us).length = ars.length := by
          intro ars
          induction ars with
          | nil => intro us; rfl
          | cons a ars ih =>
            intro us
            cases a with
            | dt d => show (fill ars us).length + 1 = _; rw [ih]; rfl
            | tr t =>
              cases us with
              | nil => show (fill ars []).length + 1 = _; rw [ih]; rfl
              | cons u us => show (fill ars us).length + 1 = _; rw [ih]; rfl
        rw [this, List.length_map]
      have hh : i < (holes Γ as vs).length := by
        have := holes_get (Γ := Γ) (i := i) (as := as) (vs := vs) nd.1
        rw [o1] at this
        exact (List.getElem?_eq_some_iff.mp this).1
      have e1 : ((fill (as.map Ag.ar) us').map Sl.ow ++ (holes Γ as vs).set i (x.put (T.set p t (.imm (.val w)))))[as.length + i]? = some (x.put (T.set p t (.imm (.val w)))) := by
        rw [List.getElem?_append_right (by omega), hlen, Nat.add_sub_cancel_left, List.getElem?_set_self hh]
      have s2 := s.giveBack (x0 := x) (u := u) e1 (Sl.tree_put o2) (T.get_set o3)
      rw [Sl.put_put, T.set_set o3, List.set_append_right _ _ (by omega), hlen, Nat.add_sub_cancel_left, List.set_set, ← holes_set nd.1] at s2
      refine S.backs (as := as) (Γ := Γ.set i (x.put (T.set p t u'))) (vs := vs) (us := us') ?_ nd.2 hl s2
      have agok : ∀ (as : List Ag), i ∉ agSlots as → AgOk Γ as → AgOk (Γ.set i (x.put (T.set p t u'))) as := by
        intro as
        induction as with
        | nil => intro _ _; trivial
        | cons a as ih =>
          intro hn ok
          cases a with
          | dt d => exact ih hn ok
          | pt j p' x' t' u2 =>
            obtain ⟨k1, k2, k3, k4⟩ := ok
            exact ⟨by rw [List.getElem?_set_ne (fun z => hn (by rw [z]; exact List.mem_cons_self))]; exact k1, k2, k3, ih (fun z => hn (List.mem_cons_of_mem _ z)) k4⟩
      exact agok as nd.1 o4
    cases us with
    | nil => exact key (.imm .any) [] s
    | cons u' us => exact key u' us s
/-- the front of the slots alone -/
theorem Sat.split : ∀ {ts : List T} {Γ : List Sl} {vs : List V} {σ : St} {as : List Addr}, vs.length = ts.length → Sat G F M H (ts.map .ow ++ Γ) (vs.map some ++ σ) as → ∃ a1 a2, as = a1 ++ a2 ∧ Owns G M H ts vs a1 ∧ Sat G F M H Γ σ a2
  | [], Γ, vs, σ, as, hl, s => by
    have e : vs = [] := List.length_eq_zero_iff.mp hl
    subst e
    exact ⟨[], as, rfl, ⟨rfl, rfl⟩, s⟩
  | t :: ts, Γ, [], σ, as, hl, s => by cases hl
  | t :: ts, Γ, v :: vs, σ, as, hl, ⟨v', r, a1, a2, h1, h2, h3, h4⟩ => by
    obtain ⟨e1, e2⟩ := List.cons.inj h1
    cases e1
    subst e2
    obtain ⟨b1, b2, q1, q2, q3⟩ := Sat.split (Nat.succ.inj hl) h4
    exact ⟨a1 ++ b1, b2, by rw [h2, q1, List.append_assoc], ⟨v, vs, a1, b1, rfl, rfl, h3, q2⟩, q3⟩
theorem Sat.join : ∀ {ts : List T} {Γ : List Sl} {vs : List V} {σ : St} {a1 a2 : List Addr}, Owns G M H ts vs a1 → Sat G F M H Γ σ a2 → Sat G F M H (ts.map .ow ++ Γ) (vs.map some ++ σ) (a1 ++ a2)
  | [], Γ, vs, σ, a1, a2, h, s => by rw [h.1, h.2]; exact s
  | t :: ts, Γ, vs, σ, as, a2, ⟨v, r, b1, b2, h1, h2, h3, h4⟩, s => by
    subst h1; subst h2
    exact ⟨v, _, b1, b2 ++ a2, rfl, by rw [List.append_assoc], h3, Sat.join h4 s⟩
theorem fill_len : ∀ (ars : List Ar) (us : List T), (fill ars us).length = ars.length
  | [], us => rfl
  | .dt d :: ars, us => by show (fill ars us).length + 1 = _; rw [fill_len]; rfl
  | .tr _ :: ars, u :: us => by show (fill ars us).length + 1 = _; rw [fill_len]; rfl
  | .tr _ :: ars, [] => by show (fill ars []).length + 1 = _; rw [fill_len]; rfl
/-- THE CALL: arguments are lent, changed, given back -/
theorem S.called {σ : St} {Γ : List Sl} {ags : List Ag} {vs : List V} (s : S G F M0 M H σ Γ) (ok : AgOk Γ ags) (nd : (agSlots ags).Nodup) (av : AgVs G M H σ ags vs) :
    ∃ as, Owns G M H ((ags.map Ag.ar).map Ar.to) vs as ∧ as.Nodup ∧ (∀ b ∈ as, M b = none) ∧
      (∀ M' H' us bs cs v tr, Chg M H M' H' as → Own G M' H' tr v bs → Owns G M' H' (fill (ags.map Ag.ar) us) vs cs → Nw M' H as (bs ++ cs) → S G F M0 M' H' (some v :: σ) (.ow tr :: putBack Γ ags us)) := by
  have s2 := s.lends ok nd av
  obtain ⟨as, f, sa⟩ := s2
  have e0 : ags.map (fun a => Sl.ow a.ar.to) = ((ags.map Ag.ar).map Ar.to).map .ow := by rw [List.map_map, List.map_map]; rfl
  rw [e0] at sa
  obtain ⟨a1, a2, q1, q2, q3⟩ := Sat.split (by rw [av.len, List.length_map, List.length_map]) sa
  subst q1
  have nd0 := f.nd
  rw [List.nodup_append] at nd0
  have th := Sat.there _ _ _ q3
  refine ⟨a1, q2, nd0.1, fun b hb => f.ma b (List.mem_append_left _ hb), fun M' H' us bs cs v tr c o os nw => ?_⟩
  refine S.backs (as := ags) (Γ := Γ) (vs := vs) (us := us) ok nd av.len ?_
  have keep2 : ∀ b ∈ a2, ∀ o, H b = some o → H' b = some o := fun b hb o e => c.kp b o (fun z => nd0.2.2 b z b hb rfl) e
  refine ⟨bs ++ (cs ++ a2), ⟨fun b o e => ?_, f.mm.trans c.mm, c.mh, fun b z => ?_, ?_, fun b hb => ?_, fun b hb => ?_⟩, ⟨v, _, bs, cs ++ a2, rfl, rfl, o, Sat.join os (Sat.keep c.mm _ _ _ keep2 q3)⟩⟩
  · exact c.kp b o (fun hb => by have := f.fa b (List.mem_append_left _ hb); rw [e] at this; cases this) (f.fh b o e)
  · rcases c.nw b z with q | q | q
    · exact f.nw b q
    · exact .inr (f.fh.free q)
    · exact .inr (f.fa b (List.mem_append_left _ q))
  · rw [← List.append_assoc, List.nodup_append]
    refine ⟨nw.nd, nd0.2.1, fun y hy y' hy' e => ?_⟩
    subst e
    rcases nw.fr y hy with q | q
    · exact nd0.2.2 y q y hy' rfl
    · exact th y hy' q
  · rw [← List.append_assoc] at hb
    rcases List.mem_append.mp hb with q | q
    · rcases nw.fr b q with z | z
      · exact f.fa b (List.mem_append_left _ z)
      · exact f.fh.free z
    · exact f.fa b (List.mem_append_right _ q)
  · rw [← List.append_assoc] at hb
    rcases List.mem_append.mp hb with q | q
    · exact nw.ma b q
    · cases eb : M' b with
      | none => rfl
      | some o =>
        rcases c.nw b (by rw [eb]; exact fun q => nomatch q) with z | z | z
        · exact absurd (f.ma b (List.mem_append_right _ q)) z
        · exact absurd z (th b q)
        · exact absurd rfl (nd0.2.2 b z b q)
end
def trs : List Ar → List T
  | [] => []
  | .dt _ :: as => trs as
  | .tr t :: as => t :: trs as
theorem fill_self : ∀ (ars : List Ar), fill ars (trs ars) = ars.map Ar.to
  | [] => rfl
  | .dt d :: as => congrArg (Cn.T.imm d :: ·) (fill_self as)
  | .tr t :: as => congrArg (t :: ·) (fill_self as)
theorem putBack_self : ∀ {ags : List Ag} {Γ : List Sl}, AgOk Γ ags → (agSlots ags).Nodup → putBack Γ ags (trs (ags.map Ag.ar)) = Γ
  | [], Γ, _, _ => rfl
  | .dt d :: as, Γ, ok, nd => putBack_self (ags := as) ok nd
  | .pt i p x t u :: as, Γ, ⟨o1, o2, o3, o4⟩, nd => by
    have nd : (i :: agSlots as).Nodup := nd
    rw [List.nodup_cons] at nd
    show putBack (Γ.set i (x.put (T.set p t u))) as _ = Γ
    rw [T.set_get o3, Sl.put_tree o2, set_same o1]
    exact putBack_self o4 nd.2
/-- a def that changes what it is handed: er r is handed back, post r are the trees behind it; where it raises, they are as they were -/
def SpG (G : Ctx) {α ρ : Type} (args : α → List Ar) (er : ρ → T) (post : ρ → List T) (f : α → R ρ) : Sp := fun vs H Q E => ∃ (a : α) (M : Hp) (as : List Addr), Same M H ∧ Owns G M H ((args a).map Ar.to) vs as ∧ as.Nodup ∧ (∀ b ∈ as, M b = none) ∧
  Po (f a) (fun r => ∀ v M' H' bs cs, Chg M H M' H' as → Own G M' H' (er r) v bs → Owns G M' H' (fill (args a) (post r)) vs cs → Nw M' H as (bs ++ cs) → Q v H')
    (fun c => ∀ M' H' cs, Chg M H M' H' as → Owns G M' H' ((args a).map Ar.to) vs cs → Nw M' H as cs → ∀ C, G.mg c = some (.ref C) → E (.ref C) none H')
section
variable {X : Cx} {W : WX} {Γe Γ : List Sl} {a b e c tg : Expr} {es : List Expr} {α β γ κ ω ω1 ρ ξ : Type} {pos : Pos} {s : Stmt} {rest ss A B : List Stmt}
abbrev DAM (X : Cx) (W : WX) (Γ : List Sl) (es : List Expr) {ξ : Type} (ags : ξ → List Ag) (m : R ξ) : Prop :=
  JQ X Γ (wA X es) fun F M0 M H σ Q => Po m (fun y => ∀ vs M' H', Gr M H M' H' → AgVs X.G M' H' σ (ags y) vs → Q vs H') (fun c => ∀ M' H', Gr M H M' H' → Er X.G W c σ H')
theorem dam_nil : DAM X W Γ [] (fun _ : Unit => []) (.ok ()) := amk ⟨_, pa_nil, fun F M0 M H σ Q s po => po [] M H (.refl s.mh) rfl⟩
theorem dam_dd {ec : α → D} {es' : β → List Ag} {m : R α} {n : R β} (h : DD X W Γ e ec m) (k : DAM X W Γ es es' n) (hs : starEach (e :: es) X.env = (false, eval e X.env) :: starEach es X.env := by exact star_cons rfl) :
    DAM X W Γ (e :: es) (fun p : α × β => .dt (ec p.1) :: es' p.2) (m >>= fun x => n >>= fun y => .ok (x, y)) :=
  amk ⟨_, pa_cons (pe_w X e) (pa_w X es) hs, fun F M0 M H σ Q s po => h F M0 M H σ _ s (po.bind.imp (fun x _ q v M1 H1 g o => k F M0 M1 H1 σ _ (s.grow g) (q.bind.imp (fun y _ z vs M2 H2 g2 r2 => z _ M2 H2 (g.trans g2) ⟨v, vs, rfl, Rep.mono g2.mm _ _ o, r2⟩) fun c z M2 H2 g2 => z M2 H2 (g.trans g2))) fun _ z => z)⟩
theorem dam_pt {i : Nat} {ea : α → T} {x0 : α} {path : κ → List Nat} {eb : β → T} {val : κ → β} {put : κ → β → α} {m : R κ} {x : Sl} {es' : ξ → List Ag} {n : R ξ} (h : DP X W Γ e i ea x0 path eb val put m) (hx : Γ[i]? = some x) (ht : x.tree = some (ea x0)) (k : DAM X W Γ es es' n) (hs : starEach (e :: es) X.env = (false, eval e X.env) :: starEach es X.env := by exact star_cons rfl) :
    DAM X W Γ (e :: es) (fun p : κ × ξ => .pt i (path p.1) x (ea x0) (eb (val p.1)) :: es' p.2) (m >>= fun x => n >>= fun y => .ok (x, y)) :=
  amk ⟨_, pa_cons (pe_w X e) (pa_w X es) hs, fun F M0 M H σ Q s po => h.run F M0 M H σ _ s (po.bind.imp (fun k0 _ q v w M1 H1 g hv hw => k F M0 M1 H1 σ _ (s.grow g) (q.bind.imp (fun y _ z vs M2 H2 g2 r2 => z _ M2 H2 (g.trans g2) ⟨w, vs, v, rfl, hv, At.same g2.hh hw, r2⟩) fun c z M2 H2 g2 => z M2 H2 (g.trans g2))) fun _ z => by
    exact z)⟩
/-- f(a, ..), which may change what it is handed -/
theorem dx_callG {k : Nat} {f : Addr} {fd : FuncData} {ps : List Str} {n : Str} {p : Pos} {args : α → List Ar} {er : ρ → T} {post : ρ → List T} {g : α → R ρ} {ags : ξ → List Ag} {m : R ξ} (cv : ξ → α) (Γ' : ξ × ρ → List Sl) (Fk : FnOk X.prog X.w X.K X.mg X.base (L2.CX X.prog X.w) k f fd ps (SpG X.G args er post g)) (hr : Room k X.A) (hm : X.mg n = some (.ref f)) (hk : PySem.W.keepIn X.K (.ref f) = true) (hb : Binds X.K fd ps [])
    (tk : Takes X W) (ha : DAM X W Γ (e :: es) ags m) (hok : ∀ y, m = .ok y → AgOk Γ (ags y)) (hnd : ∀ y, (agSlots (ags y)).Nodup := by intro _; decide) (hcv : ∀ y, args (cv y) = (ags y).map Ag.ar := by intro _; rfl) (hΓ : ∀ y r, m = .ok y → putBack Γ (ags y) (post r) = Γ' (y, r))
    (hg : Gl X n := by rfl) (hdb : (n == ("__debug__" : Str)) = false := by decide) (he : starEach (e :: es) X.env = (false, eval e X.env) :: starEach es X.env := by exact star_cons rfl) (hpl : (backTo pos (starEach es X.env)).any (·.1) = false := by exact star_none rfl) :
    DX X W Γ (.Call (.Name n p) (e :: es) [] pos) Γ' (fun r => er r.2) (m >>= fun y => g (cv y) >>= fun r => .ok (y, r)) :=
  dmk ⟨_, pe_callS Fk hr hg hm hk hb (fun σ => passAt tk σ) (pa_w X (e :: es)) hdb he hpl, fun F M0 M H σ Q s po => ha F M0 M H σ _ s (po.bind.and.imp (fun y _ ⟨em, q⟩ vs M1 H1 g1 av => by
    have s1 := s.grow g1
    obtain ⟨as, o, nd, ma, kk⟩ := s1.called (hok y em) (hnd y) av
    refine ⟨cv y, M1, as, g1.mh, by rw [hcv]; exact o, nd, ma, q.bind.imp (fun r _ q v M' H' bs cs c ow os nw => ?_) fun c z M' H' cs ch os nw C hC => ?_⟩
    · have s2 := kk M' H' (post r) bs cs v (er r) c ow (by rw [← hcv]; exact os) nw
      rw [hΓ y r em] at s2
      exact q v M' H' s2
    · have s2 := kk M' H' (trs ((ags y).map Ag.ar)) [] cs .non (.imm .non) ch ⟨rfl, rfl⟩ (by rw [fill_self, ← hcv]; exact os) nw
      rw [putBack_self (hok y em) (hnd y)] at s2
      exact z M' H' s2.front C hC) fun c z M' H' g => z M' H' (s.grow g))⟩
/-- o.m(a, ..), which may change o -/
theorem dx_methG {k : Nat} {f C : Addr} {fd : FuncData} {ps : List Str} {n mt : Str} {apos : Pos} {o : Expr} {fs : List Str} {ts : β → List T} {i : Nat} {ea : γ → T} {x0 : γ} {path : κ → List Nat} {eb : β → T} {val : κ → β} {put : κ → β → γ} {mo : R κ} {x : Sl} {args : α → List Ar} {er : ρ → T} {post : ρ → List T} {g : α → R ρ} {ags : ξ → List Ag} {m : R ξ}
    (cv : κ → ξ → α) (Γ' : (κ × ξ) × ρ → List Sl) (Fk : FnOk X.prog X.w X.K X.mg X.base (L2.CX X.prog X.w) k f fd ps (SpG X.G args er post g)) (hr : Room k X.A) (cf : ClF X n C) (hm : Meth X.K C mt f) (hb : Binds X.K fd ps [])
    (tk : Takes X W) (ho : DP X W Γ o i ea x0 path eb val put mo) (hx : Γ[i]? = some x) (ht : x.tree = some (ea x0)) (ha : DAM X W Γ (e :: es) ags m) (hok : ∀ y, m = .ok y → AgOk Γ (ags y)) (hnd : ∀ y, (i :: agSlots (ags y)).Nodup := by intro _; decide) (hcv : ∀ k y, args (cv k y) = .tr (eb (val k)) :: (ags y).map Ag.ar := by intro _ _; rfl)
    (hΓ : ∀ k y r, mo = .ok k → m = .ok y → putBack Γ (.pt i (path k) x (ea x0) (eb (val k)) :: ags y) (post r) = Γ' ((k, y), r)) (hob : ∀ y, eb y = .obj n fs (ts y) := by intro _; rfl) (hf : fs.contains mt = false := by decide)
    (he : starEach (e :: es) X.env = (false, eval e X.env) :: starEach es X.env := by exact star_cons rfl) (hpl : (backTo pos (starEach es X.env)).any (·.1) = false := by exact star_none rfl)
    (pl : Sem Bool) (hev : eval (.Call (.Attribute o mt apos) (e :: es) [] pos) X.env = (do
      let ov ← eval o X.env
      standAt apos.atName
      let (f, first) ← holding [ov] (getMethod ov mt pl)
      callWith pos f first (backTo pos (starEach (e :: es) X.env)) (backToKw pos (keywordEach [] X.env))) := by rfl) :
    DX X W Γ (.Call (.Attribute o mt apos) (e :: es) [] pos) Γ' (fun r => er r.2) (mo >>= fun k => m >>= fun y => g (cv k y) >>= fun r => .ok ((k, y), r)) :=
  dmk ⟨_, pe_methP (pl := pl) (pe_w X o) cf.c hm Fk hr hb (fun σ => passAt tk σ) (pa_w X (e :: es)) he hpl hev, fun F M0 M H σ Q s po => ho.run F M0 M H σ _ s (po.bind.and.imp (fun k0 _ ⟨ek, q⟩ v w M1 H1 g1 hv hw => by
    have s1 := s.grow g1
    obtain ⟨v', w', a', h1, h2, h3⟩ := s1.at hx ht (ho.get k0 ek)
    rw [hv] at h1
    cases h1
    cases At.det hw h2
    rw [hob] at h3
    obtain ⟨ad, c0, dx, kvs, r, rfl, q2, q3, q4, q5, q6⟩ := h3
    have z3 : X.mg n = some (.ref c0) := q3
    rw [cf.g] at z3
    cases z3
    refine ⟨ad, dx, kvs, rfl, q4, lookup_no (by rw [q5]; exact hf), ha F M0 M1 H1 σ _ s1 (q.bind.and.imp (fun y _ ⟨em, q⟩ vs M2 H2 g2 av => ?_) fun c z M' H' g => z M' H' (s1.grow g))⟩
    have s2 := s1.grow g2
    obtain ⟨as, o, nd, ma, kk⟩ := s2.called (ags := .pt i (path k0) x (ea x0) (eb (val k0)) :: ags y) (vs := .ref ad :: vs) ⟨hx, ht, ho.get k0 ek, hok y em⟩ (hnd y) ⟨.ref ad, vs, v, rfl, hv, At.same g2.hh hw, av⟩
    refine ⟨cv k0 y, M2, as, g2.mh, by rw [hcv]; exact o, nd, ma, q.bind.imp (fun r _ q v M' H' bs cs c ow os nw => ?_) fun c z M' H' cs ch os nw C hC => ?_⟩
    · have s3 := kk M' H' (post r) bs cs v (er r) c ow (by rw [hcv] at os; exact os) nw
      rw [hΓ k0 y r ek em] at s3
      exact q v M' H' s3
    · have s3 := kk M' H' (trs ((Ag.pt i (path k0) x (ea x0) (eb (val k0)) :: ags y).map Ag.ar)) [] cs .non (.imm .non) ch ⟨rfl, rfl⟩ (by rw [fill_self]; rw [hcv] at os; exact os) nw
      rw [putBack_self (ags := .pt i (path k0) x (ea x0) (eb (val k0)) :: ags y) ⟨hx, ht, ho.get k0 ek, hok y em⟩ (hnd y)] at s3
      exact z M' H' s3.front C hC) fun c z M' H' g => z M' H' (s.grow g))⟩
theorem dx_methG0 {k : Nat} {f C : Addr} {fd : FuncData} {ps : List Str} {n mt : Str} {apos : Pos} {o : Expr} {fs : List Str} {ts : β → List T} {i : Nat} {ea : γ → T} {x0 : γ} {path : κ → List Nat} {eb : β → T} {val : κ → β} {put : κ → β → γ} {mo : R κ} {x : Sl} {args : α → List Ar} {er : ρ → T} {post : ρ → List T} {g : α → R ρ}
    (cv : κ → α) (Γ' : κ × ρ → List Sl) (Fk : FnOk X.prog X.w X.K X.mg X.base (L2.CX X.prog X.w) k f fd ps (SpG X.G args er post g)) (hr : Room k X.A) (cf : ClF X n C) (hm : Meth X.K C mt f) (hb : Binds X.K fd ps [])
    (tk : Takes X W) (ho : DP X W Γ o i ea x0 path eb val put mo) (hx : Γ[i]? = some x) (ht : x.tree = some (ea x0)) (hcv : ∀ k, args (cv k) = [.tr (eb (val k))] := by intro _; rfl)
    (hΓ : ∀ k r, mo = .ok k → putBack Γ [.pt i (path k) x (ea x0) (eb (val k))] (post r) = Γ' (k, r)) (hob : ∀ y, eb y = .obj n fs (ts y) := by intro _; rfl) (hf : fs.contains mt = false := by decide)
    (pl : Sem Bool) (hev : eval (.Call (.Attribute o mt apos) [] [] pos) X.env = (do
      let ov ← eval o X.env
      standAt apos.atName
      let (f, first) ← holding [ov] (getMethod ov mt pl)
      callWith pos f first (backTo pos (starEach [] X.env)) (backToKw pos (keywordEach [] X.env))) := by rfl) :
    DX X W Γ (.Call (.Attribute o mt apos) [] [] pos) Γ' (fun r => er r.2) (mo >>= fun k => g (cv k) >>= fun r => .ok (k, r)) :=
  dmk ⟨_, pe_methP0 (pl := pl) (pe_w X o) cf.c hm Fk hr hb (fun σ => passAt tk σ) hev, fun F M0 M H σ Q s po => ho.run F M0 M H σ _ s (po.bind.and.imp (fun k0 _ ⟨ek, q⟩ v w M1 H1 g1 hv hw => by
    have s1 := s.grow g1
    obtain ⟨v', w', a', h1, h2, h3⟩ := s1.at hx ht (ho.get k0 ek)
    rw [hv] at h1
    cases h1
    cases At.det hw h2
    rw [hob] at h3
    obtain ⟨ad, c0, dx, kvs, r, rfl, q2, q3, q4, q5, q6⟩ := h3
    have z3 : X.mg n = some (.ref c0) := q3
    rw [cf.g] at z3
    cases z3
    have nd1 : (agSlots [Ag.pt i (path k0) x (ea x0) (eb (val k0))]).Nodup := by show ([i] : List Nat).Nodup; simp
    obtain ⟨as, o, nd, ma, kk⟩ := s1.called (ags := [.pt i (path k0) x (ea x0) (eb (val k0))]) (vs := [.ref ad]) ⟨hx, ht, ho.get k0 ek, trivial⟩ nd1 ⟨.ref ad, [], v, rfl, hv, hw, rfl⟩
    refine ⟨ad, dx, kvs, rfl, q4, lookup_no (by rw [q5]; exact hf), cv k0, M1, as, g1.mh, by rw [hcv]; exact o, nd, ma, q.bind.imp (fun r _ q v M' H' bs cs c ow os nw => ?_) fun c z M' H' cs ch os nw C hC => ?_⟩
    · have s3 := kk M' H' (post r) bs cs v (er r) c ow (by rw [hcv] at os; exact os) nw
      rw [hΓ k0 r ek] at s3
      exact q v M' H' s3
    · have s3 := kk M' H' (trs ([Ag.pt i (path k0) x (ea x0) (eb (val k0))].map Ag.ar)) [] cs .non (.imm .non) ch ⟨rfl, rfl⟩ (by rw [fill_self]; rw [hcv] at os; exact os) nw
      rw [putBack_self (ags := [.pt i (path k0) x (ea x0) (eb (val k0))]) ⟨hx, ht, ho.get k0 ek, trivial⟩ nd1] at s3
      exact z M' H' s3.front C hC) fun c z M' H' g => z M' H' (s.grow g))⟩
end
/-! ### a def that changes -/
/-- at its beginning -/
def slotsG : List Ar → List V → List Sl
  | .dt d :: as, _ :: vs => .ow (.imm d) :: slotsG as vs
  | .tr t :: as, v :: vs => .pn v t :: slotsG as vs
  | _, _ => []
/-- at its end: the trees us stand where they stood -/
def slotsR : List Ar → List V → List T → List Sl
  | .dt _ :: as, _ :: vs, us => .un :: slotsR as vs us
  | .tr _ :: as, v :: vs, u :: us => .pn v u :: slotsR as vs us
  | .tr _ :: as, _ :: vs, [] => .un :: slotsR as vs []
  | _, _, _ => []
section
variable {G : Ctx} {F M0 M M' H H' : Hp}
theorem Owns.satG : ∀ {ars : List Ar} {vs : List V} {as : List Addr}, Owns G M H (ars.map Ar.to) vs as → Sat G F M H (slotsG ars vs) (vs.map some) as
  | [], vs, as, h => by rw [h.1, h.2]; exact ⟨rfl, rfl⟩
  | .dt d :: ars, vs, as, ⟨v, r, a1, a2, h1, h2, h3, h4⟩ => by
    subst h1; subst h2
    exact ⟨v, _, a1, a2, rfl, rfl, h3, Owns.satG h4⟩
  | .tr t :: ars, vs, as, ⟨v, r, a1, a2, h1, h2, h3, h4⟩ => by
    subst h1; subst h2
    exact ⟨_, a1, a2, rfl, rfl, h3, Owns.satG h4⟩
theorem Sat.fillG {Γu : List Sl} (mm : Same M M') : ∀ {ars : List Ar} {vs : List V} {us : List T} {as cs : List Addr} {σ : St}, Owns G M H (ars.map Ar.to) vs as → Sat G F M' H' (slotsR ars vs us ++ Γu) σ cs → ∃ ds, ds.Sublist cs ∧ Owns G M' H' (fill ars us) vs ds
  | [], vs, us, as, cs, σ, o, s => ⟨[], List.nil_sublist _, by rw [o.1]; exact ⟨rfl, rfl⟩⟩
  | .dt d :: ars, vs, us, as, cs, σ, ⟨v, r, a1, a2, h1, h2, h3, h4⟩, s => by
    subst h1
    obtain ⟨x, r', e1, s2⟩ := s
    obtain ⟨ds, sub, ow⟩ := Sat.fillG mm h4 s2
    exact ⟨ds, sub, ⟨v, r, [], ds, rfl, rfl, ⟨rfl, Rep.mono mm _ _ h3.2⟩, ow⟩⟩
  | .tr t :: ars, vs, u :: us, as, cs, σ, ⟨v, r, a1, a2, h1, h2, h3, h4⟩, s => by
    subst h1
    obtain ⟨r', b1, b2, e1, e2, h5, s2⟩ := s
    obtain ⟨ds, sub, ow⟩ := Sat.fillG mm h4 s2
    exact ⟨b1 ++ ds, by rw [e2]; exact List.Sublist.append_left sub b1, ⟨v, r, b1, ds, rfl, rfl, h5, ow⟩⟩
  | .tr t :: ars, vs, [], as, cs, σ, ⟨v, r, a1, a2, h1, h2, h3, h4⟩, s => by
    subst h1
    obtain ⟨x, r', e1, s2⟩ := s
    obtain ⟨ds, sub, ow⟩ := Sat.fillG mm h4 s2
    exact ⟨ds, sub, ⟨v, r, [], ds, rfl, rfl, ⟨rfl, trivial⟩, ow⟩⟩
end
section
variable {P : Program} {w : World} {K : PySem.W.Frag} {mg : Str → Option Value} {base : Heap}
theorem fn_gen {x qual : Str} {st : Stmt} {f : Addr} {fd : FuncData} {N ps : List Str} {k : Nat} {α ρ : Type} {args : α → List Ar} {er : ρ → T} {post : ρ → List T} {g : α → R ρ} (κ : α → List V → ρ → Kd) (F : Fun K x qual st f fd) (Sc : FnScope N ps (defScope st))
    (hl : ∀ a, (args a).length = ps.length)
    (hb : ∀ (cdv : Value) (A : Around) (outer : List Env) (s : Shared) (H : Hp) (E : XK), Room k (A.deeper (PyProof.Rows.envOfC qual (defScope st) s.heap.objs.size f cdv)) → ∀ a (vs : List V), vs.length = ps.length →
      Bk (cxOf (L2.CX P w) P w K mg base N qual (defScope st) f cdv A outer s H E) (fun cls d _ H => E cls d H) (slotsR (args a) vs (trs (args a)) ++ List.replicate (N.length - ps.length) .un) (slotsG (args a) vs ++ List.replicate (N.length - ps.length) .un) (defBody st) (κ a vs) (g a))
    (hκ : ∀ a vs r, ((κ a vs r).nx = none ∨ ((κ a vs r).nx = some (slotsR (args a) vs (post r) ++ List.replicate (N.length - ps.length) .un) ∧ er r = .imm .non)) ∧ ((κ a vs r).rt = none ∨ (κ a vs r).rt = some (er r, slotsR (args a) vs (post r) ++ List.replicate (N.length - ps.length) .un)) ∧ (κ a vs r).bk = none ∧ (κ a vs r).ct = none) :
    FnOk P w K mg base (L2.CX P w) (k + 1) f fd ps (SpG ⟨K, mg⟩ args er post g) := by
  refine F.okX Sc (fun vs H Q E h => ?_) (fun cdv A outer s H vs Q E hr h => ?_)
  · obtain ⟨a, M, as, _, r, _⟩ := h
    rw [r.len, List.length_map, hl]
  · obtain ⟨a, M, as, mh, r, nd, ma, po⟩ := h
    have e : vs.length = ps.length := by rw [r.len, List.length_map, hl]
    obtain ⟨F0, hF⟩ : ∃ F0 : Hp, F0 = fun b => if b ∈ as then none else H b := ⟨_, rfl⟩
    have f1 : ∀ b ∈ as, F0 b = none := fun b hb => by rw [hF]; show (if b ∈ as then none else H b) = none; rw [if_pos hb]
    have f2 : ∀ b, b ∉ as → F0 b = H b := fun b hb => by rw [hF]; show (if b ∈ as then none else H b) = H b; rw [if_neg hb]
    have chg : ∀ {M' H' as'}, Fr0 F0 M M' H' as' → Chg M H M' H' as := fun {M' H' as'} f => ⟨fun b o hb eo => f.fh b o (by rw [f2 b hb]; exact eo), f.mm, f.mh, fun b z => by
      rcases f.nw b z with q | q
      · exact .inl q
      · by_cases hb : b ∈ as
        · exact .inr (.inr hb)
        · rw [f2 b hb] at q; exact .inr (.inl q)⟩
    have nwf : ∀ {M' H' as'}, Fr0 F0 M M' H' as' → Nw M' H as as' := fun {M' H' as'} f => ⟨f.nd, fun b hb => by
      by_cases hb' : b ∈ as
      · exact .inl hb'
      · have := f.fa b hb
        rw [f2 b hb'] at this; exact .inr this, f.ma⟩
    refine ⟨_, pss_w _ _, hb cdv A outer s H E hr a vs e F0 M M H _ _ ?_ ?_⟩
    · refine ⟨as, ⟨fun b o eo => ?_, .refl _, mh, fun _ z => .inl z, nd, f1, ma⟩, ?_⟩
      · by_cases hb : b ∈ as
        · rw [f1 b hb] at eo; cases eo
        · rw [f2 b hb] at eo; exact eo
      · unfold L2.start
        rw [e, ← List.append_nil as]
        exact Sat.app (bs := []) r.satG (Sat.uns _)
    · refine po.imp (fun x _ q => ⟨fun Γ e M' H' σ st => ?_, fun t Γ e M' H' σ v st => ?_, fun Γ e => ?_, fun Γ e => ?_⟩) fun c z M' H' σ' st C hC => ?_
      · rcases (hκ a vs x).1 with y | ⟨y, y2⟩
        · rw [y] at e; cases e
        · rw [y] at e
          cases e
          obtain ⟨cs, f, sa⟩ := st
          obtain ⟨ds, sub, ow⟩ := Sat.fillG f.mm r sa
          rw [y2] at q
          exact q .non M' H' [] ds (chg f) ⟨rfl, rfl⟩ ow (nwf (f.sub sub))
      · rcases (hκ a vs x).2.1 with y | y
        · rw [y] at e; cases e
        · rw [y] at e
          obtain ⟨e1, e2⟩ := Prod.mk.inj (Option.some.inj e)
          subst e1; subst e2
          obtain ⟨cs, f, ⟨v', r', a1, a2, z1, z2, z3, z4⟩⟩ := st
          obtain ⟨z5, z6⟩ := List.cons.inj z1
          cases z5
          subst z2
          obtain ⟨ds, sub, ow⟩ := Sat.fillG f.mm r z4
          exact q v M' H' a1 ds (chg f) z3 ow (nwf (f.sub (List.Sublist.append_left sub a1)))
      · rw [(hκ a vs x).2.2.1] at e; cases e
      · rw [(hκ a vs x).2.2.2] at e; cases e
      · obtain ⟨cs, f, sa⟩ := st
        obtain ⟨ds, sub, ow⟩ := Sat.fillG f.mm r sa
        rw [fill_self] at ow
        exact z M' H' ds (chg f) ow (nwf (f.sub sub)) C hC
end
end Cn
/-! CnG: fields that are stored, objects that are made, pop -/
namespace Cn
open PySem PySem.Spec L2
theorem putF_at {f : Str} {v : V} : ∀ {kvs : List (Str × V)} {j : Nat}, (kvs.map (·.1)).findIdx? (f == ·) = some j → (putF f v kvs).map (·.1) = kvs.map (·.1) ∧ (putF f v kvs).map (·.2) = (kvs.map (·.2)).set j v
  | [], j, h => by cases h
  | (k, x) :: kvs, j, h => by
    rw [List.map_cons, List.findIdx?_cons] at h
    by_cases c : (f == k) = true
    · rw [if_pos c] at h
      cases h
      have e : k = f := (eq_of_beq c).symm
      rw [show putF f v ((k, x) :: kvs) = (if k = f then (k, v) :: kvs else (k, x) :: putF f v kvs) from rfl, if_pos e]
      exact ⟨rfl, rfl⟩
    · rw [if_neg c] at h
      cases q : (kvs.map (·.1)).findIdx? (f == ·) with
      | none => rw [q] at h; cases h
      | some j' =>
        rw [q] at h
        cases h
        obtain ⟨h1, h2⟩ := putF_at (v := v) q
        have e : ¬ k = f := fun z => c (by rw [z]; exact beq_self_eq_true f)
        rw [show putF f v ((k, x) :: kvs) = (if k = f then (k, v) :: kvs else (k, x) :: putF f v kvs) from rfl, if_neg e]
        exact ⟨by rw [List.map_cons, List.map_cons, h1], by rw [List.map_cons, List.map_cons, h2]; rfl⟩
theorem putF_new {f : Str} {v : V} : ∀ {kvs : List (Str × V)}, (kvs.map (·.1)).contains f = false → putF f v kvs = kvs ++ [(f, v)]
  | [], h => rfl
  | (k, x) :: kvs, h => by
    rw [List.map_cons, List.contains_cons, Bool.or_eq_false_iff] at h
    have e : ¬ k = f := fun z => by rw [z] at h; simp at h
    rw [show putF f v ((k, x) :: kvs) = (if k = f then (k, v) :: kvs else (k, x) :: putF f v kvs) from rfl, if_neg e, putF_new h.2]
    rfl
/-- a child's tree gives place to a new one -/
theorem Owns.repl {G : Ctx} {M Hm H2 : Hp} {ts : List T} {vs : List V} {r n : List Addr} {j : Nat} {t0 t : T} {v : V} {ad : Addr} {o : HO} (h : Owns G M Hm ts vs r) (hj : ts[j]? = some t0) (nd : r.Nodup) (na : ad ∉ r) (g : Same Hm H2) (ma : ∀ b ∈ r, M b = none) (om : Own G M H2 t v n) (nn : n.Nodup) (fr : ∀ b ∈ n, Hm b = none ∧ M b = none) (ha : Hm ad ≠ none) :
    ∃ r', Owns G M (upd H2 ad o) (ts.set j t) (vs.set j v) r' ∧ r'.Nodup ∧ ∀ b ∈ r', (b ∈ r ∨ Hm b = none) ∧ M b = none := by
  obtain ⟨w0, lf, af, rf, q1, q2, q3, q4⟩ := Owns.focus h hj
  have hsub : ∀ b ∈ lf ++ rf, b ∈ r := fun b hb => by
    rw [q2]
    rcases List.mem_append.mp hb with y | y <;> simp [y]
  have hna : ∀ b ∈ n, b ≠ ad := fun b hb z => by subst z; exact ha (fr b hb).1
  have thr : ∀ b ∈ r, Hm b ≠ none := Owns.there _ _ _ h
  refine ⟨lf ++ n ++ rf, q4 M _ _ _ _ (.refl _) (fun b hb o e => by rw [upd_ne (fun z => na (by rw [← z]; exact hsub b hb))]; exact g b o e) (Own.keep (.refl _) _ _ _ (fun b hb o e => by rw [upd_ne (hna b hb)]; exact e) om), ?_, fun b hb => ?_⟩
  · have sub : (lf ++ rf).Sublist r := by
      rw [q2, List.append_assoc]
      exact List.Sublist.append_left (List.sublist_append_right _ _) _
    have nlr := nd.sublist sub
    rw [List.nodup_append] at nlr
    rw [List.append_assoc, List.nodup_append]
    refine ⟨nlr.1, by rw [List.nodup_append]; exact ⟨nn, nlr.2.1, fun y hy y' hy' e => by subst e; exact thr y (hsub y (List.mem_append_right _ hy')) (fr y hy).1⟩, fun y hy y' hy' e => ?_⟩
    subst e
    rcases List.mem_append.mp hy' with z | z
    · exact thr y (hsub y (List.mem_append_left _ hy)) (fr y z).1
    · exact nlr.2.2 y hy y z rfl
  · rcases List.mem_append.mp hb with y | y
    · rcases List.mem_append.mp y with y | y
      · exact ⟨.inl (hsub b (List.mem_append_left _ y)), ma b (hsub b (List.mem_append_left _ y))⟩
      · exact ⟨.inr (fr b y).1, (fr b y).2⟩
    · exact ⟨.inl (hsub b (List.mem_append_right _ y)), ma b (hsub b (List.mem_append_right _ y))⟩
section
variable {X : Cx} {W : WX} {Γe Γ : List Sl} {a b e c tg : Expr} {es : List Expr} {α β γ κ ω ω1 ρ ξ ζ : Type} {pos : Pos} {s : Stmt} {rest ss A B : List Stmt}
section
variable {i : Nat} {ea : α → T} {path : ζ → κ → List Nat} {eb : β → T} {x0 : ζ → α} {val : ζ → κ → β} {put : ζ → κ → β → α} {m : ζ → R κ} {x : ζ → Sl} {Γ1 : ζ → List Sl}
/-- tgt.f = e, a field that is there -/
theorem st_fldX {n f : Str} {C : Addr} {fs : List Str} {em : ζ → T} {me : R ζ} {ts : β → List T} {pos' : Pos} (j : Nat) (st : ζ → β → β) (he : DX X W Γ e Γ1 em me) (hp : ∀ z, DP X W (Γ1 z) tg i ea (x0 z) (path z) eb (val z) (put z) (m z)) (hx : ∀ z, (Γ1 z)[i]? = some (x z)) (ht : ∀ z, (x z).tree = some (ea (x0 z))) (cf : ClF X n C) (na : NoAttr X.K C f) (hw : Wk Γe Γ) (hw1 : ∀ z, Wk Γe (Γ1 z))
    (hb : ∀ y, eb y = .obj n fs (ts y) := by intro _; rfl) (hj : fs.findIdx? (f == ·) = some j := by decide) (hg : ∀ y, Nat.blt j (ts y).length = true := by intro _; rfl) (hst : ∀ z y, T.obj n fs ((ts y).set j (em z)) = eb (st z y) := by intro _ _; rfl) (hn : Nat.blt fs.length 1000 = true := by rfl)
    (hs : swapsWith e (some (.Attribute tg f pos')) pos.line X.env = pure false := by rfl) :
    St1 X W Γe Γ (.Assign [.Attribute tg f pos'] e pos) (fun r : ζ × α => .n ((Γ1 r.1).set i ((x r.1).put (ea r.2)))) (me >>= fun z => m z >>= fun k => .ok (z, put z k (st z (val z k)))) :=
  smk ⟨_, ps_fld (pe_w X tg) (pe_w X e) hs, fun F M0 M H σ D s po => by
    refine he F M0 M H σ _ s (po.bind.imp (fun z _ q v M1 H1 sF => ?_) fun c z => er_wkS hw z)
    have s1 := sF.front
    refine (hp z).run F M0 M1 H1 σ _ s1 (q.bind.and.imp (fun k _ ⟨ek, q⟩ v0 w M2 H2 g2 hv hw2 => ?_) fun c q => er_wk s1 (hw1 z) q)
    obtain ⟨Hm, n', sm, gm, om, ndm, frm⟩ := (sF.grow g2).back
    obtain ⟨v', w', aa, y1, y2, y3⟩ := sm.at (hx z) (ht z) ((hp z).get k ek)
    rw [hv] at y1
    cases y1
    cases At.det hw2 (At.same gm.hh y2)
    obtain ⟨a, o1, nd, ma, kk⟩ := sm.root (hx z) (ht z) ((hp z).get k ek) hv y2
    rw [hb] at o1
    obtain ⟨ad, c0, dx, kvs, r, rfl, ea', q3, h1, q5, q6⟩ := id o1
    have z3 : X.mg n = some (.ref c0) := q3
    rw [cf.g] at z3
    cases z3
    have hkl : kvs.length = fs.length := by rw [← q5, List.length_map]
    refine ⟨ad, C, dx, kvs, rfl, gm.hh _ _ h1, cf.c, na, by rw [hkl]; exact Nat.le_of_ble_eq_true hn, ?_⟩
    refine Kn.nx q _ rfl M2 _ σ ?_
    rw [← (hp z).set k _ ek]
    have hjk : (kvs.map (·.1)).findIdx? (f == ·) = some j := by rw [q5]; exact hj
    obtain ⟨k1, k2⟩ := putF_at (v := v) hjk
    have nd' := nd
    rw [ea', List.nodup_cons] at nd'
    have hjl : j < (ts (val z k)).length := Nat.le_of_ble_eq_true (hg _)
    obtain ⟨r', o', nr, fr⟩ := Owns.repl (ad := ad) (o := .ins C dx (putF f v kvs)) q6 (List.getElem?_eq_getElem hjl) nd'.2 nd'.1 gm.hh (fun b hb => ma b (by rw [ea']; exact List.mem_cons_of_mem _ hb)) om ndm frm (by rw [h1]; exact fun z => nomatch z)
    rw [← hst]
    exact kk ad r rfl ea' M2 H2 _ _ r' gm ⟨ad, C, dx, putF f v kvs, r', rfl, rfl, q3, upd_same, by rw [k1, q5], by rw [k2]; exact o'⟩ nr fr⟩
end
/-- self.f = e, a field that is new; self in slot i -/
theorem st_fldN {n f : Str} {C : Addr} {fs : List Str} {em : ζ → T} {me : R ζ} {ts : ζ → List T} {pos' pv : Pos} {nm : Str} {x : ζ → Sl} {Γ1 : ζ → List Sl} (i : Nat) (he : DX X W Γ e Γ1 em me) (hx : ∀ z, (Γ1 z)[i]? = some (x z)) (ht : ∀ z, (x z).tree = some (.obj n fs (ts z))) (cf : ClF X n C) (na : NoAttr X.K C f) (hw : Wk Γe Γ)
    (hj : fs.contains f = false := by decide) (hn : Nat.blt fs.length 1000 = true := by rfl) (hN : X.N[i]? = some nm := by rfl) (hv : Vis X.env.scope nm := by first | exact Or.inl rfl | exact Or.inr (Or.inl rfl) | exact Or.inr (Or.inr rfl))
    (hd : (nm == ("__debug__" : Str)) = false := by decide) (hcd : (nm == ("__classdict__" : Str)) = false := by decide)
    (hs : swapsWith e (some (.Attribute (.Name nm pv) f pos')) pos.line X.env = pure false := by rfl) :
    St1 X W Γe Γ (.Assign [.Attribute (.Name nm pv) f pos'] e pos) (fun z => .n ((Γ1 z).set i ((x z).put (.obj n (fs ++ [f]) (ts z ++ [em z]))))) me :=
  smk ⟨_, ps_fld (pe_var hN hv hd hcd) (pe_w X e) hs, fun F M0 M H σ D s po => by
    refine he F M0 M H σ _ s (po.imp (fun z _ q v M1 H1 sF => ?_) fun c z => er_wkS hw z)
    obtain ⟨Hm, n', sm, gm, om, ndm, frm⟩ := sF.back
    obtain ⟨v', w', aa, y1, y2, y3⟩ := sm.at (p := []) (hx z) (ht z) rfl
    obtain ⟨a, o1, nd, ma, kk⟩ := sm.root (p := []) (hx z) (ht z) rfl y1 y2
    obtain ⟨ad, c0, dx, kvs, r, rfl, ea', q3, h1, q5, q6⟩ := id o1
    cases y2
    have z3 : X.mg n = some (.ref c0) := q3
    rw [cf.g] at z3
    cases z3
    have hkl : kvs.length = fs.length := by rw [← q5, List.length_map]
    refine ⟨_, y1, ad, C, dx, kvs, rfl, gm.hh _ _ h1, cf.c, na, by rw [hkl]; exact Nat.le_of_ble_eq_true hn, ?_⟩
    refine Kn.nx q _ rfl M1 _ σ ?_
    have k1 := putF_new (v := v) (kvs := kvs) (f := f) (by rw [q5]; exact hj)
    have nd' := nd
    rw [ea', List.nodup_cons] at nd'
    have thr : ∀ b ∈ r, Hm b ≠ none := Owns.there _ _ _ q6
    have hna : ∀ b ∈ r ++ n', b ≠ ad := fun b hb z => by
      subst z
      rcases List.mem_append.mp hb with y | y
      · exact nd'.1 y
      · have := (frm b y).1
        rw [h1] at this; cases this
    refine kk ad r rfl ea' M1 H1 _ _ (r ++ n') gm ⟨ad, C, dx, putF f v kvs, r ++ n', rfl, rfl, q3, upd_same, by rw [k1, List.map_append, q5]; rfl, ?_⟩ ?_ fun b hb => ?_
    · rw [k1, List.map_append]
      refine Owns.app (Owns.keep gm.mm _ _ _ (fun b hb o e => by rw [upd_ne (hna b (List.mem_append_left _ hb))]; exact gm.hh b o e) q6) ?_
      exact ⟨v, [], n', [], rfl, by simp, Own.keep (.refl _) _ _ _ (fun b hb o e => by rw [upd_ne (hna b (List.mem_append_right _ hb))]; exact e) om, ⟨rfl, rfl⟩⟩
    · rw [List.nodup_append]
      refine ⟨nd'.2, ndm, fun y hy y' hy' e => ?_⟩
      subst e
      exact thr y hy (frm y hy').1
    · rcases List.mem_append.mp hb with y | y
      · exact ⟨.inl y, ma b (by rw [ea']; exact List.mem_cons_of_mem _ y)⟩
      · exact ⟨.inr (frm b y).1, (frm b y).2⟩⟩
/-! ### pop -/
section
variable {i : Nat} {ea : α → T} {x0 : α} {path : κ → List Nat} {m : R κ} {x : Sl} {apos cpos : Pos}
theorem erase_map {α β : Type} (f : α → β) : ∀ (xs : List α) (j : Nat), (xs.map f).eraseIdx j = (xs.eraseIdx j).map f
  | [], _ => rfl
  | _ :: xs, 0 => rfl
  | x :: xs, j + 1 => congrArg (f x :: ·) (erase_map f xs j)
def popO {γ : Type} (xs : List γ) (i : Int) : Option (γ × List γ) := if xs.length ≤ 16777216 then (match ixN xs.length i with
  | some j => xs[j]?.map fun y => (y, xs.eraseIdx j)
  | none => none) else none
theorem Reps.erase {G : Ctx} {M : Hp} : ∀ {ds : List D} {vs : List V} (j : Nat), Reps G M ds vs → Reps G M (ds.eraseIdx j) (vs.eraseIdx j)
  | [], vs, j, h => by rw [show vs = [] from h]; exact rfl
  | d :: ds, vs, 0, ⟨v, r, h1, h2, h3⟩ => by subst h1; exact h3
  | d :: ds, vs, j + 1, ⟨v, r, h1, h2, h3⟩ => by subst h1; exact ⟨v, r.eraseIdx j, rfl, h2, Reps.erase j h3⟩
/-- tgt.pop(b), items that are data -/
theorem dx_popI {ei : γ → D} {val : κ → List γ} {put : κ → List γ → α} {mi : R Int} (hp : DP X W Γ tg i ea x0 path (fun xs => .lst (xs.map fun y => .imm (ei y))) val put m) (hx : Γ[i]? = some x) (ht : x.tree = some (ea x0)) (hi : DD X W Γ b D.int mi)
    (hbase : attributeBase tg "pop" X.env (eval tg X.env) = eval tg X.env := by rfl)
    (hfew : ((backTo cpos (starEach [b] X.env)).all (fun x => !x.1) && (backToKw cpos (keywordEach [] X.env)).all (fun x => x.1.isSome)
      && decide (([b]).length + ([] : List Keyword).length + (if ([] : List Keyword).isEmpty then 0 else 1) < 30)) = true := by rfl)
    (hline : (apos.endLine == cpos.line) = true := by rfl) (hs : starEach [b] X.env = (false, eval b X.env) :: starEach [] X.env := by exact star_cons rfl) (hplain : (backTo cpos (starEach [] X.env)).any (·.1) = false := by rfl) :
    DX X W Γ (.Call (.Attribute tg "pop" apos) [b] [] cpos) (fun r : γ × α => Γ.set i (x.put (ea r.2))) (fun r => .imm (ei r.1)) (m >>= fun k => mi >>= fun j => ofO (popO (val k) j) >>= fun p => .ok (p.1, put k p.2)) :=
  dmk ⟨_, pe_bm PySem.F.plainAttrs_list PySem.F.slot_list_pop PySem.F.type_list_pop mt_popAt (pe_w X tg) (pa_cons (pe_w X b) pa_nil (hs := hs)) hbase hfew hline hs hplain, fun F M0 M H σ Q st po => by
    refine hp.run F M0 M H σ _ st (po.bind.and.imp (fun k _ ⟨em, q⟩ v w M1 H1 g1 hv ha => ?_) fun c z M' H' g => z M' H' (st.grow g))
    have st1 := st.grow g1
    obtain ⟨a, o1, nd, ma, kk⟩ := st1.root hx ht (hp.get k em) hv ha
    obtain ⟨ad, vs, r, rfl, ea', h1, h2⟩ := id o1
    refine ⟨.inl ⟨rfl, vs, .of h1⟩, ?_⟩
    refine hi F M0 M1 H1 σ _ st1 (q.bind.imp (fun j _ q v2 M2 H2 g2 r2 => ?_) fun c z M' H' g => z M' H' (st1.grow g))
    have q := q.bind
    obtain ⟨p, ez, q⟩ := q.ofO
    unfold popO at ez
    by_cases hc : (val k).length ≤ 16777216
    case neg => rw [if_neg hc] at ez; cases ez
    rw [if_pos hc] at ez
    cases hq : ixN (val k).length j with
    | none => rw [hq] at ez; cases ez
    | some l =>
      rw [hq] at ez
      obtain ⟨s1, s2, s3, s4⟩ := ixN_seq hq
      have hlv : (val k)[l]? = some (val k)[l] := List.getElem?_eq_getElem s2
      have ez : ((val k)[l]?.map fun y => (y, (val k).eraseIdx l)) = some p := ez
      rw [hlv] at ez
      cases ez
      rw [map_imm] at h2
      obtain ⟨h3, er⟩ := Owns.of_imm h2
      subst er
      have hlen : vs.length = (val k).length := by rw [h3.len, List.length_map]
      obtain ⟨y, e3, r3⟩ := Reps.get h3 (i := l) (d := ei (val k)[l]) (by rw [List.getElem?_map, hlv]; rfl)
      refine ⟨ad, vs, j, l, y, rfl, by rw [show v2 = .int j from r2], g2.hh _ _ h1, by omega, by omega, by rw [hlen]; exact s1, e3, ?_⟩
      refine q y M2 _ ?_
      show S X.G F M0 M2 _ (some y :: σ) (.ow (.imm (ei (val k)[l])) :: Γ.set i (x.put (ea (put k ((val k).eraseIdx l)))))
      rw [← hp.set k _ em]
      refine S.consD (kk ad [] rfl ea' M2 H2 _ _ [] g2 ⟨ad, vs.eraseIdx l, [], rfl, rfl, upd_same, ?_⟩ List.nodup_nil fun _ z => nomatch z) (Rep.mono g2.mm _ _ r3)
      rw [map_imm]
      have := Reps.erase l (Reps.mono g2.mm _ _ h3)
      rw [erase_map] at this
      exact Owns.imm this⟩
/-- tgt.pop(): the last item -/
def popLO {γ : Type} (xs : List γ) : Option (γ × List γ) := xs[xs.length - 1]?.map fun y => (y, xs.dropLast)
end
/-! ### objects that are made -/
def agSh : Ag → Ag
  | .dt d => .dt d
  | .pt i p x t u => .pt (i + 1) p x t u
theorem agSh_ar : ∀ a : Ag, (agSh a).ar = a.ar
  | .dt _ => rfl
  | .pt _ _ _ _ _ => rfl
theorem agSh_ok {x0 : Sl} : ∀ {ags : List Ag} {Γ : List Sl}, AgOk Γ ags → AgOk (x0 :: Γ) (ags.map agSh)
  | [], _, _ => trivial
  | .dt _ :: as, Γ, h => agSh_ok (ags := as) h
  | .pt i p x t u :: as, Γ, ⟨h1, h2, h3, h4⟩ => ⟨h1, h2, h3, agSh_ok h4⟩
theorem agSh_slots : ∀ {ags : List Ag}, agSlots (ags.map agSh) = (agSlots ags).map (· + 1)
  | [] => rfl
  | .dt _ :: as => agSh_slots (ags := as)
  | .pt i _ _ _ _ :: as => congrArg ((i + 1) :: ·) (agSh_slots (ags := as))
theorem agSh_vs {G : Ctx} {M H : Hp} {σ : St} {y : Option V} : ∀ {ags : List Ag} {vs : List V}, AgVs G M H σ ags vs → AgVs G M H (y :: σ) (ags.map agSh) vs
  | [], vs, h => h
  | .dt d :: as, vs, ⟨v, r, h1, h2, h3⟩ => ⟨v, r, h1, h2, agSh_vs h3⟩
  | .pt i p _ _ _ :: as, vs, ⟨v, r, v0, h1, h2, h3, h4⟩ => ⟨v, r, v0, h1, h2, h3, agSh_vs h4⟩
theorem agSh_back {x0 : Sl} : ∀ {ags : List Ag} {Γ : List Sl} {us : List T}, putBack (x0 :: Γ) (ags.map agSh) us = x0 :: putBack Γ ags us
  | [], _, _ => rfl
  | .dt _ :: as, Γ, us => agSh_back (ags := as)
  | .pt i p x t u :: as, Γ, u' :: us => agSh_back (ags := as) (Γ := Γ.set i (x.put (T.set p t u'))) (us := us)
  | .pt i p x t u :: as, Γ, [] => agSh_back (ags := as) (Γ := Γ.set i (x.put (T.set p t (.imm .any)))) (us := [])
theorem run_makeS {CX : CXT} {k : Nat} {C f : Addr} {fd : FuncData} {ps : List Str} {sp : Sp} {E : St → XK} {pins : List (Addr × Obj)} {σ : St} {H : Hp} {s : Shared} {Q : VK} {us : List Value} {vs : List V} (M : Mk X.K C f) (F : FnOk X.prog X.w X.K X.mg X.base CX k f fd ps sp) (hr : Room (k + 1) X.A) (hb : Binds X.K fd ps [])
    (hx : PassesAt CX X σ (E σ)) (I : Inv X pins σ H s) (r : Vals vs us)
    (h : ∀ x dx, H x = none → H dx = none → dx ≠ x → sp (.ref x :: vs) (upd (upd H dx (.own x)) x (.ins C dx [])) (fun v H2 => v = .non ∧ Q (.ref x) H2) (E σ)) :
    wpAny (model X.prog X.w) X.A (call (.ref C) us) (EP X pins σ Q) X.xe s := by
  have hq := h (s.heap.objs.size + 1) s.heap.objs.size (I.hok.fresh (Nat.le_succ _)) (I.hok.fresh (Nat.le_refl _)) (Nat.ne_of_lt (Nat.lt_succ_self _))
  have I2 := Inv.made (C := C) I
  have r2 : Vals (V.ref (s.heap.objs.size + 1) :: vs) (Value.ref (s.heap.objs.size + 1) :: us) := .cons rfl r
  have hl : (Value.ref (s.heap.objs.size + 1) :: us).length = ps.length := by
    have e := r2.length
    rw [F.len _ _ _ _ hq] at e
    exact e.symm
  have b := hb _ (Value.ref (s.heap.objs.size + 1) :: us) I2.kIn (by rw [List.append_nil]; exact hl)
  rw [List.append_nil] at b
  refine wpAny_call (make_map (f := f) I.kIn M.makes M.init (beq_iff_eq.mp M.fn) (codeAny_mono (F.run _ X.stack _ _ ⟨Value.ref (s.heap.objs.size + 1) :: us, []⟩ (Value.ref (s.heap.objs.size + 1) :: us) _ _ (E σ) (hr.make C us [])
    (I2.env0.make C us []) b r2 hq) fun r s' hq' => ?_))
  cases r with
  | error e => exact hx pins _ _ e s' I2 hq'
  | ok fl =>
    cases fl with
    | ret u =>
      obtain ⟨v, H', I3, rv, ev, q3⟩ := I2.after hq'
      subst ev
      exact ⟨rv, ⟨V.ref (s.heap.objs.size + 1), H', I3, rfl, q3⟩⟩
    | next => exact False.elim hq'
    | brk => exact False.elim hq'
    | cont => exact False.elim hq'
def tMakeS (C : Addr) (sp : Sp) (E : St → XK) (t : TA) : TE := fun σ H Q => t σ H fun vs H1 => ∀ x dx, H1 x = none → H1 dx = none → dx ≠ x → sp (.ref x :: vs) (upd (upd H1 dx (.own x)) x (.ins C dx [])) (fun v H2 => v = .non ∧ Q (.ref x) H2) (E σ)
theorem pe_makeP {CX : CXT} {k : Nat} {C f : Addr} {fd : FuncData} {ps : List Str} {sp : Sp} {E : St → XK} {x : Str} {p : Pos} {t : TA} (M : Mk X.K C f) (F : FnOk X.prog X.w X.K X.mg X.base CX k f fd ps sp) (hr : Room (k + 1) X.A) (hg : Gl X x) (hm : X.mg x = some (.ref C)) (hb : Binds X.K fd ps []) (hx : ∀ σ, PassesAt CX X σ (E σ))
    (ha : PA X (e :: es) t) (hdb : (x == ("__debug__" : Str)) = false := by decide) (he : starEach (e :: es) X.env = (false, eval e X.env) :: starEach es X.env := by rfl) (hpl : (backTo pos (starEach es X.env)).any (·.1) = false := by rfl) :
    PE X (.Call (.Name x p) (e :: es) [] pos) (tMakeS C sp E t) := by
  refine ⟨fun pins s σ H Q I h => ?_⟩
  refine wpAny_Call_Name_kw (ld_glob I hg hm ?_ hdb)
  refine PySem.W.callWith_K (h₀ := X.base) I.ok.mod.kin M.kp (thn (ha.run pos pins s σ H _ I h) fun us s1 ⟨vs, H1, I1, r, q⟩ => ⟨I1.kIn, ?_⟩) he hpl
  exact run_makeS M F hr hb (hx σ) I1 r q
theorem pe_makeP0 {CX : CXT} {k : Nat} {C f : Addr} {fd : FuncData} {ps : List Str} {sp : Sp} {E : St → XK} {x : Str} {p : Pos} (M : Mk X.K C f) (F : FnOk X.prog X.w X.K X.mg X.base CX k f fd ps sp) (hr : Room (k + 1) X.A) (hg : Gl X x) (hm : X.mg x = some (.ref C)) (hb : Binds X.K fd ps []) (hx : ∀ σ, PassesAt CX X σ (E σ))
    (hdb : (x == ("__debug__" : Str)) = false := by decide) : PE X (.Call (.Name x p) [] [] pos) (tMakeS C sp E tNil) := by
  refine ⟨fun pins s σ H Q I h => ?_⟩
  refine wpAny_Call_Name_kw (ld_glob I hg hm ?_ hdb)
  exact PySem.W.callWith_K0 I.kIn M.kp (run_makeS (us := []) M F hr hb (hx σ) I .nil h)
/-- the new object, filled by __init__ -/
theorem made_ok {n : Str} {C : Addr} {k : Nat} {args : α → List Ar} {post : ρ → List T} {g : α → R ρ} {ags : List Ag} {eb : γ → T} {vr : ρ → γ} {pr : ρ → List T} {y : α} {F M0 M1 H1 : Hp} {σ : St} {Q : VK} {vs : List V} {Γ' : ρ → List Sl} (cf : ClF X n C) (s1 : S X.G F M0 M1 H1 σ Γ) (hok : AgOk Γ ags) (hnd : (agSlots ags).Nodup) (av : AgVs X.G M1 H1 σ ags vs)
    (hcv : args y = .tr (.obj n [] []) :: ags.map Ag.ar) (hpost : ∀ r, post r = eb (vr r) :: pr r) (hΓ : ∀ r, putBack Γ ags (pr r) = Γ' r)
    (q : Po (g y) (fun r => ∀ v M' H', S X.G F M0 M' H' (some v :: σ) (.ow (eb (vr r)) :: Γ' r) → Q v H') (fun c => ∀ M' H', S X.G F M0 M' H' σ Γ → Er X.G W c σ H')) :
    ∀ x dx, H1 x = none → H1 dx = none → dx ≠ x → SpG X.G args (fun _ => .imm .non) post g (.ref x :: vs) (upd (upd H1 dx (.own x)) x (.ins C dx [])) (fun v H2 => v = .non ∧ Q (.ref x) H2) (WE W σ) := by
  intro x dx hx hdx hne
  have m1x : M1 x = none := by
    cases e : M1 x with
    | none => rfl
    | some o => rw [s1.mh x o e] at hx; cases hx
  have m1d : M1 dx = none := by
    cases e : M1 dx with
    | none => rfl
    | some o => rw [s1.mh dx o e] at hdx; cases hdx
  have gr : Gr M1 H1 M1 (upd (upd H1 dx (.own x)) x (.ins C dx [])) := ⟨fun b o e => by rw [upd_ne (ne_of_none e hx), upd_ne (ne_of_none e hdx)]; exact e, .refl _, fun b o e => by rw [upd_ne (ne_of_none e m1x), upd_ne (ne_of_none e m1d)]; exact s1.mh b o e, fun _ z => .inl z⟩
  have s2 := s1.cons (v := .ref x) (t := .obj n [] []) (n := [x]) gr ⟨x, C, dx, [], [], rfl, rfl, cf.g, upd_same, rfl, ⟨rfl, rfl⟩⟩ (by simp) (fun a ha => by rw [List.mem_singleton.mp ha]; exact ⟨hx, m1x⟩)
  obtain ⟨as, o, nd, ma, kk⟩ := s2.called (ags := .pt 0 [] (.ow (.obj n [] [])) (.obj n [] []) (.obj n [] []) :: ags.map agSh) (vs := .ref x :: vs) ⟨rfl, rfl, rfl, agSh_ok hok⟩ (by
    show (0 :: agSlots (ags.map agSh)).Nodup
    rw [agSh_slots, List.nodup_cons]
    refine ⟨fun h => by obtain ⟨z, _, e⟩ := List.mem_map.mp h; omega, ?_⟩
    exact List.Pairwise.map _ (fun a b h => by omega) hnd) ⟨.ref x, vs, .ref x, rfl, rfl, rfl, agSh_vs (av.grow gr)⟩
  have ear : (Ag.pt 0 [] (.ow (.obj n [] [])) (.obj n [] []) (.obj n [] []) :: ags.map agSh).map Ag.ar = args y := by
    rw [hcv, List.map_cons, List.map_map]
    congr 1
    exact List.map_congr_left fun a _ => agSh_ar a
  rw [ear] at o
  refine ⟨y, M1, as, s2.mh, o, nd, ma, q.imp (fun r _ q v M' H' bs cs c ow os nw => ⟨?_, ?_⟩) fun c z M' H' cs ch os nw C' hC => ?_⟩
  · exact ow.2
  · have s3 := kk M' H' (post r) bs cs v (.imm .non) c ow (by rw [ear]; exact os) nw
    rw [hpost] at s3
    have e : putBack (.ow (.obj n [] []) :: Γ) (.pt 0 [] (.ow (.obj n [] [])) (.obj n [] []) (.obj n [] []) :: ags.map agSh) (eb (vr r) :: pr r) = .ow (eb (vr r)) :: Γ' r := by
      show putBack (.ow (eb (vr r)) :: Γ) (ags.map agSh) (pr r) = _
      rw [agSh_back, hΓ]
    rw [e] at s3
    exact q _ M' H' s3.front
  · have s3 := kk M' H' (trs (args y)) [] cs .non (.imm .non) ch ⟨rfl, rfl⟩ (by rw [ear, fill_self]; exact os) nw
    rw [← ear, putBack_self (ags := .pt 0 [] (.ow (.obj n [] [])) (.obj n [] []) (.obj n [] []) :: ags.map agSh) (Γ := .ow (.obj n [] []) :: Γ) ⟨rfl, rfl, rfl, agSh_ok hok⟩ (by
      show (0 :: agSlots (ags.map agSh)).Nodup
      rw [agSh_slots, List.nodup_cons]
      refine ⟨fun h => by obtain ⟨z, _, e⟩ := List.mem_map.mp h; omega, ?_⟩
      exact List.Pairwise.map _ (fun a b h => by omega) hnd)] at s3
    exact z M' H' s3.front.front C' hC
theorem dx_make {k : Nat} {f C : Addr} {fd : FuncData} {ps : List Str} {n : Str} {p : Pos} {args : α → List Ar} {post : ρ → List T} {g : α → R ρ} {ags : ξ → List Ag} {m : R ξ} {eb : γ → T} {pr : ρ → List T} (vr : ρ → γ) (cv : ξ → α) (Γ' : ξ × ρ → List Sl) (Mk : Mk X.K C f) (Fk : FnOk X.prog X.w X.K X.mg X.base (L2.CX X.prog X.w) k f fd ps (SpG X.G args (fun _ => .imm .non) post g)) (hr : Room (k + 1) X.A) (cf : ClF X n C) (hb : Binds X.K fd ps [])
    (tk : Takes X W) (ha : DAM X W Γ (e :: es) ags m) (hok : ∀ y, m = .ok y → AgOk Γ (ags y)) (hnd : ∀ y, (agSlots (ags y)).Nodup := by intro _; decide) (hcv : ∀ y, args (cv y) = .tr (.obj n [] []) :: (ags y).map Ag.ar := by intro _; rfl) (hpost : ∀ r, post r = eb (vr r) :: pr r := by intro _; rfl) (hΓ : ∀ y r, m = .ok y → putBack Γ (ags y) (pr r) = Γ' (y, r))
    (hg : Gl X n := by rfl) (hdb : (n == ("__debug__" : Str)) = false := by decide) (he : starEach (e :: es) X.env = (false, eval e X.env) :: starEach es X.env := by exact star_cons rfl) (hpl : (backTo pos (starEach es X.env)).any (·.1) = false := by exact star_none rfl) :
    DX X W Γ (.Call (.Name n p) (e :: es) [] pos) Γ' (fun r => eb (vr r.2)) (m >>= fun y => g (cv y) >>= fun r => .ok (y, r)) :=
  dmk ⟨_, pe_makeP Mk Fk hr hg cf.g hb (fun σ => passAt tk σ) (pa_w X (e :: es)) (hdb := hdb) (he := he) (hpl := hpl), fun F M0 M H σ Q s po => ha F M0 M H σ _ s (po.bind.and.imp (fun y _ ⟨em, q⟩ vs M1 H1 g1 av =>
    made_ok (k := k) (Γ' := fun r => Γ' (y, r)) (W := W) cf (s.grow g1) (hok y em) (hnd y) av (hcv y) hpost (fun r => hΓ y r em) (q.bind.imp (fun r _ q => q) fun c z M' H' s' => z M' H' s')) fun c z M' H' g => z M' H' (s.grow g))⟩
theorem dx_make0 {k : Nat} {f C : Addr} {fd : FuncData} {ps : List Str} {n : Str} {p : Pos} {args : Unit → List Ar} {post : ρ → List T} {g : Unit → R ρ} {eb : γ → T} {pr : ρ → List T} (vr : ρ → γ) (Mk : Mk X.K C f) (Fk : FnOk X.prog X.w X.K X.mg X.base (L2.CX X.prog X.w) k f fd ps (SpG X.G args (fun _ => .imm .non) post g)) (hr : Room (k + 1) X.A) (cf : ClF X n C) (hb : Binds X.K fd ps [])
    (tk : Takes X W) (hcv : args () = [.tr (.obj n [] [])] := by rfl) (hpost : ∀ r, post r = eb (vr r) :: pr r := by intro _; rfl) (hg : Gl X n := by rfl) (hdb : (n == ("__debug__" : Str)) = false := by decide) :
    DX X W Γ (.Call (.Name n p) [] [] pos) (fun _ => Γ) (fun r => eb (vr r)) (g ()) :=
  dmk ⟨_, pe_makeP0 Mk Fk hr hg cf.g hb (fun σ => passAt tk σ) (hdb := hdb), fun F M0 M H σ Q s po =>
    made_ok (k := k) (ags := []) (Γ' := fun _ => Γ) (W := W) cf s trivial List.nodup_nil rfl hcv hpost (fun r => rfl) po⟩
end
end Cn
/-! CnH: calm blocks, several targets, stores in place, further small ones -/
namespace Cn
open PySem PySem.Spec L2
theorem po_calm {α : Type} {m : R α} {Q : α → Prop} {E E' : Str → Prop} (h : Po (noErr m) Q E) : Po m Q E' := h.noErr.imp (fun _ _ z => z) fun _ z => z.elim
section
variable {X : Cx} {W : WX} {Γe Γe' Γ : List Sl} {a b c2 e c tg : Expr} {es : List Expr} {α β γ κ ω ω1 ρ ξ ζ : Type} {pos : Pos} {s : Stmt} {rest ss A B : List Stmt}
/-- from here on nothing is raised -/
theorem bk_calm {κ : ω → Kd} {m : R ω} (h : Bk X W Γe' Γ ss κ m) : Bk X W Γe Γ ss κ (noErr m) := ⟨fun F M0 M H σ D s po => h F M0 M H σ D s (po_calm po)⟩
/-! ### from one kind to another -/
theorem df_co {emb : α → T} {emb' : β → T} {m : R α} (h : DF X W Γ e emb m) (g : α → β) (he : ∀ x, emb x = emb' (g x) := by intro _; rfl) : DF X W Γ e emb' (m >>= fun x => .ok (g x)) := ⟨fun F M0 M H σ Q s po => h F M0 M H σ Q s (po.bind.imp (fun x _ k v M' H' as g o nd fr => k v M' H' as g (by rw [← he]; exact o) nd fr) fun _ z => z)⟩
theorem dx_co {Γ' : α → List Sl} {Γ2 : β → List Sl} {emb : α → T} {emb' : β → T} {m : R α} (h : DX X W Γ e Γ' emb m) (g : α → β) (he : ∀ x, emb x = emb' (g x) := by intro _; rfl) (hΓ : ∀ x, Γ' x = Γ2 (g x) := by intro _; rfl) : DX X W Γ e Γ2 emb' (m >>= fun x => .ok (g x)) := ⟨fun F M0 M H σ Q s po => h F M0 M H σ Q s (po.bind.imp (fun x _ k v M' H' s' => k v M' H' (by rw [← he, ← hΓ]; exact s')) fun _ z => z)⟩
theorem db_co {emb : α → T} {emb' : β → T} {m : R α} (h : DB X W Γ e emb m) (g : α → β) (he : ∀ x, emb x = emb' (g x) := by intro _; rfl) : DB X W Γ e emb' (m >>= fun x => .ok (g x)) := ⟨fun F M0 M H σ Q s po => h F M0 M H σ Q s (po.bind.imp (fun x _ k v M' H' as g o => k v M' H' as g (by rw [← he]; exact o)) fun _ z => z)⟩
theorem dlt_co {ei : β → D} {ei' : γ → D} {m : R (List β)} (h : DLt X W Γ e (fun xs => xs.map ei) m) (g : β → γ) (he : ∀ x, ei x = ei' (g x) := by intro _; rfl) : DLt X W Γ e (fun xs => xs.map ei') (m >>= fun xs => .ok (xs.map g)) := ⟨fun F M0 M H σ Q s po => h F M0 M H σ Q s (po.bind.imp (fun x _ k a vs M' H' gr hl r => k a vs M' H' gr hl (by
  show Reps X.G M' ((x.map g).map ei') vs
  rw [List.map_map, show ((ei' ∘ g) : β → D) = ei from funext fun z => (he z).symm]; exact r)) fun _ z => z)⟩
/-- a tree that is compared as data -/
theorem de_db {emb : α → T} {emb' : α → D} {m : R α} (h : DB X W Γ e emb m) (he : ∀ x, fz (emb x) = emb' x := by intro _; rfl) : DE X W Γ e emb' m := ⟨fun F M0 M H σ Q s po => h F M0 M H σ Q s (po.imp (fun x _ k v M' H' as g o => k v M' H' g fun H'' s2 c => by
  have r := Own.freeze (M' := H') g.mh _ _ _ (fun a _ o e => e) o
  rw [he] at r
  exact Rep.dp (G := X.G) s2 _ _ c r) fun _ z => z)⟩
/-- one's own, or None -/
def eOptT {α : Type} (e : α → T) : Option α → T
  | none => .imm .non
  | some x => e x
theorem fz_opt {e : α → T} {e' : α → D} (h : ∀ x, fz (e x) = e' x) (x : Option α) : fz (eOptT e x) = eOpt e' x := by
  cases x with
  | none => rfl
  | some x => exact h x
/-! ### trees side by side -/
abbrev DAF (X : Cx) (W : WX) (Γ : List Sl) (es : List Expr) {α : Type} (emb : α → List T) (m : R α) : Prop :=
  JQ X Γ (wA X es) fun F M0 M H σ Q => Po m (fun x => ∀ vs M' H' as, Gr M H M' H' → Owns X.G M' H' (emb x) vs as → as.Nodup → (∀ a ∈ as, H a = none ∧ M' a = none) → Q vs H') (fun c => ∀ M' H', Gr M H M' H' → Er X.G W c σ H')
theorem daf_nil : DAF X W Γ [] (fun _ : Unit => []) (.ok ()) := amk ⟨_, pa_nil, fun F M0 M H σ Q s po => po [] M H [] (.refl s.mh) ⟨rfl, rfl⟩ List.nodup_nil fun _ z => nomatch z⟩
theorem daf_cons {ec : α → T} {es' : β → List T} {m : R α} {n : R β} (h : DF X W Γ e ec m) (k : DAF X W Γ es es' n) (hs : starEach (e :: es) X.env = (false, eval e X.env) :: starEach es X.env := by exact star_cons rfl) :
    DAF X W Γ (e :: es) (fun p : α × β => ec p.1 :: es' p.2) (m >>= fun x => n >>= fun y => .ok (x, y)) :=
  amk ⟨_, pa_cons (pe_w X e) (pa_w X es) hs, fun F M0 M H σ Q s po => h F M0 M H σ _ s (po.bind.imp (fun x _ q v M1 H1 a1 g o nd fr => k F M0 M1 H1 σ _ (s.grow g) (q.bind.imp (fun y _ z vs M2 H2 as g2 r2 nd2 fr2 => by
    have th : ∀ b ∈ a1, H1 b ≠ none := Own.there _ _ _ o
    refine z _ M2 H2 (a1 ++ as) (g.trans g2) ⟨v, vs, a1, as, rfl, rfl, Own.keep g2.mm _ _ _ (fun b _ o e => g2.hh b o e) o, r2⟩ ?_ fun b hb => ?_
    · rw [List.nodup_append]
      refine ⟨nd, nd2, fun y hy y' hy' e => ?_⟩
      subst e
      exact th y hy (fr2 y hy').1
    · rcases List.mem_append.mp hb with q | q
      · exact ⟨(fr b q).1, gr_keepNone g2 (fr b q).2 (th b q)⟩
      · exact ⟨g.hh.free (fr2 b q).1, (fr2 b q).2⟩) fun c z M2 H2 g2 => z M2 H2 (g.trans g2))) fun _ z => z)⟩
theorem S.conss {G : Ctx} {F M0 M H M' H' : Hp} {σ : St} {Γ : List Sl} {ts : List T} {vs : List V} {n : List Addr} (s : S G F M0 M H σ Γ) (g : Gr M H M' H') (o : Owns G M' H' ts vs n) (nd : n.Nodup) (fr : ∀ a ∈ n, H a = none ∧ M' a = none) : S G F M0 M' H' (vs.map some ++ σ) (ts.map .ow ++ Γ) := by
  obtain ⟨as, f, sa⟩ := s
  have th := Sat.there Γ σ as sa
  have sa' := Sat.keep g.mm Γ σ as (fun a _ o e => g.hh a o e) sa
  refine ⟨n ++ as, ?_, Sat.join o sa'⟩
  exact (f.grow th g).add (l := []) (by simp) nd (fun a ha => f.fh.free (fr a ha).1) (fun a ha => (fr a ha).2) fun a ha z => th a z (fr a ha).1
/-- [e, ..] of trees -/
theorem df_dispT {ec : β → T} {args : α → List T} {m : R α} (h : DAF X W Γ es args m) (g : α → List β) (he : ∀ x, args x = (g x).map ec := by intro _; rfl) (hz : ∀ x, Nat.ble (args x).length 100000 = true := by intro _; rfl) : DF X W Γ (.List es pos) (fun xs => .lst (xs.map ec)) (m >>= fun x => .ok (g x)) :=
  dmk ⟨_, pe_lst (pa_w X es), fun F M0 M H σ Q s po => h F M0 M H σ _ s (po.bind.imp (fun x _ k vs M1 H1 as g1 o nd fr => by
    have th : ∀ b ∈ as, H1 b ≠ none := Owns.there _ _ _ o
    refine ⟨by rw [o.len]; exact small_len (Nat.le_of_ble_eq_true (hz x)), fun p hp => ?_⟩
    have mp : M1 p = none := by
      cases e : M1 p with
      | none => rfl
      | some u => rw [g1.mh p u e] at hp; cases hp
    have hpa : ∀ b ∈ as, b ≠ p := fun b hb z => th b hb (by rw [z]; exact hp)
    have k : WF X.G M H (.lst ((g x).map ec)) Q := k
    rw [← he] at k
    refine k (.ref p) M1 _ (p :: as) (g1.trans (gr_list (.refl g1.mh) hp mp)) ⟨p, vs, as, rfl, rfl, upd_same, Owns.keep (.refl _) _ _ _ (fun b hb o e => by rw [upd_ne (hpa b hb)]; exact e) o⟩ ?_ fun b hb => ?_
    · rw [List.nodup_cons]
      exact ⟨fun z => hpa p z rfl, nd⟩
    · rcases List.mem_cons.mp hb with z | z
      · rw [z]; exact ⟨g1.hh.free hp, mp⟩
      · exact fr b z) fun _ z => z)⟩
/-- x, y = e, f -/
theorem st_par2 {x y : Str} {px py pt : Pos} {kt k2 pt2} {e1 : α → T} {e2 : β → T} {m : R α} {n : R β} (i j : Nat) (hij : i ≠ j) (hc : X.calm = true) (hN : X.N.Nodup) (ha : DF X W Γ a e1 m) (hb : DF X W Γ b e2 n) (hwk : Wk Γe Γ) (hl : Nat.blt i Γ.length = true := by rfl) (hl2 : Nat.blt j Γ.length = true := by rfl) (hi : X.N[i]? = some x := by rfl) (hj : X.N[j]? = some y := by rfl)
    (hx : X.env.scope.names.lookup x = some .local := by rfl) (hy : X.env.scope.names.lookup y = some .local := by rfl)
    (hw : swappedStores [.Tuple [.Name x px, .Name y py] kt pt] (.Tuple [a, b] k2 pt2) X.env = pure (some [x, y]) := by rfl)
    (hs : swapsWithSole [.Tuple [.Name x px, .Name y py] kt pt] (.Tuple [a, b] k2 pt2) pos.line X.env = pure false := by rfl) (h1 : starEach [a, b] X.env = (false, eval a X.env) :: starEach [b] X.env := by exact star_cons rfl) (h2 : starEach [b] X.env = (false, eval b X.env) :: starEach [] X.env := by exact star_cons rfl) :
    St1 X W Γe Γ (.Assign [.Tuple [.Name x px, .Name y py] kt pt] (.Tuple [a, b] k2 pt2) pos) (fun r : α × β => .n ((Γ.set i (.ow (e1 r.1))).set j (.ow (e2 r.2)))) (m >>= fun p => n >>= fun q => .ok (p, q)) :=
  smk ⟨_, ps_par hc hN hi hj hij hx hy (pa_w X [a, b]) hw hs, fun F M0 M H σ D s po => by
    have hA := daf_cons ha (daf_cons hb daf_nil (hs := h2)) (hs := h1)
    refine hA F M0 M H σ _ s ?_
    cases m with
    | bad => exact po
    | err c => exact fun M' H' g => er_wk s hwk po M' H' g
    | ok p =>
      cases n with
      | bad => exact po
      | err c => exact fun M' H' g => er_wk s hwk po M' H' g
      | ok q =>
        intro vs M1 H1 as g1 o nd fr
        have s1 := s.conss g1 o nd fr
        obtain ⟨v, r, a1, a2, rfl, _, _, ⟨w, r2, b1, b2, rfl, _, _, h3⟩⟩ := o
        obtain ⟨rfl, _⟩ := h3
        refine ⟨v, w, rfl, ?_⟩
        have s2 := S.pop (i := i + 1) s1 (by show i + 1 < _ + 1; exact Nat.succ_lt_succ (Nat.le_of_ble_eq_true hl))
        have s3 := S.pop (i := j) s2 (by rw [List.length_set]; exact Nat.le_of_ble_eq_true hl2)
        exact Kn.nx po _ rfl M1 H1 _ s3⟩
theorem st_par3 {x y z : Str} {px py pz pt : Pos} {kt k2 pt2} {e1 : α → T} {e2 : β → T} {e3 : γ → T} {m : R α} {n : R β} {o : R γ} (i j l : Nat) (hij : i ≠ j) (hil : i ≠ l) (hjl : j ≠ l) (hc : X.calm = true) (hN : X.N.Nodup) (ha : DF X W Γ a e1 m) (hb : DF X W Γ b e2 n) (hd : DF X W Γ c2 e3 o) (hwk : Wk Γe Γ) (hl : Nat.blt i Γ.length = true := by rfl) (hl2 : Nat.blt j Γ.length = true := by rfl) (hl3 : Nat.blt l Γ.length = true := by rfl) (hi : X.N[i]? = some x := by rfl) (hj : X.N[j]? = some y := by rfl) (hk : X.N[l]? = some z := by rfl)
    (hx : X.env.scope.names.lookup x = some .local := by rfl) (hy : X.env.scope.names.lookup y = some .local := by rfl) (hz : X.env.scope.names.lookup z = some .local := by rfl)
    (hw : swappedStores [.Tuple [.Name x px, .Name y py, .Name z pz] kt pt] (.Tuple [a, b, c2] k2 pt2) X.env = pure (some [x, y, z]) := by rfl)
    (hs : swapsWithSole [.Tuple [.Name x px, .Name y py, .Name z pz] kt pt] (.Tuple [a, b, c2] k2 pt2) pos.line X.env = pure false := by rfl) (h0 : starEach [a, b, c2] X.env = (false, eval a X.env) :: starEach [b, c2] X.env := by exact star_cons rfl) (h1 : starEach [b, c2] X.env = (false, eval b X.env) :: starEach [c2] X.env := by exact star_cons rfl) (h2 : starEach [c2] X.env = (false, eval c2 X.env) :: starEach [] X.env := by exact star_cons rfl) :
    St1 X W Γe Γ (.Assign [.Tuple [.Name x px, .Name y py, .Name z pz] kt pt] (.Tuple [a, b, c2] k2 pt2) pos) (fun r : α × β × γ => .n (((Γ.set i (.ow (e1 r.1))).set j (.ow (e2 r.2.1))).set l (.ow (e3 r.2.2)))) (m >>= fun p => n >>= fun q => o >>= fun r => .ok (p, q, r)) :=
  smk ⟨_, ps_par3 hc hN hi hj hk hij hil hjl hx hy hz (pa_w X [a, b, c2]) hw hs, fun F M0 M H σ D s po => by
    have hA := daf_cons ha (daf_cons hb (daf_cons hd daf_nil (hs := h2)) (hs := h1)) (hs := h0)
    refine hA F M0 M H σ _ s ?_
    cases m with
    | bad => exact po
    | err c => exact fun M' H' g => er_wk s hwk po M' H' g
    | ok p =>
      cases n with
      | bad => exact po
      | err c => exact fun M' H' g => er_wk s hwk po M' H' g
      | ok q =>
        cases o with
        | bad => exact po
        | err c => exact fun M' H' g => er_wk s hwk po M' H' g
        | ok r' =>
          intro vs M1 H1 as g1 o nd fr
          have s1 := s.conss g1 o nd fr
          obtain ⟨v, r, a1, a2, rfl, _, _, ⟨w, r2, b1, b2, rfl, _, _, ⟨u, r3, c1, c2, rfl, _, _, h3⟩⟩⟩ := o
          obtain ⟨rfl, _⟩ := h3
          refine ⟨v, w, u, rfl, ?_⟩
          have s2 := S.pop (i := i + 2) s1 (by show i + 2 < _ + 2; exact Nat.succ_lt_succ (Nat.succ_lt_succ (Nat.le_of_ble_eq_true hl)))
          have s3 := S.pop (i := j + 1) s2 (by show j + 1 < _ + 1; rw [List.length_set]; exact Nat.succ_lt_succ (Nat.le_of_ble_eq_true hl2))
          have s4 := S.pop (i := l) s3 (by rw [List.length_set, List.length_set]; exact Nat.le_of_ble_eq_true hl3)
          exact Kn.nx po _ rfl M1 H1 _ s4⟩
/-! ### targets, for trees -/
/-- v is stored; what it owned goes along; vs: what stands ahead of the slots besides -/
def DGX (X : Cx) (Γ : List Sl) (tg : Expr) (put : List Sl) (t : T) : Prop := ∃ g, PG X tg g ∧ ∀ F M0 M H (σ : St) (v : V) (vs : List V) (ts : List T) Q, vs.length = ts.length → S X.G F M0 M H (some v :: (vs.map some ++ σ)) (.ow t :: (ts.map .ow ++ Γ)) → (∀ M' H' σ', S X.G F M0 M' H' (vs.map some ++ σ') (ts.map .ow ++ put) → Q σ' H') → g v σ H Q
theorem dgx_name {n : Str} {t : T} (i : Nat) (hN : X.N.Nodup) (hi : X.N[i]? = some n := by rfl) (hl : Nat.blt i Γ.length = true := by rfl) (hx : Loc X.env.scope n := by first | exact Or.inl rfl | exact Or.inr rfl) (hf : X.fn n = true ∨ X.env.scope.names.lookup n = some .local := by first | exact .inl rfl | exact .inr rfl) :
    DGX X Γ (.Name n pos) (Γ.set i (.ow t)) t := ⟨_, pg_name hN hi hx hf, fun F M0 M H σ v vs ts Q hlen s q => q M H _ (by
    have hi := Nat.le_of_ble_eq_true hl
    have s2 := S.pop (i := ts.length + i) s (by rw [List.length_append, List.length_map]; omega)
    rw [List.set_append_right _ _ (by rw [List.length_map]; omega), List.set_append_right _ _ (by rw [List.length_map]; omega), List.length_map, List.length_map, hlen, Nat.add_sub_cancel_left] at s2
    exact s2)⟩
theorem pg_fld {o : Expr} {f : Str} {ta : TE} (ha : PE X o ta) : PG X (.Attribute o f pos) (fun v σ H Q => ta σ H fun x H2 => ∃ a C dx fs, x = .ref a ∧ H2 a = some (.ins C dx fs) ∧ Cls X.K C ∧ NoAttr X.K C f ∧ fs.length < 1000 ∧ Q σ (upd H2 a (.ins C dx (putF f v fs)))) := by
  refine ⟨fun pins s σ H v u Q I ry h => ?_⟩
  rw [assign_Attribute]
  have h2 := ha.run pins s σ H _ I h
  have key : wpAny (model X.prog X.w) X.A (eval o X.env) (fun ov s2 => wpAny (model X.prog X.w) X.A (setAttr ov f u) (fun _ s' => ∃ σ' H', Inv X pins σ' H' s' ∧ Q σ' H') X.xe s2) X.xe s := thn h2 fun ov s2 ⟨x, H2, I2, rx, a, C, dx, fs, ex, ea, c, n, l, q2⟩ => by
    subst ex
    obtain rfl : ov = Value.ref a := rx
    exact setattr_ok I2 ea c n l ry fun s3 I3 => ⟨σ, _, I3, q2⟩
  intro Γ p hΓ
  simp only [Sem.wp_bind', Sem.wp_holding, Sem.wp_cmd_standAt, Sem.wp_release, Sem.wp_pure']
  exact Sem.wp_mono _ Γ _ (fun ov _ s₂ h₂ => h₂ Γ _ hΓ) (fun _ _ _ h' => h') _ _ (key Γ p hΓ)
/-- the core of a field's store -/
theorem S.setFld {G : Ctx} {F M0 M1 H1 M2 H2 : Hp} {σ : St} {Γ : List Sl} {K : PySem.W.Frag} {i j : Nat} {x : Sl} {ea : α → T} {x0 : α} {path : List Nat} {n f : Str} {fs : List Str} {ts : List T} {t u' ta : T} {v v0 w : V} {C : Addr} (sF : S G F M0 M1 H1 (some v :: σ) (.ow t :: Γ)) (g2 : Gr M1 H1 M2 H2) (hx : Γ[i]? = some x) (ht : x.tree = some ta) (hget : T.get path ta = some (.obj n fs ts)) (hv : σ[i]? = some (some v0)) (hw2 : At H2 path v0 w) (hg : G.mg n = some (.ref C)) (hj : fs.findIdx? (f == ·) = some j) (hjl : j < ts.length) :
    ∃ ad dx kvs, w = .ref ad ∧ H2 ad = some (.ins C dx kvs) ∧ kvs.length = fs.length ∧ S G F M0 M2 (upd H2 ad (.ins C dx (putF f v kvs))) σ (Γ.set i (x.put (T.set path ta (.obj n fs (ts.set j t))))) := by
  obtain ⟨Hm, n', sm, gm, om, ndm, frm⟩ := (sF.grow g2).back
  obtain ⟨v', w', aa, y1, y2, y3⟩ := sm.at hx ht hget
  rw [hv] at y1
  cases y1
  cases At.det hw2 (At.same gm.hh y2)
  obtain ⟨a, o1, nd, ma, kk⟩ := sm.root hx ht hget hv y2
  obtain ⟨ad, c0, dx, kvs, r, rfl, ea', q3, h1, q5, q6⟩ := id o1
  rw [hg] at q3
  cases q3
  have hkl : kvs.length = fs.length := by rw [← q5, List.length_map]
  have hjk : (kvs.map (·.1)).findIdx? (f == ·) = some j := by rw [q5]; exact hj
  obtain ⟨k1, k2⟩ := putF_at (v := v) hjk
  have nd' := nd
  rw [ea', List.nodup_cons] at nd'
  obtain ⟨r', o', nr, fr⟩ := Owns.repl (ad := ad) (o := .ins C dx (putF f v kvs)) q6 (List.getElem?_eq_getElem hjl) nd'.2 nd'.1 gm.hh (fun b hb => ma b (by rw [ea']; exact List.mem_cons_of_mem _ hb)) om ndm frm (by rw [h1]; exact fun z => nomatch z)
  exact ⟨ad, dx, kvs, rfl, gm.hh _ _ h1, hkl, kk ad r rfl ea' M2 H2 _ _ r' gm ⟨ad, C, dx, putF f v kvs, r', rfl, rfl, hg, upd_same, by rw [k1, q5], by rw [k2]; exact o'⟩ nr fr⟩
/-- self.f as a target; self in slot i -/
theorem dgx_fld {n f nm : Str} {C : Addr} {fs : List Str} {tl : List T} {t : T} {x : Sl} {pv : Pos} (i j : Nat) (hx : Γ[i]? = some x) (ht : x.tree = some (.obj n fs tl)) (cf : ClF X n C) (na : NoAttr X.K C f)
    (hj : fs.findIdx? (f == ·) = some j := by decide) (hg : Nat.blt j tl.length = true := by rfl) (hn : Nat.blt fs.length 1000 = true := by rfl) (hN : X.N[i]? = some nm := by rfl) (hv : Vis X.env.scope nm := by first | exact Or.inl rfl | exact Or.inr (Or.inl rfl) | exact Or.inr (Or.inr rfl))
    (hd : (nm == ("__debug__" : Str)) = false := by decide) (hcd : (nm == ("__classdict__" : Str)) = false := by decide) : DGX X Γ (.Attribute (.Name nm pv) f pos) (Γ.set i (x.put (.obj n fs (tl.set j t)))) t :=
  ⟨_, pg_fld (pe_var hN hv hd hcd), fun F M0 M H σ v vs ts Q hlen s q => by
    have hx' : (ts.map Sl.ow ++ Γ)[ts.length + i]? = some x := by rw [List.getElem?_append_right (by rw [List.length_map]; omega), List.length_map, Nat.add_sub_cancel_left]; exact hx
    obtain ⟨v0, w, a, h1, h2, h3⟩ := s.front.at (p := []) hx' ht rfl
    obtain ⟨ad, dx, kvs, e1, e2, e3, s2⟩ := S.setFld (K := X.K) (ea := fun t : T => t) (x0 := t) (u' := t) s (.refl s.mh) hx' ht rfl h1 h2 cf.g hj (Nat.le_of_ble_eq_true hg)
    cases h2
    rw [List.getElem?_append_right (by rw [List.length_map]; omega), List.length_map, hlen, Nat.add_sub_cancel_left] at h1
    rw [List.set_append_right _ _ (by rw [List.length_map]; omega), List.length_map, Nat.add_sub_cancel_left] at s2
    exact ⟨_, h1, ad, C, dx, kvs, e1, e2, cf.c, na, by rw [e3]; exact Nat.le_of_ble_eq_true hn, q M _ σ s2⟩⟩
def DGXs (X : Cx) (Γ : List Sl) (tgs : List Expr) (put : List Sl) (ts : List T) : Prop := ∃ g, PGs X tgs g ∧ ∀ F M0 M H (σ : St) (vs : List V) Q, vs.length = ts.length → S X.G F M0 M H (vs.map some ++ σ) (ts.map .ow ++ Γ) → (∀ M' H' σ', S X.G F M0 M' H' σ' put → Q σ' H') → g vs σ H Q
theorem dgxs_nil : DGXs X Γ [] Γ [] := ⟨_, pgs_nil, fun F M0 M H σ vs Q hl s q => by
  have e : vs = [] := List.length_eq_zero_iff.mp hl
  subst e
  exact ⟨rfl, q M H σ s⟩⟩
theorem dgxs_cons {tgs : List Expr} {Γ1 put : List Sl} {t : T} {ts : List T} (h : DGX X Γ tg Γ1 t) (k : DGXs X Γ1 tgs put ts) (hs : (assignEach (tg :: tgs) X.env).map (·.2) = assign tg X.env :: (assignEach tgs X.env).map (·.2) := by rfl) : DGXs X Γ (tg :: tgs) put (t :: ts) := by
  obtain ⟨g1, p1, q1⟩ := h
  obtain ⟨g2, p2, q2⟩ := k
  refine ⟨_, pgs_cons p1 p2 hs, fun F M0 M H σ vs Q hl s q => ?_⟩
  cases vs with
  | nil => cases hl
  | cons v vs =>
    have hl := Nat.succ.inj hl
    exact ⟨v, vs, rfl, q1 F M0 M H σ v vs ts _ hl s fun M1 H1 σ1 s1 => q2 F M0 M1 H1 σ1 vs Q hl s1 q⟩
/-- tg1, tg2 = e1, e2, trees; not as a swap of names -/
theorem st_tupX {tgs es : List Expr} {put : α → List Sl} {ets : α → List T} {m : R α} {k k2 : _} {pt pt2 : Pos} (hc : X.calm = true) (ha : DAF X W Γ es ets m) (hg : ∀ x, DGXs X Γ tgs (put x) (ets x)) (hw : Wk Γe Γ) (hn : ∀ x, (ets x).length = (assignEach tgs X.env).length := by intro _; rfl) (hz : ∀ x, Nat.ble (ets x).length 100000 = true := by intro _; rfl) (hst : (assignEach tgs X.env).findIdx? (·.1) = none := by rfl)
    (hs : swapsWithSole [.Tuple tgs k pt] (.Tuple es k2 pt2) pos.line X.env = pure false := by rfl) (hsw : swappedStores [.Tuple tgs k pt] (.Tuple es k2 pt2) X.env = pure none := by rfl)
    (h1 : (assignEach [.Tuple tgs k pt] X.env).map (·.2) = [assign (.Tuple tgs k pt) X.env] := by rfl) : St1 X W Γe Γ (.Assign [.Tuple tgs k pt] (.Tuple es k2 pt2) pos) (fun x => .n (put x)) m := by
  cases m with
  | bad => exact ⟨fun F M0 M H σ D st po => po.elim⟩
  | err c => exact smk ⟨_, ps_asg (pe_tup (pa_w X es)) (pg_w X (.Tuple tgs k pt)) hs hsw h1, fun F M0 M H σ D st po => ha F M0 M H σ _ st (show Po (R.err c) _ _ from fun M' H' g => er_wk st hw po M' H' g)⟩
  | ok x =>
    obtain ⟨g, pg, hgr⟩ := hg x
    refine smk ⟨_, ps_asg (pe_tup (pa_w X es)) (pg_tup hc pg rfl hst) hs hsw h1, fun F M0 M H σ D st po => ha F M0 M H σ _ st (show Po (R.ok x) _ _ from fun vs M1 H1 as g1 o nd fr => ?_)⟩
    have th : ∀ b ∈ as, H1 b ≠ none := Owns.there _ _ _ o
    refine ⟨by rw [o.len]; exact small_len (Nat.le_of_ble_eq_true (hz x)), fun p hp => ?_⟩
    have mp : M1 p = none := by
      cases e : M1 p with
      | none => rfl
      | some u => rw [g1.mh p u e] at hp; cases hp
    have gp : Gr M1 H1 M1 (upd H1 p (.tup vs)) := ⟨fun b u e => by rw [upd_ne (ne_of_none e hp)]; exact e, .refl _, fun b u e => by rw [upd_ne (ne_of_none e mp)]; exact g1.mh b u e, fun _ z => .inl z⟩
    have s2 := (st.conss g1 o nd fr).grow gp
    exact ⟨p, vs, rfl, .inl (.inl upd_same), by rw [o.len, hn], hgr F M0 M1 _ σ vs _ o.len s2 fun M2 H2 σ2 s3 => Kn.nx po _ rfl M2 H2 σ2 s3⟩
/-! ### stores in place -/
theorem get_listL {X : Cx} : PGet X (rIxL X.K) := by
  intro pins s σ H o i ov iv Q I ro ri h
  obtain ⟨p, xs, i, z, rfl, rfl, hq, he, q⟩ := h
  cases ro
  obtain ⟨t, rfl⟩ := ri
  obtain ⟨its, r, pl, hz⟩ := I.list hq
  obtain ⟨j, h1, h2, h3, h4, h5⟩ := atI_get he
  obtain ⟨w, ew, rw'⟩ := r.get h2
  have hl := r.length
  have hn := line63
  have fin : EP X pins σ Q w s := ⟨z, H, I, rw', q⟩
  by_cases h0 : 0 ≤ i
  · have hj : i.toNat = j := by
      rw [seqIndex_of h0 h5] at h1
      exact Option.some.inj h1
    exact wpAny_getItem_list pl.isList h0 (by omega) (by rw [hj]; simpa using ew) fin
  · have hj : (i + (its.toArray.size : Int)).toNat = j := by
      rw [seqIndex_neg (by omega) h4] at h1
      rw [List.size_toArray, ← hl]
      exact Option.some.inj h1
    exact wpAny_getItem_list_neg pl.isList (by omega) (by rw [List.size_toArray] <;> omega) (by omega) (by rw [hj]; simpa using ew) fin
/-- tgt[b] op= e, ints -/
theorem st_augix {i : Nat} {ea : α → T} {x0 : α} {path : κ → List Nat} {m : R κ} {x : Sl} {val : κ → List Int} {put : κ → List Int → α} {mi me : R Int} {op : Operator} {f : Int → Int → Option Int} {tpos : Pos} (hf : AugI X op f) (hp : DP X W Γ tg i ea x0 path (fun xs => .lst (xs.map fun y => .imm (.int y))) val put m) (hx : Γ[i]? = some x) (ht : x.tree = some (ea x0)) (hi : DD X W Γ b D.int mi) (he : DD X W Γ e D.int me) (hw : Wk Γe Γ)
    (ha : ∀ ov iv new, augStore b ov iv new = (do holding [new, ov, iv] (setItem ov iv new); release [new, ov, iv] []; pure .next) := by intros; rfl) :
    St1 X W Γe Γ (.AugAssign (.Subscript tg b tpos) op e pos) (fun y => .n (Γ.set i (x.put (ea y)))) (m >>= fun k => mi >>= fun j => ofO (atI (val k) j) >>= fun y => me >>= fun z => ofO (f y z) >>= fun y' => ofO (setO (val k) j y') >>= fun ys => .ok (put k ys)) := by
  obtain ⟨ti, hti, htr⟩ := hf
  refine smk ⟨_, ps_augS (pe_w X tg) (pe_w X b) get_listL (pe_w X e) hti set_list ha, fun F M0 M H σ D st po => ?_⟩
  refine hp.run F M0 M H σ _ st (po.bind.and.imp (fun k _ ⟨em, q⟩ v w M1 H1 g1 hv hat => ?_) fun c z => er_wk st hw z)
  have st1 := st.grow g1
  refine hi F M0 M1 H1 σ _ st1 (q.bind.imp (fun j _ q vj M2 H2 g2 r2 => ?_) fun c z => er_wk st1 hw z)
  have st2 := st1.grow g2
  have hat2 := At.same g2.hh hat
  have q := q.bind
  obtain ⟨y, ey, q⟩ := q.ofO
  obtain ⟨v', w', a, e1, e2, o1⟩ := st2.at hx ht (hp.get k em)
  rw [hv] at e1
  cases e1
  cases At.det hat2 e2
  obtain ⟨ad, vs, r, rfl, ea', h1, h2⟩ := o1
  rw [map_imm] at h2
  obtain ⟨h3, er⟩ := Owns.of_imm h2
  have evs : vs = (val k).map V.int := reps_ints h3
  subst evs
  rw [show vj = .int j from r2]
  refine ⟨ad, _, j, .int y, rfl, rfl, .of h1, by rw [ixN_map, ey]; rfl, ?_⟩
  refine he F M0 M2 H2 σ _ st2 (q.bind.imp (fun z _ q vz M3 H3 g3 r3 => ?_) fun c z => er_wk st2 hw z)
  rw [show vz = .int z from r3]
  have q := q.bind
  obtain ⟨y', ey', q⟩ := q.ofO
  refine htr y z y' H3 _ ey' ?_
  have q := q.bind
  obtain ⟨ys, eys, q⟩ := q.ofO
  have st3 := st2.grow g3
  obtain ⟨a, o1, nd, ma, kk⟩ := st3.root hx ht (hp.get k em) hv (At.same g3.hh hat2)
  obtain ⟨ad', vs', r', ead, ea3, h1', h2'⟩ := id o1
  cases ead
  have h1'' := g3.hh _ _ h1
  rw [h1'] at h1''
  cases h1''
  rw [map_imm] at h2'
  obtain ⟨h3', er'⟩ := Owns.of_imm h2'
  subst er'
  unfold setO at eys
  cases hq : ixN (val k).length j with
  | none => rw [hq] at eys; cases eys
  | some l =>
    rw [hq] at eys
    cases eys
    refine ⟨ad, _, j, l, rfl, rfl, h1', by rw [List.length_map]; exact hq, ?_⟩
    refine Kn.nx q _ rfl M3 _ σ ?_
    rw [← hp.set k _ em]
    refine kk ad [] rfl ea3 M3 H3 _ _ [] (.refl st3.mh) ⟨ad, _, [], rfl, rfl, upd_same, ?_⟩ List.nodup_nil fun _ z => nomatch z
    rw [map_imm, ← List.map_set]
    refine Owns.imm ?_
    have := ints_reps (G := X.G) (M := M3) ((val k).set l y')
    exact this
/-- tgt.f op= e, an int -/
theorem st_fldaug {i : Nat} {ea : α → T} {x0 : α} {path : κ → List Nat} {m : R κ} {x : Sl} {eb : β → T} {val : κ → β} {put : κ → β → α} {me : R Int} {op : Operator} {r0 : R2} {f : Int → Int → Option Int} {tpos : Pos} {n fl : Str} {C : Addr} {fs : List Str} {ts : β → List T} (j : Nat) (g : β → Int) (st : β → Int → β) (ho : OpR X (inplaceOp op) r0) (hf : ∀ x y z H Q, f x y = some z → Q (.int z) H → r0 (.int x) (.int y) H Q) (hp : DP X W Γ tg i ea x0 path eb val put m) (hx : Γ[i]? = some x) (ht : x.tree = some (ea x0)) (he : DD X W Γ e D.int me) (cf : ClF X n C) (na : NoAttr X.K C fl) (hw : Wk Γe Γ)
    (hb : ∀ y, eb y = .obj n fs (ts y) := by intro _; rfl) (hj : fs.findIdx? (fl == ·) = some j := by decide) (hg : ∀ y, (ts y)[j]? = some (.imm (.int (g y))) := by intro _; rfl) (hst : ∀ y z, T.obj n fs ((ts y).set j (.imm (.int z))) = eb (st y z) := by intro _ _; rfl) (hn : Nat.blt fs.length 1000 = true := by rfl) :
    St1 X W Γe Γ (.AugAssign (.Attribute tg fl tpos) op e pos) (fun y => .n (Γ.set i (x.put (ea y)))) (m >>= fun k => me >>= fun z => ofO (f (g (val k)) z) >>= fun y => .ok (put k (st (val k) y))) := by
  refine smk ⟨_, ps_fldaug (pe_w X tg) (pe_w X e) (fun pins s σ H x y v u Q I r1 r2 q => ho pins s σ H x y v u Q I r1 r2 q), fun F M0 M H σ D s po => ?_⟩
  refine hp.run F M0 M H σ _ s (po.bind.and.imp (fun k _ ⟨em, q⟩ v w M1 H1 g1 hv hat => ?_) fun c z => er_wk s hw z)
  have st1 := s.grow g1
  obtain ⟨v', w', a, e1, e2, o1⟩ := st1.at hx ht (hp.get k em)
  rw [hv] at e1
  cases e1
  cases At.det hat e2
  rw [hb] at o1
  obtain ⟨ad, c0, dx, kvs, r, rfl, ea', q3, h1, q5, q6⟩ := o1
  have z3 : X.mg n = some (.ref c0) := q3
  rw [cf.g] at z3
  cases z3
  have hjk : (kvs.map (·.1)).findIdx? (fl == ·) = some j := by rw [q5]; exact hj
  obtain ⟨u, z1, z2⟩ := lookup_ix hjk
  obtain ⟨w0, a0, y1, y2, _⟩ := Owns.get q6 (hg (val k))
  rw [z1] at y1
  cases y1
  refine ⟨ad, C, dx, kvs, u, rfl, h1, cf.c, na, z2, he F M0 M1 H1 σ _ st1 (q.bind.imp (fun z _ q vz M2 H2 g2 r2 => ?_) fun c z => er_wk st1 hw z)⟩
  rw [show vz = .int z from r2, show u = .int (g (val k)) from y2.2]
  have q := q.bind
  obtain ⟨y, ey, q⟩ := q.ofO
  refine hf _ z y H2 _ ey ?_
  have h2 := g2.hh _ _ h1
  have hkl : kvs.length = fs.length := by rw [← q5, List.length_map]
  refine ⟨dx, kvs, h2, by rw [hkl]; exact Nat.le_of_ble_eq_true hn, ?_⟩
  refine Kn.nx q _ rfl M2 _ σ ?_
  have st2 := st1.grow g2
  have sF := st2.consD (d := .int y) (v := .int y) rfl
  have hjl : j < (ts (val k)).length := (List.getElem?_eq_some_iff.mp (hg (val k))).1
  obtain ⟨ad', dx', kvs', e1, e2', e3, s2⟩ := S.setFld (K := X.K) (ea := ea) (x0 := x0) (u' := .imm (.int y)) sF (.refl st2.mh) hx ht (by rw [hp.get k em, hb]) hv (At.same g2.hh hat) cf.g hj hjl
  cases e1
  rw [h2] at e2'
  cases e2'
  rw [← hp.set k _ em, ← hst]
  exact s2
theorem iop_i {f : Int → Int → Int} : ∀ x y z (H : Hp) (Q : VK), (fun a b => some (f a b)) x y = some z → Q (.int z) H → (rI0 fun i j => .int (f i j)) (.int x) (.int y) H Q := fun x y z H Q e q => ⟨x, y, rfl, rfl, by cases e; exact q⟩
end
/-! ### a def that changes and raises nothing -/
section
variable {P : Program} {w : World} {K : PySem.W.Frag} {mg : Str → Option Value} {base : Heap}
theorem fn_genN {x qual : Str} {st : Stmt} {f : Addr} {fd : FuncData} {N ps : List Str} {k : Nat} {α ρ : Type} {args : α → List Ar} {er : ρ → T} {post : ρ → List T} {g : α → R ρ} (κ : α → List V → ρ → Kd) (F : Fun K x qual st f fd) (Sc : FnScope N ps (defScope st))
    (hl : ∀ a, (args a).length = ps.length)
    (hb : ∀ (cdv : Value) (A : Around) (outer : List Env) (s : Shared) (H : Hp) (E : XK), Room k (A.deeper (PyProof.Rows.envOfC qual (defScope st) s.heap.objs.size f cdv)) → ∀ a (vs : List V), vs.length = ps.length →
      Bk (cxOf (L2.CX P w) P w K mg base N qual (defScope st) f cdv A outer s H E) (fun cls d _ H => E cls d H) (List.replicate N.length .un) (slotsG (args a) vs ++ List.replicate (N.length - ps.length) .un) (defBody st) (κ a vs) (g a))
    (hκ : ∀ a vs r, ((κ a vs r).nx = none ∨ ((κ a vs r).nx = some (slotsR (args a) vs (post r) ++ List.replicate (N.length - ps.length) .un) ∧ er r = .imm .non)) ∧ ((κ a vs r).rt = none ∨ (κ a vs r).rt = some (er r, slotsR (args a) vs (post r) ++ List.replicate (N.length - ps.length) .un)) ∧ (κ a vs r).bk = none ∧ (κ a vs r).ct = none) :
    FnOk P w K mg base (L2.CX P w) (k + 1) f fd ps (SpG ⟨K, mg⟩ args er post fun a => noErr (g a)) :=
  fn_gen κ F Sc hl (fun cdv A outer s H E hr a vs hv => bk_calm (hb cdv A outer s H E hr a vs hv)) hκ
end
end Cn
/-! CnI: one's own or None; zip, enumerate, reversed; list(range(..)) -/
namespace Cn
open PySem PySem.Spec L2
section
variable {X : Cx} {W : WX} {Γe Γe' Γ : List Sl} {a b c2 e c tg : Expr} {es : List Expr} {α β γ κ ω ω1 ρ ξ ζ : Type} {pos : Pos} {s : Stmt} {rest ss A B : List Stmt}
/-! ### None or not -/
def optK {α ω : Type} (o : Option α) (n : ω) (s : α → ω) : ω := match o with
  | none => n
  | some y => s y
theorem optK_none {α ω : Type} (n : ω) (s : α → ω) : optK none n s = n := rfl
theorem optK_some {α ω : Type} (y : α) (n : ω) (s : α → ω) : optK (some y) n s = s y := rfl
/-- a tree is never None -/
def NotN (G : Ctx) {α : Type} (emb : α → T) : Prop := ∀ x v M H as, Own G M H (emb x) v as → v ≠ .non
theorem notN_lst {G : Ctx} {ec : β → T} : NotN G fun xs : List β => .lst (xs.map ec) := fun x v M H as ⟨a, vs, r, h, _⟩ => by rw [h]; exact fun z => nomatch z
theorem notN_obj {G : Ctx} {n : Str} {fs : List Str} {eb : β → T} {ts : β → List T} (hb : ∀ y, eb y = .obj n fs (ts y) := by intro _; rfl) : NotN G eb := fun x v M H as o => by
  rw [hb] at o
  obtain ⟨a, c, dx, kvs, r, h, _⟩ := o
  rw [h]; exact fun z => nomatch z
theorem notN_tup {G : Ctx} {eb : β → D} {ds : β → List D} (hb : ∀ y, eb y = .tup (ds y) := by intro _; rfl) : NotN G fun x => .imm (eb x) := fun x v M H as o => by
  have o := o.2
  rw [hb] at o
  obtain ⟨a, vs, h, _⟩ := o
  rw [h]; exact fun z => nomatch z
theorem notN_dlst {G : Ctx} {eb : β → D} {ds : β → List D} (hb : ∀ y, eb y = .lst (ds y) := by intro _; rfl) : NotN G fun x => .imm (eb x) := fun x v M H as o => by
  have o := o.2
  rw [hb] at o
  obtain ⟨a, vs, h, _⟩ := o
  rw [h]; exact fun z => nomatch z
theorem notN_int {G : Ctx} : NotN G fun x : Int => .imm (.int x) := fun x v M H as o => by rw [show v = .int x from o.2]; exact fun z => nomatch z
theorem notN_str {G : Ctx} : NotN G fun x : Str => .imm (.str x) := fun x v M H as o => by rw [show v = .str x from o.2]; exact fun z => nomatch z
theorem own_optN {G : Ctx} {M H : Hp} {emb : α → T} {x : Option α} {v : V} {as : List Addr} (hn : NotN G emb) (o : Own G M H (eOptT emb x) v as) : decide (v = .non) = x.isNone := by
  cases x with
  | none => rw [show v = .non from o.2]; rfl
  | some y => rw [decide_eq_false (hn y v M H as o)]; rfl
theorem dd_isNT {emb : α → T} {m : R (Option α)} {j p} (hn : NotN X.G emb) (h : DB X W Γ e (eOptT emb) m) : DD X W Γ (.Compare e [.Is] [.Constant .none j p] pos) D.bl (m >>= fun x => .ok x.isNone) :=
  dmk ⟨_, pe_cmpR op_isN (pe_w X e) pe_non (nomark _), fun F M0 M H σ Q s po => h F M0 M H σ _ s (po.bind.imp (fun x _ k v M1 H1 as g1 o => ⟨rfl, k _ M1 H1 g1 (by rw [own_optN hn o]; rfl)⟩) fun _ z => z)⟩
theorem dd_notNT {emb : α → T} {m : R (Option α)} {j p} (hn : NotN X.G emb) (h : DB X W Γ e (eOptT emb) m) : DD X W Γ (.Compare e [.IsNot] [.Constant .none j p] pos) D.bl (m >>= fun x => .ok x.isSome) :=
  dmk ⟨_, pe_cmpR op_notN (pe_w X e) pe_non (nomark _), fun F M0 M H σ Q s po => h F M0 M H σ _ s (po.bind.imp (fun x _ k v M1 H1 as g1 o => ⟨rfl, k _ M1 H1 g1 (by rw [own_optN hn o]; cases x <;> rfl)⟩) fun _ z => z)⟩
theorem dt_isNT {emb : α → T} {m : R (Option α)} {j p} (hn : NotN X.G emb) (h : DB X W Γ e (eOptT emb) m) : DT X W Γ (.Compare e [.Is] [.Constant .none j p] pos) (m >>= fun x => .ok x.isNone) :=
  tmk ⟨_, pt_cmpR op_isN (pe_w X e) pe_non (nomark _), fun F M0 M H σ Q s po => h F M0 M H σ _ s (po.bind.imp (fun x _ k v M1 H1 as g1 o => ⟨rfl, x.isNone, by rw [own_optN hn o], k M1 H1 g1⟩) fun _ z => z)⟩
theorem dt_notNT {emb : α → T} {m : R (Option α)} {j p} (hn : NotN X.G emb) (h : DB X W Γ e (eOptT emb) m) : DT X W Γ (.Compare e [.IsNot] [.Constant .none j p] pos) (m >>= fun x => .ok x.isSome) :=
  tmk ⟨_, pt_cmpR op_notN (pe_w X e) pe_non (nomark _), fun F M0 M H σ Q s po => h F M0 M H σ _ s (po.bind.imp (fun x _ k v M1 H1 as g1 o => ⟨rfl, x.isSome, by rw [own_optN hn o]; cases x <;> rfl, k M1 H1 g1⟩) fun _ z => z)⟩
/-- data, or None, as a tree -/
theorem db_optD {ei : α → D} {m : R (Option α)} (h : DD X W Γ e (eOpt ei) m) : DB X W Γ e (eOptT fun x => .imm (ei x)) m := ⟨fun F M0 M H σ Q s po => h F M0 M H σ Q s (po.imp (fun x _ k v M' H' g r => k v M' H' [] g (by
  cases x with
  | none => exact ⟨rfl, r⟩
  | some y => exact ⟨rfl, r⟩)) fun _ z => z)⟩
/-- a slot, seen otherwise -/
theorem bk_seen {κ : ω → Kd} {m : R ω} {Γ1 : List Sl} (h : Bk X W Γe Γ1 ss κ m) (e : Γ = Γ1) : Bk X W Γe Γ ss κ m := by rw [e]; exact h
/-- if x is None: A, which leaves; else the rest, where x is known -/
theorem bk_ifNoneX {emb : α → T} {x : Option α} {sl : Sl} {n : Str} {p1 p2 p3 : Pos} {jc} {κ : ω → Kd} {mA : R ω} {mB : α → R ω} (i : Nat) (h : Γ[i]? = some sl) (hs : sl.look = some (eOptT emb x)) (hn : NotN X.G emb) (ha : Bk X W Γe Γ A (fun o => (κ o).ex) mA) (Γs : α → List Sl) (hb : ∀ y, Bk X W Γe (Γs y) rest κ (mB y)) (hΓ : ∀ y, x = some y → Γ = Γs y) (hw : Wk Γe Γ)
    (hN : X.N[i]? = some n := by rfl) (hv : Vis X.env.scope n := by first | exact Or.inl rfl | exact Or.inr (Or.inl rfl) | exact Or.inr (Or.inr rfl)) (hd : (n == ("__debug__" : Str)) = false := by decide) (hcd : (n == ("__classdict__" : Str)) = false := by decide) :
    Bk X W Γe Γ (.If (.Compare (.Name n p1) [.Is] [.Constant .none jc p2] p3) A [] pos :: rest) κ (optK x mA mB) := by
  have hc := dt_isNT (X := X) (W := W) (Γ := Γ) (pos := p3) (j := jc) (p := p2) hn (db_see (pos := p1) i h hs hN hv hd hcd)
  cases x with
  | none => exact bk_ifX (mc := .ok true) (ma := mA) (mb := .bad) hc ha ⟨fun F M0 M H σ D s po => po.elim⟩ hw
  | some y => exact bk_ifX (mc := .ok false) (ma := .bad) (mb := mB y) hc ⟨fun F M0 M H σ D s po => po.elim⟩ (bk_seen (hb y) (hΓ y rfl)) hw
/-- if x is not None: A else: B -/
theorem st_ifSome {emb : α → T} {x : Option α} {sl : Sl} {n : Str} {p1 p2 p3 : Pos} {jc} {κ : ω → Kd} {mA : α → R ω} {mB : R ω} (i : Nat) (h : Γ[i]? = some sl) (hs : sl.look = some (eOptT emb x)) (hn : NotN X.G emb) (Γs : α → List Sl) (ha : ∀ y, Bk X W Γe (Γs y) A κ (mA y)) (hΓ : ∀ y, x = some y → Γ = Γs y) (hb : Bk X W Γe Γ B κ mB) (hw : Wk Γe Γ)
    (hN : X.N[i]? = some n := by rfl) (hv : Vis X.env.scope n := by first | exact Or.inl rfl | exact Or.inr (Or.inl rfl) | exact Or.inr (Or.inr rfl)) (hd : (n == ("__debug__" : Str)) = false := by decide) (hcd : (n == ("__classdict__" : Str)) = false := by decide) :
    St1 X W Γe Γ (.If (.Compare (.Name n p1) [.IsNot] [.Constant .none jc p2] p3) A B pos) κ (optK x mB mA) := by
  have hc := dt_notNT (X := X) (W := W) (Γ := Γ) (pos := p3) (j := jc) (p := p2) hn (db_see (pos := p1) i h hs hN hv hd hcd)
  cases x with
  | none => exact st_if (mc := .ok false) (ma := .bad) (mb := mB) hc ⟨fun F M0 M H σ D s po => po.elim⟩ hb hw
  | some y => exact st_if (mc := .ok true) (ma := mA y) (mb := .bad) hc (bk_seen (ha y) (hΓ y rfl)) ⟨fun F M0 M H σ D s po => po.elim⟩ hw
theorem st_ifNone {emb : α → T} {x : Option α} {sl : Sl} {n : Str} {p1 p2 p3 : Pos} {jc} {κ : ω → Kd} {mA : R ω} {mB : α → R ω} (i : Nat) (h : Γ[i]? = some sl) (hs : sl.look = some (eOptT emb x)) (hn : NotN X.G emb) (ha : Bk X W Γe Γ A κ mA) (Γs : α → List Sl) (hb : ∀ y, Bk X W Γe (Γs y) B κ (mB y)) (hΓ : ∀ y, x = some y → Γ = Γs y) (hw : Wk Γe Γ)
    (hN : X.N[i]? = some n := by rfl) (hv : Vis X.env.scope n := by first | exact Or.inl rfl | exact Or.inr (Or.inl rfl) | exact Or.inr (Or.inr rfl)) (hd : (n == ("__debug__" : Str)) = false := by decide) (hcd : (n == ("__classdict__" : Str)) = false := by decide) :
    St1 X W Γe Γ (.If (.Compare (.Name n p1) [.Is] [.Constant .none jc p2] p3) A B pos) κ (optK x mA mB) := by
  have hc := dt_isNT (X := X) (W := W) (Γ := Γ) (pos := p3) (j := jc) (p := p2) hn (db_see (pos := p1) i h hs hN hv hd hcd)
  cases x with
  | none => exact st_if (mc := .ok true) (ma := mA) (mb := .bad) hc ha ⟨fun F M0 M H σ D s po => po.elim⟩ hw
  | some y => exact st_if (mc := .ok false) (ma := .bad) (mb := mB y) hc ⟨fun F M0 M H σ D s po => po.elim⟩ (bk_seen (hb y) (hΓ y rfl)) hw
/-! ### int(a bool) -/
theorem dd_intB {m : R Bool} {p : Pos} (h : DD X W Γ e D.bl m) (hm : X.mg "int" = none) (hg : Gl X "int" := by rfl) (hs : starEach [e] X.env = (false, eval e X.env) :: starEach [] X.env := by exact star_cons rfl) : DD X W Γ (.Call (.Name "int" p) [e] [] pos) D.int (m >>= fun b => .ok (if b then 1 else 0)) :=
  dmk ⟨_, pe_callTy call_int1 hg hm (by decide +kernel) (pa_cons (pe_w X e) pa_nil (hs := hs)) (he := hs), fun F M0 M H σ Q s po => h F M0 M H σ _ s (po.bind.imp (fun b _ k v M1 H1 g r => .inr ⟨b, by rw [show v = .bl b from r], k _ M1 H1 g rfl⟩) fun _ z => z)⟩
/-! ### list(range(..)) -/
noncomputable def rangeLO (lo hi : Int) : Option (List Int) := @ite _ (RgOk lo hi) (Classical.propDecidable _) (some (irange lo hi)) none
theorem rgV_irange {lo hi : Int} : rgV lo hi = (irange lo hi).map V.int := by unfold rgV irange; rw [List.map_map]; rfl
theorem df_listR1 {m : R Int} {p p2 pos2 : Pos} (hc : X.calm = true) (h : DD X W Γ a D.int m) (hm : X.mg "list" = none) (hr : X.mg "range" = none) (hg : Gl X "list" := by rfl) (hg2 : Gl X "range" := by rfl) (hs : starEach [a] X.env = (false, eval a X.env) :: starEach [] X.env := by exact star_cons rfl) (hs2 : starEach [.Call (.Name "range" p2) [a] [] pos2] X.env = (false, eval (.Call (.Name "range" p2) [a] [] pos2) X.env) :: starEach [] X.env := by exact star_cons rfl) :
    DF X W Γ (.Call (.Name "list" p) [.Call (.Name "range" p2) [a] [] pos2] [] pos) (fun xs => .lst (xs.map fun x => .imm (.int x))) (m >>= fun n => ofO (rangeLO 0 n)) :=
  dmk ⟨_, pe_listRg hc hg hm (prg_1 hg2 hr (pe_w X a) (na := hs)) (na := hs2), fun F M0 M H σ Q s po => h F M0 M H σ _ s (po.bind.imp (fun n _ k v M1 H1 g r => by
    obtain ⟨xs, e, k⟩ := k.ofO
    unfold rangeLO at e
    by_cases c : RgOk 0 n
    · rw [if_pos c] at e
      cases e
      refine ⟨n, r, c, ?_⟩
      rw [rgV_irange]
      refine new_list (G := X.G) g (ds := (irange 0 n).map D.int) (ints_reps _) ?_
      rw [← map_imm]
      exact k
    · rw [if_neg c] at e; cases e) fun _ z => z)⟩
/-! ### zip, enumerate, reversed -/
theorem new_pair {G : Ctx} {M1 M H : Hp} {T : Addr} {ds : List D} {vs : List V} (g : Same M H) (hT : H T = none) (r : Reps G M ds vs) : ∃ M', Gr M H M' (upd H T (.tup vs)) ∧ Rep G M' (.tup ds) (.ref T) := by
  have mT : M T = none := by
    cases e : M T with
    | none => rfl
    | some o => rw [g T o e] at hT; cases hT
  refine ⟨upd M T (.tup vs), ⟨fun b o e => by rw [upd_ne (ne_of_none e hT)]; exact e, fun b o e => by rw [upd_ne (ne_of_none e mT)]; exact e, fun b o e => ?_, fun b z => ?_⟩, T, vs, rfl, .inl (.inl upd_same), Reps.mono (fun b o e => by rw [upd_ne (ne_of_none e mT)]; exact e) _ _ r⟩
  · by_cases hb : b = T
    · subst hb; rw [upd_same] at e ⊢; exact e
    · rw [upd_ne hb] at e ⊢; exact g b o e
  · by_cases hb : b = T
    · subst hb; exact .inr hT
    · rw [upd_ne hb] at z; exact .inl z
def zipL {α β : Type} (xs : List α) (ys : List β) : List (α × β) := xs.zip ys
theorem di_zip {ei : α → D} {ej : β → D} {m : R (List α)} {n : R (List β)} {elts : List Expr} {kk : Nat} {p tpos : Pos} (ha : DD X W Γ a (fun xs => .lst (xs.map ei)) m) (hb : DD X W Γ b (fun xs => .lst (xs.map ej)) n) (hm : X.mg "zip" = none) (hg : Gl X "zip" := by rfl) (hs : starEach [a, b] X.env = (false, eval a X.env) :: starEach [b] X.env := by exact star_cons rfl) (hs2 : starEach [b] X.env = (false, eval b X.env) :: starEach [] X.env := by exact star_cons rfl) (hpl : (backTo pos (starEach [b] X.env)).any (·.1) = false := by exact star_none rfl) :
    DI X W Γ (.Tuple elts kk tpos) (.Call (.Name "zip" p) [a, b] [] pos) (fun zs => zs.map fun z : α × β => .tup [ei z.1, ej z.2]) (m >>= fun xs => n >>= fun ys => .ok (xs.zip ys)) :=
  imk ⟨_, pi_zip hg hm (pa_w X [a, b]) (hs := hs) (hpl := hpl), fun F M0 M H σ Q s po => by
    have hA := da_cons ha (da_cons hb da_nil (hs := hs2)) (hs := hs)
    refine hA F M0 M H σ _ s ?_
    cases m with
    | bad => exact po
    | err c => exact po
    | ok xs =>
      cases n with
      | bad => exact po
      | err c => exact po
      | ok ys =>
        intro vs M1 H1 g r
        obtain ⟨v, r', rfl, r1, w, r'', rfl, r2, r3⟩ := r
        rw [show r'' = [] from r3]
        obtain ⟨p1, v1, rfl, q1, rs1⟩ := r1
        obtain ⟨p2, v2, rfl, q2, rs2⟩ := r2
        refine ⟨p1, p2, v1, v2, rfl, .of (g.mh _ _ q1), .of (g.mh _ _ q2), po _ M1 H1 g fun M H i hm hh => ?_⟩
        have s1 : SqL X.K H p1 v1 := .of (hh _ _ (hm _ _ q1))
        have s2 : SqL X.K H p2 v2 := .of (hh _ _ (hm _ _ q2))
        refine ⟨fun d hd => ?_, fun hi => ⟨v1, v2, s1, s2, by
          rw [List.length_map, List.length_zip] at hi
          rw [rs1.len, rs2.len, List.length_map, List.length_map]
          show xs.length ≤ i ∨ ys.length ≤ i
          omega⟩⟩
        rw [List.getElem?_map] at hd
        cases ez : (xs.zip ys)[i]? with
        | none => rw [ez] at hd; cases hd
        | some z =>
          rw [ez] at hd
          cases hd
          rw [List.getElem?_zip_eq_some] at ez
          obtain ⟨u1, e1, k1⟩ := rs1.get (i := i) (d := ei z.1) (by rw [List.getElem?_map, ez.1]; rfl)
          obtain ⟨u2, e2, k2⟩ := rs2.get (i := i) (d := ej z.2) (by rw [List.getElem?_map, ez.2]; rfl)
          refine ⟨⟨v1, v2, u1, u2, s1, s2, e1, e2⟩, fun x H' y => ?_⟩
          obtain ⟨T, x1, x2, rfl, hT, rfl, f1, f2⟩ := y
          have f1 := f1 v1 s1
          have f2 := f2 v2 s2
          rw [e1] at f1
          rw [e2] at f2
          cases f1
          cases f2
          exact new_pair (M1 := M) hh hT ⟨u1, _, rfl, Rep.mono hm _ _ k1, u2, _, rfl, Rep.mono hm _ _ k2, rfl⟩⟩
def enumL {α : Type} (xs : List α) : List (Int × α) := (List.range xs.length).zip xs |>.map fun p => ((p.1 : Int), p.2)
theorem enumL_get {α : Type} {xs : List α} {i : Nat} {z : Int × α} (h : (enumL xs)[i]? = some z) : z.1 = i ∧ xs[i]? = some z.2 := by
  unfold enumL at h
  rw [List.getElem?_map] at h
  cases e : ((List.range xs.length).zip xs)[i]? with
  | none => rw [e] at h; cases h
  | some q =>
    rw [e] at h
    cases h
    rw [List.getElem?_zip_eq_some] at e
    have := List.getElem?_eq_some_iff.mp e.1
    obtain ⟨h1, h2⟩ := this
    rw [List.getElem_range] at h2
    exact ⟨by show ((q.1 : Nat) : Int) = _; rw [← h2], e.2⟩
theorem enumL_len {α : Type} {xs : List α} : (enumL xs).length = xs.length := by unfold enumL; simp
theorem di_enum {ei : α → D} {m : R (List α)} {elts : List Expr} {kk : Nat} {p tpos : Pos} (ha : DD X W Γ a (fun xs => .lst (xs.map ei)) m) (hm : X.mg "enumerate" = none) (hg : Gl X "enumerate" := by rfl) (hs : starEach [a] X.env = (false, eval a X.env) :: starEach [] X.env := by exact star_cons rfl) :
    DI X W Γ (.Tuple elts kk tpos) (.Call (.Name "enumerate" p) [a] [] pos) (fun zs => zs.map fun z : Int × α => .tup [.int z.1, ei z.2]) (m >>= fun xs => .ok (enumL xs)) :=
  imk ⟨_, pi_enum hg hm (pa_w X [a]) (hs := hs), fun F M0 M H σ Q s po => by
    have hA := da_cons ha da_nil (hs := hs)
    refine hA F M0 M H σ _ s ?_
    cases m with
    | bad => exact po
    | err c => exact po
    | ok xs =>
      intro vs M1 H1 g r
      obtain ⟨v, r', rfl, r1, r3⟩ := r
      rw [show r' = [] from r3]
      obtain ⟨p1, v1, rfl, q1, rs1⟩ := r1
      refine ⟨p1, v1, rfl, .of (g.mh _ _ q1), po _ M1 H1 g fun M H i hm hh => ?_⟩
      have s1 : SqL X.K H p1 v1 := .of (hh _ _ (hm _ _ q1))
      refine ⟨fun d hd => ?_, fun hi => ⟨v1, s1, by
        rw [List.length_map, enumL_len] at hi
        rw [rs1.len, List.length_map]; exact hi⟩⟩
      rw [List.getElem?_map] at hd
      cases ez : (enumL xs)[i]? with
      | none => rw [ez] at hd; cases hd
      | some z =>
        rw [ez] at hd
        cases hd
        obtain ⟨z1, z2⟩ := enumL_get ez
        obtain ⟨u1, e1, k1⟩ := rs1.get (i := i) (d := ei z.2) (by rw [List.getElem?_map, z2]; rfl)
        refine ⟨⟨v1, u1, s1, e1⟩, fun x H' y => ?_⟩
        obtain ⟨T, x1, rfl, hT, rfl, f1⟩ := y
        have f1 := f1 v1 s1
        rw [e1] at f1
        cases f1
        exact new_pair (M1 := M) hh hT ⟨.int (i : Nat), _, rfl, by rw [z1]; rfl, u1, _, rfl, Rep.mono hm _ _ k1, rfl⟩⟩
/-- reversed(a list that is shared) -/
theorem di_rev {ei : α → D} {m : R (List α)} {p : Pos} (ha : DD X W Γ a (fun xs => .lst (xs.map ei)) m) (hm : X.mg "reversed" = none) (hg : Gl X "reversed" := by rfl) (hs : starEach [a] X.env = (false, eval a X.env) :: starEach [] X.env := by exact star_cons rfl) :
    DI X W Γ tg (.Call (.Name "reversed" p) [a] [] pos) (fun xs => xs.map ei) (m >>= fun xs => .ok xs.reverse) :=
  imk ⟨_, pi_reversed hg hm (pa_w X [a]) (hs := hs), fun F M0 M H σ Q s po => by
    have hA := da_cons ha da_nil (hs := hs)
    refine hA F M0 M H σ _ s ?_
    cases m with
    | bad => exact po
    | err c => exact po
    | ok xs =>
      intro vs M1 H1 g r
      obtain ⟨v, r', rfl, r1, r3⟩ := r
      rw [show r' = [] from r3]
      obtain ⟨p1, v1, rfl, q1, rs1⟩ := r1
      have hl : v1.length = xs.length := by rw [rs1.len, List.length_map]
      refine ⟨p1, v1, rfl, .of (g.mh _ _ q1), po _ M1 H1 g fun M H i hm hh => ?_⟩
      have s1 : SqL X.K H p1 v1 := .of (hh _ _ (hm _ _ q1))
      refine ⟨fun d hd => ?_, fun hi => ?_⟩
      · have hi : i < xs.length := by
          have := (List.getElem?_eq_some_iff.mp hd).1
          rw [List.length_map, List.length_reverse] at this; exact this
        rw [List.getElem?_map, List.getElem?_reverse hi] at hd
        cases ez : xs[xs.length - 1 - i]? with
        | none => rw [ez] at hd; cases hd
        | some z =>
          rw [ez] at hd
          cases hd
          obtain ⟨u1, e1, k1⟩ := rs1.get (i := xs.length - 1 - i) (d := ei z) (by rw [List.getElem?_map, ez]; rfl)
          refine ⟨⟨by omega, v1, u1, s1, by rw [hl]; exact e1⟩, fun x H' y => ?_⟩
          obtain ⟨rfl, f1⟩ := y
          have f1 := f1 v1 s1
          rw [hl, e1] at f1
          cases f1
          exact ⟨M, .refl hh, Rep.mono hm _ _ k1⟩
      · rw [List.length_map, List.length_reverse] at hi
        show v1.length ≤ i
        omega⟩
theorem bk_as {κ : ω → Kd} {m : R ω} (Γ' : List Sl) (h : Γ = Γ') (hb : Bk X W Γe Γ' ss κ m) : Bk X W Γe Γ ss κ m := h ▸ hb
end
end Cn
/-! CnJ: dicts of the module's, ints to ints -/
namespace Cn
open PySem PySem.Spec L2 PyProof.Rows
def GEnt : List (Int × Int) → List DictEntry → Prop := Paired fun p e => ∃ t u, e = ⟨hashInt p.1, .int p.1 t, .int p.2 u⟩
def GDct (K : PySem.W.Frag) (A : Addr) (kvs : List (Int × Int)) : Prop := (A == sysModules) = false ∧ (kvs.map (·.1)).Nodup ∧ ∃ es n, K.lookup A = some ⟨.type "dict", none, .dict es n, #[]⟩ ∧ GEnt kvs es.toList
def GVal : List (Int × Int) → List (Key × Value) → Prop := Paired fun p q => q.1 = .inl p.1 ∧ ∃ u, q.2 = .int p.2 u
theorem gent_vals {P : Program} {w : World} : ∀ {kvs : List (Int × Int)} {es : List DictEntry}, GEnt kvs es → ∃ vs, GVal kvs vs ∧ Pairs (mixKind P w) es vs ∧ vs.map (·.1) = kvs.map (fun p => (Sum.inl p.1 : Key)) ∧ ∀ e ∈ es, ∃ k, (mixKind P w).is k e.key = true ∧ e.hash = (mixKind P w).hash k
  | [], [], _ => ⟨[], .nil, .nil, rfl, fun _ z => nomatch z⟩
  | p :: kvs, e :: es, h => by
    cases h with
    | cons h1 h2 =>
      obtain ⟨t, u, rfl⟩ := h1
      obtain ⟨vs, g, q, m, a⟩ := gent_vals (P := P) (w := w) h2
      refine ⟨(.inl p.1, .int p.2 u) :: vs, .cons ⟨rfl, u, rfl⟩ g, .cons (keyIs_int p.1 t) rfl q, by rw [List.map_cons, List.map_cons, m], fun e he => ?_⟩
      rcases List.mem_cons.mp he with z | z
      · subst z; exact ⟨.inl p.1, keyIs_int p.1 t, rfl⟩
      · exact a e z
theorem gval_at : ∀ {kvs : List (Int × Int)} {vs : List (Key × Value)}, GVal kvs vs → ∀ i : Int, (∀ z, kvs.lookup i = some z → ∃ u, PySem.valueAt vs (Sum.inl i : Key) = some (.int z u)) ∧ (PySem.valueAt vs (Sum.inl i : Key)).isSome = (kvs.lookup i).isSome
  | [], [], _, i => ⟨fun z h => (nomatch h), rfl⟩
  | p :: kvs, q :: vs, h, i => by
    cases h with
    | cons h1 h2 =>
      obtain ⟨e, u, e2⟩ := h1
      obtain ⟨k, v⟩ := q
      obtain ⟨a, b⟩ := p
      simp only at e e2
      subst e
      subst e2
      have ih := gval_at h2 i
      unfold PySem.valueAt at ih ⊢
      rw [List.lookup_cons, List.find?_cons]
      by_cases c : i = a
      · subst c
        rw [beq_self_eq_true]
        simp only [decide_true]
        exact ⟨fun z hz => ⟨u, by cases hz; rfl⟩, rfl⟩
      · rw [show (i == a) = false from beq_eq_false_iff_ne.mpr c, decide_eq_false (fun z => c (Sum.inl.inj z).symm)]
        exact ih
theorem nodup_inl : ∀ {l : List Int}, l.Nodup → (l.map (fun i => (Sum.inl i : Key))).Nodup
  | [], _ => List.nodup_nil
  | a :: l, h => by
    rw [List.nodup_cons] at h
    rw [List.map_cons, List.nodup_cons]
    refine ⟨fun z => ?_, nodup_inl h.2⟩
    obtain ⟨b, hb, e⟩ := List.mem_map.mp z
    cases e
    exact h.1 hb
theorem gdct_at {P : Program} {w : World} {K : PySem.W.Frag} {h : Heap} {A : Addr} {kvs : List (Int × Int)} (X : K.In h) (g : GDct K A kvs) : ∃ vs, h.DictOf (mixKind P w) A vs ∧ GVal kvs vs := by
  obtain ⟨_, nd, es, n, hl, ge⟩ := g
  obtain ⟨vs, gv, pr, m, a⟩ := gent_vals (P := P) (w := w) ge
  refine ⟨vs, ⟨_, es, n, X _ _ hl, ⟨rfl, rfl, rfl⟩, rfl, fun e he => a e (Array.mem_toList_iff.mpr he), pr, ?_⟩, gv⟩
  have := nodup_inl nd
  rw [List.map_map] at this
  rw [m]
  exact this
section
variable {X : Cx} {W : WX} {Γe Γ : List Sl} {a b e c tg : Expr} {α β γ : Type} {pos : Pos}
theorem ix_gdct : IxR X (fun x y H Q => ∃ A kvs i z, x = .ref A ∧ y = .int i ∧ GDct X.K A kvs ∧ kvs.lookup i = some z ∧ Q (.int z) H) := by
  intro value slice pins s σ H x y v u Q I rx ry h hs
  obtain ⟨A, kvs, i, z, rfl, rfl, g, l, q⟩ := h
  obtain rfl : v = Value.ref A := rx
  obtain ⟨vs, dd, gv⟩ := gdct_at (P := X.prog) (w := X.w) I.kIn g
  obtain ⟨t, hv⟩ := (gval_at gv i).1 z l
  exact tail_any dd.mapOf.typeIs slot_dict_getitem.lookup (wpAny_getItem_of (kV_is (k := .inl i) ry) dd.mapOf hv ⟨.int z, H, I.tok _, ⟨t, rfl⟩, q⟩) hs
theorem pc_gdin {ta td : TE} (hi : PE X a ta) (ho : PE X e td) : PC X .In a e (fun σ H Q => ta σ H fun x H1 => td σ H1 fun y H2 => ∃ i A kvs, x = .int i ∧ y = .ref A ∧ GDct X.K A kvs ∧ Q (.bl (kvs.lookup i).isSome) H2) := by
  refine ⟨fun pins s σ H Q I h => ?_⟩
  refine thn (hi.run pins s σ H _ I h) fun iv s1 ⟨y, H1, I1, ry, q1⟩ => thn (ho.run pins s1 σ H1 _ I1 q1) fun u s2 ⟨x, H2, I2, rx, i, A, kvs, e1, e2, g, q2⟩ => ?_
  subst e1
  subst e2
  obtain rfl : u = Value.ref A := rx
  obtain ⟨vs, dd, gv⟩ := gdct_at (P := X.prog) (w := X.w) I2.kIn g
  refine wpAny_in_of (kV_is (k := .inl i) ry) g.1 dd.mapOf ?_
  rw [(gval_at gv i).2]
  exact ⟨.bl (kvs.lookup i).isSome, H2, I2.tok _, rfl, q2⟩
theorem pc_gdnin {ta td : TE} (hi : PE X a ta) (ho : PE X e td) : PC X .NotIn a e (fun σ H Q => ta σ H fun x H1 => td σ H1 fun y H2 => ∃ i A kvs, x = .int i ∧ y = .ref A ∧ GDct X.K A kvs ∧ Q (.bl (!(kvs.lookup i).isSome)) H2) := by
  refine ⟨fun pins s σ H Q I h => ?_⟩
  refine thn (hi.run pins s σ H _ I h) fun iv s1 ⟨y, H1, I1, ry, q1⟩ => thn (ho.run pins s1 σ H1 _ I1 q1) fun u s2 ⟨x, H2, I2, rx, i, A, kvs, e1, e2, g, q2⟩ => ?_
  subst e1
  subst e2
  obtain rfl : u = Value.ref A := rx
  obtain ⟨vs, dd, gv⟩ := gdct_at (P := X.prog) (w := X.w) I2.kIn g
  refine wpAny_notIn_of (kV_is (k := .inl i) ry) g.1 dd.mapOf ?_
  rw [(gval_at gv i).2]
  exact ⟨.bl (!(kvs.lookup i).isSome), H2, I2.tok _, rfl, q2⟩
theorem dd_gdget {n : Str} {kvs : List (Int × Int)} {ad : Addr} {p : Pos} {m : R Int} (hm : X.mg n = some (.ref ad)) (h : GDct X.K ad kvs) (hb : DD X W Γ b D.int m) (hg : Gl X n := by rfl) (hd : (n == ("__debug__" : Str)) = false := by decide) (hs : PlainIx b := by exact fun _ _ => rfl) : DD X W Γ (.Subscript (.Name n p) b pos) D.int (m >>= fun i => ofO (kvs.lookup i)) :=
  dmk ⟨_, pe_ix ix_gdct (pe_glob (v := .ref ad) hg hm rfl hd) (pe_w X b) hs, fun F M0 M H σ Q s po => hb F M0 M H σ _ s (po.bind.imp (fun i _ q v M1 H1 g r => by
    obtain ⟨z, e, k⟩ := q.ofO
    exact ⟨ad, kvs, i, z, rfl, r, h, e, k _ M1 H1 g rfl⟩) fun _ z => z)⟩
theorem dd_gdin {n : Str} {kvs : List (Int × Int)} {ad : Addr} {p : Pos} {m : R Int} (hm : X.mg n = some (.ref ad)) (h : GDct X.K ad kvs) (hb : DD X W Γ a D.int m) (hg : Gl X n := by rfl) (hd : (n == ("__debug__" : Str)) = false := by decide) (h1 : behindInMarks .In (.Name n p) = false := by rfl) : DD X W Γ (.Compare a [.In] [.Name n p] pos) D.bl (m >>= fun i => .ok (kvs.lookup i).isSome) :=
  dmk ⟨_, pe_cmp (pc_gdin (pe_w X a) (pe_glob (v := .ref ad) hg hm rfl hd)) h1, fun F M0 M H σ Q s po => hb F M0 M H σ _ s (po.bind.imp (fun i _ q v M1 H1 g r => ⟨i, ad, kvs, r, rfl, h, q _ M1 H1 g rfl⟩) fun _ z => z)⟩
theorem dd_gdnin {n : Str} {kvs : List (Int × Int)} {ad : Addr} {p : Pos} {m : R Int} (hm : X.mg n = some (.ref ad)) (h : GDct X.K ad kvs) (hb : DD X W Γ a D.int m) (hg : Gl X n := by rfl) (hd : (n == ("__debug__" : Str)) = false := by decide) (h1 : behindInMarks .NotIn (.Name n p) = false := by rfl) : DD X W Γ (.Compare a [.NotIn] [.Name n p] pos) D.bl (m >>= fun i => .ok (!(kvs.lookup i).isSome)) :=
  dmk ⟨_, pe_cmp (pc_gdnin (pe_w X a) (pe_glob (v := .ref ad) hg hm rfl hd)) h1, fun F M0 M H σ Q s po => hb F M0 M H σ _ s (po.bind.imp (fun i _ q v M1 H1 g r => ⟨i, ad, kvs, r, rfl, h, q _ M1 H1 g rfl⟩) fun _ z => z)⟩
end
end Cn
/-! CnK: in and index of lists of ints -/
namespace Cn
open PySem PySem.Spec L2 PyProof.Rows
theorem inV_ints (i : Int) (xs : List Int) : inV (.int i) (xs.map V.int) = decide (i ∈ xs) := by
  unfold inV
  induction xs with
  | nil => rfl
  | cons x xs ih =>
    rw [List.map_cons, List.any_cons, ih, Bool.eq_iff_iff, Bool.or_eq_true, decide_eq_true_iff, decide_eq_true_iff, List.mem_cons]
    show (x == i) = true ∨ _ ↔ _
    rw [beq_iff_eq]
    exact ⟨fun z => z.imp Eq.symm id, fun z => z.imp Eq.symm id⟩
theorem flat_ints (xs : List Int) : (xs.map V.int).all flatV = true := by
  induction xs with
  | nil => rfl
  | cons x xs ih => rw [List.map_cons, List.all_cons, ih]; rfl
/-- the first place of i in xs -/
def idxO (xs : List Int) (i : Int) : Option Int := (xs.findIdx? (· == i)).map fun j : Nat => (j : Int)
section
variable {X : Cx} {W : WX} {Γe Γ : List Sl} {a b e c tg o : Expr} {α β γ : Type} {pos cpos apos : Pos}
theorem dd_inL {m : R Int} {n : R (List Int)} (ha : DD X W Γ a D.int m) (hb : DL X W Γ b (fun xs => xs.map D.int) n) (h1 : behindInMarks .In b = false := by rfl) : DD X W Γ (.Compare a [.In] [b] pos) D.bl (m >>= fun i => n >>= fun xs => .ok (decide (i ∈ xs))) :=
  dmk ⟨_, pe_cmpR op_in_seq (pe_w X a) (pe_w X b) h1, fun F M0 M H σ Q s po => ha F M0 M H σ _ s (po.bind.imp (fun i _ q v M1 H1 g r => hb F M0 M1 H1 σ _ (s.grow g) (q.bind.imp (fun xs _ k p vs M2 H2 g2 hq r2 => by
    rw [show v = .int i from r]
    refine ⟨p, vs, rfl, .inl hq, rfl, ?_, ?_⟩
    · rw [reps_ints r2]; exact flat_ints xs
    · rw [reps_ints r2]
      show Q (.bl (if false = true then _ else inV (.int i) (xs.map V.int))) H2
      rw [if_neg (by decide), inV_ints]
      exact k (.bl (decide (i ∈ xs))) M2 H2 (g.trans g2) rfl) fun c z M' H' g2 => z M' H' (g.trans g2))) fun _ z => z)⟩
theorem dd_ninL {m : R Int} {n : R (List Int)} (ha : DD X W Γ a D.int m) (hb : DL X W Γ b (fun xs => xs.map D.int) n) (h1 : behindInMarks .NotIn b = false := by rfl) : DD X W Γ (.Compare a [.NotIn] [b] pos) D.bl (m >>= fun i => n >>= fun xs => .ok (!decide (i ∈ xs))) :=
  dmk ⟨_, pe_cmpR op_notIn_seq (pe_w X a) (pe_w X b) h1, fun F M0 M H σ Q s po => ha F M0 M H σ _ s (po.bind.imp (fun i _ q v M1 H1 g r => hb F M0 M1 H1 σ _ (s.grow g) (q.bind.imp (fun xs _ k p vs M2 H2 g2 hq r2 => by
    rw [show v = .int i from r]
    refine ⟨p, vs, rfl, .inl hq, rfl, ?_, ?_⟩
    · rw [reps_ints r2]; exact flat_ints xs
    · rw [reps_ints r2]
      show Q (.bl (if true = true then !inV (.int i) (xs.map V.int) else _)) H2
      rw [if_pos rfl, inV_ints]
      exact k (.bl (!decide (i ∈ xs))) M2 H2 (g.trans g2) rfl) fun c z M' H' g2 => z M' H' (g.trans g2))) fun _ z => z)⟩
theorem dd_idxL {m : R (List Int)} {n : R Int} (hc : X.calm = true) (ho : DL X W Γ o (fun xs => xs.map D.int) m) (he : DD X W Γ e D.int n) (hbase : attributeBase o "index" X.env (eval o X.env) = eval o X.env := by rfl)
    (hfew : ((backTo cpos (starEach [e] X.env)).all (fun x => !x.1) && (backToKw cpos (keywordEach [] X.env)).all (fun x => x.1.isSome)
      && decide (([e]).length + ([] : List Keyword).length + (if ([] : List Keyword).isEmpty then 0 else 1) < 30)) = true := by rfl)
    (hline : (apos.endLine == cpos.line) = true := by rfl) (hs : starEach [e] X.env = (false, eval e X.env) :: starEach [] X.env := by exact star_cons rfl) (hplain : (backTo cpos (starEach [] X.env)).any (·.1) = false := by rfl) : DD X W Γ (.Call (.Attribute o "index" apos) [e] [] cpos) D.int (m >>= fun xs => n >>= fun i => ofO (idxO xs i)) :=
  dmk ⟨_, pe_bm F.plainAttrs_list F.slot_list_index F.type_list_index mt_index (pe_w X o) (pa_cons (pe_w X e) pa_nil (hs := hs)) (hbase := hbase) (hfew := hfew) (hline := hline) (hs := hs) (hplain := hplain), fun F M0 M H σ Q s po => ho F M0 M H σ _ s (po.bind.imp (fun xs _ q p vs M1 H1 g hq r => by
    refine ⟨.inl ⟨rfl, vs, hq⟩, he F M0 M1 H1 σ _ (s.grow g) (q.bind.imp (fun i _ k v M2 H2 g2 r2 => ?_) fun c z M' H' g2 => z M' H' (g.trans g2))⟩
    obtain ⟨z, ez, k⟩ := k.ofO
    unfold idxO at ez
    obtain ⟨j, ej, rfl⟩ := Option.map_eq_some_iff.mp ez
    obtain ⟨hj, hp, hl⟩ := List.findIdx?_eq_some_iff_getElem.mp ej
    refine ⟨p, vs, v, j, .int xs[j], rfl, rfl, g2.hh.seq hq, ?_, ?_, ?_, ?_, ?_, k (.int (j : Nat)) M2 H2 (g.trans g2) rfl⟩
    · rw [show v = .int i from r2]; rfl
    · rw [reps_ints r]; exact flat_ints xs
    · rw [reps_ints r, List.getElem?_map, List.getElem?_eq_getElem hj]; rfl
    · rw [show v = .int i from r2]; exact hp
    · intro m z' hm hz
      rw [reps_ints r, List.getElem?_map, List.getElem?_eq_getElem (by omega)] at hz
      cases hz
      rw [show v = .int i from r2]
      show (xs[m] == i) = false
      cases h : (xs[m] == i) with
      | false => rfl
      | true => exact absurd h (hl m hm)) fun _ z => z)⟩
/-! xs[::-1] -/
theorem pe_rev {te tc : TE} {p2 : Pos} (he : PE X e te) (hc : PE X c tc) (hs0 : ∀ (v r : Value), subscripted (.Slice none none (some c) p2) false v r = operate [v, r] (getItem v r) := by intros; with_unfolding_all rfl) :
    PE X (.Subscript e (.Slice none none (some c) p2) pos) (fun σ H Q => te σ H fun x H1 => tc σ H1 fun y H2 => y = .int (-1) ∧ ∃ a xs, x = .ref a ∧ SqL X.K H2 a xs ∧ ∀ q, H2 q = none → Q (.ref q) (upd H2 q (.lst xs.reverse))) := by
  refine ⟨fun pins s σ H Q I h => ?_⟩
  refine Subscript_ (thn (he.run pins s σ H _ I h) fun v s1 ⟨x, H1, I1, r1, q1⟩ => ?_)
  refine wpAny_Slice ?_
  rw [evalPart_none, evalPart_some]
  refine wpAny_pure (wpAny_pure (thn (hc.run pins s1 σ H1 _ I1 q1) fun vs s3 ⟨y, H3, I3, ry, ey, a, xs, ex, hx, q⟩ => ?_))
  subst ey
  subst ex
  obtain ⟨t, rfl⟩ := (show ∃ t, vs = Value.int (-1) t from ry)
  obtain rfl : v = Value.ref a := r1
  have I4 : Inv X pins σ H3 { s3 with heap := s3.heap.push { cls := .type "slice", data := .fields #[.none, .none, .int (-1) t] } } := I3.kept (t' := s3.toks) fun b ob q => Heap.get?_push_of_some _ q
  obtain ⟨its, r, ht, hz⟩ := I4.list hx
  have hlen := r.length
  refine tail_any (ops := [.ref a, .ref s3.heap.objs.size]) ht.isList.typeIs slot_list_getitem.lookup ?_ (hs0 _ _)
  refine wpAny_getItem_list_slice ht.isList (Heap.IsSliceOf.new ..) .none .none (.int (-1) t) (by decide) ?_ (by rw [List.size_toArray] <;> omega)
  rw [PySem.W.krv_pick]
  refine ⟨.ref (s3.heap.push _).objs.size, _, I4.laid (o := .lst xs.reverse) (fun b ob q => Heap.get?_push_of_some _ q) (Nat.le_refl _) ?_, rfl, q _ (I4.hok.fresh (Nat.le_refl _))⟩
  refine ⟨by rw [List.length_reverse]; exact hz, _, 0, ?_, Heap.get?_push_size _ rfl⟩
  exact r.reverse
theorem Reps.len' {G : Ctx} {M : Hp} : ∀ {ds : List D} {vs : List V}, Reps G M ds vs → vs.length = ds.length
  | [], vs, h => by rw [show vs = [] from h]; rfl
  | d :: ds, vs, ⟨v, r, h1, h2, h3⟩ => by subst h1; rw [List.length_cons, List.length_cons, Reps.len' h3]
theorem reps_app {G : Ctx} {M : Hp} : ∀ {ds es : List D} {vs ws : List V}, Reps G M ds vs → Reps G M es ws → Reps G M (ds ++ es) (vs ++ ws)
  | [], _, vs, _, h, k => by rw [show vs = [] from h]; exact k
  | d :: ds, _, vs, _, ⟨v, r, h1, h2, h3⟩, k => by subst h1; exact ⟨v, _, rfl, h2, reps_app h3 k⟩
theorem reps_rev {G : Ctx} {M : Hp} : ∀ {ds : List D} {vs : List V}, Reps G M ds vs → Reps G M ds.reverse vs.reverse
  | [], vs, h => by rw [show vs = [] from h]; exact rfl
  | d :: ds, vs, ⟨v, r, h1, h2, h3⟩ => by
    subst h1
    rw [List.reverse_cons, List.reverse_cons]
    exact reps_app (reps_rev h3) ⟨v, [], rfl, h2, rfl⟩
theorem df_revL {ei : β → D} {m : R (List β)} {mc : R Int} {p2 : Pos} (h : DL X W Γ e (fun xs => xs.map ei) m) (hc : DD X W Γ c D.int mc) (hm : mc = .ok (-1) := by rfl) (hs0 : ∀ (v r : Value), subscripted (.Slice none none (some c) p2) false v r = operate [v, r] (getItem v r) := by intros; with_unfolding_all rfl) :
    DF X W Γ (.Subscript e (.Slice none none (some c) p2) pos) (fun xs => .lst (xs.map fun x => .imm (ei x))) (m >>= fun xs => .ok xs.reverse) := by
  subst hm
  exact dmk ⟨_, pe_rev (pe_w X e) (pe_w X c) hs0, fun F M0 M H σ Q s po => h F M0 M H σ _ s (po.bind.imp (fun xs _ k a vs M1 H1 g1 hq r1 => hc F M0 M1 H1 σ _ (s.grow g1) (fun v M2 H2 g2 rv => by
    refine ⟨rv, a, vs, rfl, g2.hh.seq hq, new_list (g1.trans g2) (ds := (xs.map ei).reverse) (reps_rev (Reps.mono g2.mm _ _ r1)) ?_⟩
    rw [← List.map_reverse, ← map_imm]
    exact k)) fun _ z => z)⟩
/-! an object made, as a new tree -/
theorem sat_un {G : Ctx} {F M H : Hp} : ∀ σ : L2.St, Sat G F M H (List.replicate σ.length .un) σ []
  | [] => ⟨rfl, rfl⟩
  | x :: σ => ⟨x, σ, rfl, sat_un σ⟩
theorem df_gen {emb : α → T} {m : R α} (h : ∀ Γ, DX X W Γ e (fun _ => Γ) emb m) : DF X W Γ e emb m :=
  ⟨fun F M0 M H σ Q s po => h (List.replicate σ.length .un) H M M H σ Q ⟨[], ⟨.refl _, .refl _, s.mh, fun _ z => .inl z, List.nodup_nil, (fun _ z => nomatch z), (fun _ z => nomatch z)⟩, sat_un σ⟩ (po.imp (fun x _ k v M' H' sx => by
    obtain ⟨as, f, v', r, a1, a2, e1, e2, o, _⟩ := sx
    cases e1
    subst e2
    exact k v M' H' a1 ⟨f.fh, f.mm, f.mh, f.nw⟩ o (List.nodup_append.mp f.nd).1 fun a ha => ⟨f.fa a (List.mem_append_left _ ha), f.ma a (List.mem_append_left _ ha)⟩) fun c z M' H' sx => z M' H' (by
    obtain ⟨as, f, _⟩ := sx
    exact ⟨f.fh, f.mm, f.mh, f.nw⟩))⟩
/-- if x is None or ..: A, which leaves; else the rest, where x is known -/
theorem bk_ifNoneOrX {ω : Type} {rest A : List Stmt} {es : List Expr} {emb : α → T} {x : Option α} {sl : Sl} {n : Str} {p1 p2 p3 p4 : Pos} {jc} {κ : ω → Kd} {mA : R ω} {mc : α → R Bool} {mB : α → R ω} (i : Nat) (h : Γ[i]? = some sl) (hs : sl.look = some (eOptT emb x)) (hn : NotN X.G emb) (ha : Bk X W Γe Γ A (fun o => (κ o).ex) mA) (Γs : α → List Sl) (hc : ∀ y, DW X W (Γs y) (.BoolOp .Or (b :: es) p4) (mc y)) (hb : ∀ y, Bk X W Γe (Γs y) rest κ (mB y)) (hΓ : ∀ y, x = some y → Γ = Γs y) (hw : Wk Γe Γ)
    (hN : X.N[i]? = some n := by rfl) (hv : Vis X.env.scope n := by first | exact Or.inl rfl | exact Or.inr (Or.inl rfl) | exact Or.inr (Or.inr rfl)) (hd : (n == ("__debug__" : Str)) = false := by decide) (hcd : (n == ("__classdict__" : Str)) = false := by decide) :
    Bk X W Γe Γ (.If (.BoolOp .Or (.Compare (.Name n p1) [.Is] [.Constant .none jc p2] p3 :: b :: es) p4) A [] pos :: rest) κ (optK x mA fun y => mc y >>= fun c => if c then mA else mB y) := by
  have h0 := dt_isNT (X := X) (W := W) (Γ := Γ) (pos := p3) (j := jc) (p := p2) hn (db_see (pos := p1) i h hs hN hv hd hcd)
  cases x with
  | none => exact bk_ifX (mc := .ok true) (ma := mA) (mb := .bad) (dt_dw (dw_or (n := .bad) h0 ⟨fun F M0 M H σ Q s po => po.elim⟩)) ha ⟨fun F M0 M H σ D s po => po.elim⟩ hw
  | some y =>
    have e := hΓ y rfl
    have hb' := hb y
    have hc' := hc y
    rw [← e] at hb' hc'
    exact bk_ifX (mc := mc y) (ma := mA) (mb := mB y) (dt_dw (dw_or h0 hc')) ha hb' hw
end
end Cn
/-! CnL: {a: x, b: y}.get(i, z) -/
namespace Cn
open PySem PySem.Spec L2 PyProof.Rows
theorem gr_new {M H : Hp} {p : Addr} {o : HO} (h : Same M H) (hp : H p = none) : Gr M H M (upd H p o) :=
  have hs : Same H (upd H p o) := fun b u e => by
    have : b ≠ p := fun z => by subst z; rw [hp] at e; cases e
    rw [upd_ne this]; exact e
  ⟨hs, .refl _, h.trans hs, fun _ z => .inl z⟩
theorem gr_over {M H M2 H2 : Hp} {p : Addr} {o o' : HO} (h : Same M H) (hp : H p = none) (g : Gr M (upd H p o) M2 H2) : Gr M H M2 (upd H2 p o') := by
  have mp : M p = none := by
    cases e : M p with
    | none => rfl
    | some u => have := h p u e; rw [hp] at this; cases this
  have m2 : M2 p = none := by
    cases e : M2 p with
    | none => rfl
    | some u =>
      rcases g.nw p (by rw [e]; simp) with z | z
      · exact absurd mp z
      · rw [upd_same] at z; cases z
  refine ⟨fun b u e => ?_, g.mm, fun b u e => ?_, fun a z => ?_⟩
  · have hb : b ≠ p := fun z => by subst z; rw [hp] at e; cases e
    rw [upd_ne hb]
    exact g.hh b u (by rw [upd_ne hb]; exact e)
  · have hb : b ≠ p := fun z => by subst z; rw [m2] at e; cases e
    rw [upd_ne hb]
    exact g.mh b u e
  · rcases g.nw a z with y | y
    · exact .inl y
    · by_cases hb : a = p
      · subst hb; rw [upd_same] at y; cases y
      · rw [upd_ne hb] at y; exact .inr y
section
variable {X : Cx} {W : WX} {Γe Γ : List Sl} {a b e f c k1 k2 v1 v2 : Expr} {α β γ : Type} {pos cpos apos dp : Pos}
theorem m2_of {m : Str} {o : Expr} (hbase : attributeBase o m X.env (eval o X.env) = eval o X.env) (hfew : ((backTo cpos (starEach [e, f] X.env)).all (fun x => !x.1) && (backToKw cpos (keywordEach [] X.env)).all (fun x => x.1.isSome)
    && decide (([e, f] : List Expr).length + ([] : List Keyword).length + (if ([] : List Keyword).isEmpty then 0 else 1) < 30)) = true) (hline : (apos.endLine == cpos.line) = true) (ht : backTo cpos (starEach [e, f] X.env) = [(false, eval e X.env), (false, eval f X.env)]) : M2 X o m apos e f cpos := ⟨hbase, hfew, hline, ht⟩
theorem dd_get22 {i1 i2 : Int} {emb : α → D} {mk1 mk2 : R Int} {m1 m2 mf : R α} {me : R Int} (hu : X.A.units + 1 < cLine) (h1 : DD X W Γ k1 D.int mk1) (hv1 : DD X W Γ v1 emb m1) (h2 : DD X W Γ k2 D.int mk2) (hv2 : DD X W Γ v2 emb m2) (he : DD X W Γ e D.int me) (hf : DD X W Γ f emb mf)
    (e1 : mk1 = .ok i1 := by rfl) (e2 : mk2 = .ok i2 := by rfl) (hne : i1 ≠ i2 := by decide) (M : M2 X (.Dict [some k1, some k2] [v1, v2] dp) "get" apos e f cpos := by exact m2_of rfl rfl rfl rfl) :
    DD X W Γ (.Call (.Attribute (.Dict [some k1, some k2] [v1, v2] dp) "get" apos) [e, f] [] cpos) emb (m1 >>= fun x => m2 >>= fun y => me >>= fun i => mf >>= fun d => .ok (if i = i1 then x else if i = i2 then y else d)) := by
  subst e1
  subst e2
  refine dmk ⟨_, pe_dget2 hu (pe_disp (pps_cons (pe_w X k1) (pe_w X v1) (pps_cons (pe_w X k2) (pe_w X v2) pps_nil)) rfl rfl (by simp) (by show 2 ≤ 15; decide)) (pe_w X e) (pe_w X f) M, fun F M0 M H σ Q s po => ?_⟩
  intro p hp
  have g0 : Gr M H M (upd H p (.dK [])) := gr_new s.mh hp
  have s0 := s.grow g0
  refine h1 F M0 M _ σ _ s0 (fun w1 Ma Ha ga ra => ?_)
  refine hv1 F M0 Ma Ha σ _ (s0.grow ga) (po.bind.imp (fun x _ po u1 Mb Hb gb rb => ?_) fun c z M' H' g => z M' H' ((g0.trans ga).trans g))
  refine h2 F M0 Mb Hb σ _ ((s0.grow ga).grow gb) (fun w2 Mc Hc gc rc => ?_)
  refine hv2 F M0 Mc Hc σ _ (((s0.grow ga).grow gb).grow gc) (po.bind.imp (fun y _ po u2 Md Hd gd rd => ?_) fun c z M' H' g => z M' H' (((((g0.trans ga).trans gb).trans gc)).trans g))
  have gg : Gr M (upd H p (.dK [])) Md Hd := ((ga.trans gb).trans gc).trans gd
  refine ⟨gg.hh p _ upd_same, [(.inl i1, u1), (.inl i2, u2)], by rw [show w1 = .int i1 from ra, show w2 = .int i2 from rc]; rfl, by show 2 ≤ 15; decide, ?_⟩
  have gx : Gr M H Md (upd Hd p (.dK (mergeK [] [(.inl i1, u1), (.inl i2, u2)]))) := gr_over s.mh hp gg
  refine ⟨p, rfl, .inl ⟨_, .inl upd_same⟩, ?_⟩
  refine he F M0 Md _ σ _ (s.grow gx) (po.bind.imp (fun i _ po w3 Me He ge re => ?_) fun c z M' H' g => z M' H' (gx.trans g))
  refine hf F M0 Me He σ _ ((s.grow gx).grow ge) (po.bind.imp (fun d _ k w4 Mf Hf gf rf => ?_) fun c z M' H' g => z M' H' ((gx.trans ge).trans g))
  have hq : Hf p = some (.dK (mergeK [] [((Sum.inl i1 : Key), u1), (Sum.inl i2, u2)])) := gf.hh p _ (ge.hh p _ upd_same)
  rw [show w3 = .int i from re]
  refine ⟨_, DGet.k (k := .inl i) hq, ?_⟩
  have hm : mergeK [] [((Sum.inl i1 : Key), u1), (Sum.inl i2, u2)] = [(Sum.inl i1, u1), (Sum.inl i2, u2)] := by
    show putK (putK [] (Sum.inl i1 : Key) u1) (Sum.inl i2) u2 = _
    unfold putK
    simp [hne]
  rw [hm]
  have r1 : Rep X.G Mf (emb x) u1 := Rep.mono (((gc.mm.trans gd.mm).trans ge.mm).trans gf.mm) _ _ rb
  have r2 : Rep X.G Mf (emb y) u2 := Rep.mono (ge.mm.trans gf.mm) _ _ rd
  by_cases c1 : i = i1
  · subst c1
    have : valV [((.inl i : Key), u1), (.inl i2, u2)] (.inl i) = some u1 := by unfold valV; rw [List.find?_cons_of_pos (by simp)]; rfl
    rw [this]
    rw [if_pos rfl] at k
    exact k u1 Mf Hf ((gx.trans ge).trans gf) r1
  · by_cases c2 : i = i2
    · subst c2
      have : valV [((.inl i1 : Key), u1), (.inl i, u2)] (.inl i) = some u2 := by unfold valV; rw [List.find?_cons_of_neg (by simpa using hne), List.find?_cons_of_pos (by simp)]; rfl
      rw [this]
      rw [if_neg c1, if_pos rfl] at k
      exact k u2 Mf Hf ((gx.trans ge).trans gf) r2
    · have : valV [((.inl i1 : Key), u1), (.inl i2, u2)] (.inl i) = none := by unfold valV; rw [List.find?_cons_of_neg (by simpa using fun z : i1 = i => c1 z.symm), List.find?_cons_of_neg (by simpa using fun z : i2 = i => c2 z.symm)]; rfl
      rw [this]
      rw [if_neg c1, if_neg c2] at k
      exact k w4 Mf Hf ((gx.trans ge).trans gf) rf
/-! in, as a test -/
theorem dt_gdin {n : Str} {kvs : List (Int × Int)} {ad : Addr} {p : Pos} {m : R Int} (hm : X.mg n = some (.ref ad)) (h : GDct X.K ad kvs) (hb : DD X W Γ a D.int m) (hg : Gl X n := by rfl) (hd : (n == ("__debug__" : Str)) = false := by decide) (h1 : behindInMarks .In (.Name n p) = false := by rfl) : DT X W Γ (.Compare a [.In] [.Name n p] pos) (m >>= fun i => .ok (kvs.lookup i).isSome) :=
  tmk ⟨_, pt_cmp (pc_gdin (pe_w X a) (pe_glob (v := .ref ad) hg hm rfl hd)) h1, fun F M0 M H σ Q s po => hb F M0 M H σ _ s (po.bind.imp (fun i _ q v M1 H1 g r => ⟨i, ad, kvs, r, rfl, h, _, rfl, q M1 H1 g⟩) fun _ z => z)⟩
theorem dt_gdnin {n : Str} {kvs : List (Int × Int)} {ad : Addr} {p : Pos} {m : R Int} (hm : X.mg n = some (.ref ad)) (h : GDct X.K ad kvs) (hb : DD X W Γ a D.int m) (hg : Gl X n := by rfl) (hd : (n == ("__debug__" : Str)) = false := by decide) (h1 : behindInMarks .NotIn (.Name n p) = false := by rfl) : DT X W Γ (.Compare a [.NotIn] [.Name n p] pos) (m >>= fun i => .ok (!(kvs.lookup i).isSome)) :=
  tmk ⟨_, pt_cmp (pc_gdnin (pe_w X a) (pe_glob (v := .ref ad) hg hm rfl hd)) h1, fun F M0 M H σ Q s po => hb F M0 M H σ _ s (po.bind.imp (fun i _ q v M1 H1 g r => ⟨i, ad, kvs, r, rfl, h, _, rfl, q M1 H1 g⟩) fun _ z => z)⟩
theorem dt_inL {m : R Int} {n : R (List Int)} (ha : DD X W Γ a D.int m) (hb : DL X W Γ b (fun xs => xs.map D.int) n) (h1 : behindInMarks .In b = false := by rfl) : DT X W Γ (.Compare a [.In] [b] pos) (m >>= fun i => n >>= fun xs => .ok (decide (i ∈ xs))) :=
  tmk ⟨_, pt_cmpR op_in_seq (pe_w X a) (pe_w X b) h1, fun F M0 M H σ Q s po => ha F M0 M H σ _ s (po.bind.imp (fun i _ q v M1 H1 g r => hb F M0 M1 H1 σ _ (s.grow g) (q.bind.imp (fun xs _ k p vs M2 H2 g2 hq r2 => by
    rw [show v = .int i from r]
    refine ⟨p, vs, rfl, .inl hq, rfl, ?_, decide (i ∈ xs), ?_, k M2 H2 (g.trans g2)⟩
    · rw [reps_ints r2]; exact flat_ints xs
    · rw [reps_ints r2]
      show V.bl (if false = true then _ else inV (.int i) (xs.map V.int)) = _
      rw [if_neg (by decide), inV_ints]) fun c z M' H' g2 => z M' H' (g.trans g2))) fun _ z => z)⟩
end
end Cn
/-! CnM: expressions that change slots, inside others -/
namespace Cn
open PySem PySem.Spec L2 PyProof.Rows
section
variable {X : Cx} {W : WX} {Γe Γ : List Sl} {a b e c : Expr} {α β γ : Type} {pos : Pos}
theorem S.now {G : Ctx} {F M0 M H : Hp} {σ : L2.St} {Γ : List Sl} (s : S G F M0 M H σ Γ) : S G F M M H σ Γ := by
  obtain ⟨as, f, sa⟩ := s
  exact ⟨as, ⟨f.fh, .refl _, f.mh, fun _ z => .inl z, f.nd, f.fa, f.ma⟩, sa⟩
theorem S.ago {G : Ctx} {F M0 M1 H1 M H : Hp} {σ σ1 : L2.St} {Γ Γ1 : List Sl} (s1 : S G F M0 M1 H1 σ1 Γ1) (s : S G F M1 M H σ Γ) : S G F M0 M H σ Γ := by
  obtain ⟨as1, f1, _⟩ := s1
  obtain ⟨as, f, sa⟩ := s
  exact ⟨as, ⟨f.fh, f1.mm.trans f.mm, f.mh, fun x z => by
    rcases f.nw x z with q | q
    · exact f1.nw x q
    · exact .inr q, f.nd, f.fa, f.ma⟩, sa⟩
theorem S.mm {G : Ctx} {F M0 M H : Hp} {σ : L2.St} {Γ : List Sl} (s : S G F M0 M H σ Γ) : Same M0 M := by
  obtain ⟨as, f, sa⟩ := s
  exact f.mm
theorem S.drop {G : Ctx} {F M0 M H : Hp} {σ : L2.St} {v : Option V} {t : T} {Γ : List Sl} (s : S G F M0 M H (v :: σ) (.ow t :: Γ)) : S G F M0 M H σ Γ := by
  obtain ⟨as, f, w, r, a1, a2, e1, e2, o, sa⟩ := s
  cases e1
  subst e2
  exact ⟨a2, ⟨f.fh, f.mm, f.mh, f.nw, (List.nodup_append.mp f.nd).2.1, fun a ha => f.fa a (List.mem_append_right _ ha), fun a ha => f.ma a (List.mem_append_right _ ha)⟩, sa⟩
theorem S.head {G : Ctx} {F M0 M H : Hp} {σ : L2.St} {v : V} {t : T} {Γ : List Sl} (s : S G F M0 M H (some v :: σ) (.ow t :: Γ)) : ∃ as, Own G M H t v as := by
  obtain ⟨as, f, w, r, a1, a2, e1, e2, o, sa⟩ := s
  cases e1
  exact ⟨a1, o⟩
/-- a + b, where b changes slots and a is shared -/
theorem dx_cat {ei : β → D} {Γ' : γ → List Sl} {ma : R (List β)} {mb : R γ} {em : γ → T} (g : γ → List β) (ha : DD X W Γ a (fun xs => .lst (xs.map ei)) ma) (hb : DX X W Γ b Γ' em mb) (he : ∀ y, em y = .lst ((g y).map fun x => .imm (ei x)) := by intro _; rfl) :
    DX X W Γ (.BinOp a .Add b pos) (fun p => Γ' p.1) (fun p : γ × List β => .lst (p.2.map fun x => .imm (ei x))) (ma >>= fun xs => mb >>= fun y => ofO (catO xs (g y)) >>= fun zs => .ok (y, zs)) :=
  dmk ⟨_, pe_op op_cat (pe_w X a) (pe_w X b), fun F M0 M H σ Q s po => ha F M0 M H σ _ s (po.bind.imp (fun xs _ k v0 M1 H1 g1 r0 => by
    obtain ⟨p, vs, rfl, hp, r1⟩ := r0
    have s1 := s.grow g1
    refine hb F M1 M1 H1 σ _ s1.now (k.bind.imp (fun y _ k v M2 H2 s2 => ?_) fun c z M2 H2 s2 => z M2 H2 (s1.ago s2))
    obtain ⟨z, ez, k⟩ := k.bind.ofO
    have mm := s2.mm
    have s3 := s1.ago s2.front
    obtain ⟨as, o⟩ := s2.head
    rw [he y] at o
    obtain ⟨q, ws, r, rfl, _, hq, ow⟩ := o
    rw [map_imm] at ow
    have r2 := (Owns.of_imm ow).1
    unfold catO at ez
    by_cases hc : xs.length + (g y).length ≤ 16777216
    · rw [if_pos hc] at ez
      cases ez
      refine ⟨p, q, vs, ws, rfl, rfl, s3.mh _ _ (mm _ _ hp), hq, ?_, new_list (.refl s3.mh) (ds := xs.map ei ++ (g y).map ei) ((Reps.mono mm _ _ r1).app r2) ?_⟩
      · rw [r1.len, r2.len, List.length_map, List.length_map, sizeLine_eq]; exact hc
      · rw [← List.map_append, ← map_imm]
        intro v' M' H' as' g' o' nd fr
        exact k v' M' H' (s3.cons g' o' nd fr)
    · rw [if_neg hc] at ez; cases ez) fun c z M' H' g => z M' H' (s.grow g))⟩
/-! tests that change slots -/
abbrev DWX (X : Cx) (W : WX) (Γ : List Sl) (e : Expr) {β : Type} (Γ' : β → List Sl) (m : R (Bool × β)) : Prop :=
  JQ X Γ (wW X e) fun F M0 M H σ Q => Po m (fun x => ∀ M' H', S X.G F M0 M' H' σ (Γ' x.2) → Q x.1 H') (fun c => ∀ M' H', S X.G F M0 M' H' σ Γ → Er X.G W c σ H')
abbrev DTX (X : Cx) (W : WX) (Γ : List Sl) (e : Expr) {β : Type} (Γ' : β → List Sl) (m : R (Bool × β)) : Prop :=
  JQ X Γ (wT X e) fun F M0 M H σ Q => Po m (fun x => ∀ M' H', S X.G F M0 M' H' σ (Γ' x.2) → Q x.1 H') (fun c => ∀ M' H', S X.G F M0 M' H' σ Γ → Er X.G W c σ H')
theorem dtx_dwx {Γ' : β → List Sl} {m : R (Bool × β)} (h : DWX X W Γ e Γ' m) : DTX X W Γ e Γ' m := by
  have p := pw_w X e; have q := h
  exact tmk ⟨_, p.pt, q⟩
theorem dwx_or {m : R Bool} {n : R (Bool × β)} {rest : List Expr} {Γ' : β → List Sl} {Γ2 : Option β → List Sl} (h : DT X W Γ a m) (k : DWX X W Γ (.BoolOp .Or (b :: rest) pos) Γ' n) (h0 : Γ2 none = Γ := by rfl) (h1 : ∀ y, Γ2 (some y) = Γ' y := by intro _; rfl) : DWX X W Γ (.BoolOp .Or (a :: b :: rest) pos) Γ2 (m >>= fun x => if x then .ok (true, none) else n >>= fun p => .ok (p.1, some p.2)) := by
  have p := pt_w X a; have q := h
  have p' := pw_w X (.BoolOp .Or (b :: rest) pos); have q' := k
  refine wmk ⟨_, pw_or p p', fun F M0 M H σ Q s po => q F M0 M H σ _ s (po.bind.imp (fun x _ k M' H' g => ?_) fun c z M' H' g => z M' H' (s.grow g))⟩
  cases x with
  | false => exact q' F M0 M' H' σ _ (s.grow g) (Po.imp (Po.bind k) (fun y _ z M2 H2 s2 => z M2 H2 (by show S _ _ _ _ _ _ (Γ2 (some y.2)); rw [h1]; exact s2)) fun c z M2 H2 s2 => z M2 H2 s2)
  | true => exact k M' H' (by show S _ _ _ _ _ _ (Γ2 none); rw [h0]; exact s.grow g)
theorem bk_ifDX {ω : Type} {A rest : List Stmt} {κ : ω → Kd} {Γ' : β → List Sl} {mc : R (Bool × β)} {mA mB : β → R ω} (hc : DTX X W Γ c Γ' mc) (ha : ∀ y, Bk X W Γe (Γ' y) A (fun o => (κ o).ex) (mA y)) (hb : ∀ y, Bk X W Γe (Γ' y) rest κ (mB y)) (hw : Wk Γe Γ) :
    Bk X W Γe Γ (.If c A [] pos :: rest) κ (mc >>= fun p => if p.1 then mA p.2 else mB p.2) :=
  bmk ⟨_, pss_cons (ps_if (pt_w X c) (pss_w X A) pss_nil) (pss_w X rest), fun F M0 M H σ D s po => hc F M0 M H σ _ s (po.bind.imp (fun x _ q M' H' s' => by
    obtain ⟨b, y⟩ := x
    cases b with
    | true => exact ha y F M0 M' H' σ _ s' (Po.imp q (fun o _ q => ⟨fun Γ e => (nomatch e), fun t Γ e => Kn.rt q t Γ e, fun Γ e => Kn.bk q Γ e, fun Γ e => Kn.ct q Γ e⟩) fun _ z => z)
    | false => exact hb y F M0 M' H' σ D s' q) fun c z => er_wkS hw z)⟩
theorem dtx_ne {ema : α → T} {ea : α → D} {eb : γ → D} {Γ' : α → List Sl} {ma : R α} {mb : R γ} {b0 : γ} (hu : X.A.units + 64 < cLine) (ha : DX X W Γ a Γ' ema ma) (hfz : ∀ x, fz (ema x) = ea x) (hb : ∀ x, DE X W (Γ' x) b eb mb) (hm : mb = .ok b0 := by rfl) :
    DTX X W Γ (.Compare a [.NotEq] [b] pos) Γ' (ma >>= fun x => ofO ((eqO (ea x) (eb b0)).map (true != ·)) >>= fun c => .ok (c, x)) := by
  subst hm
  refine tmk ⟨_, pt_cmpR (op_neD hu) (pe_w X a) (pe_w X b) (nomark _), fun F M0 M H σ Q s po => ha F M0 M H σ _ s (po.bind.imp (fun x _ k v M1 H1 s1 => ?_) fun _ z => z)⟩
  obtain ⟨as, o⟩ := s1.head
  have mh : Same M1 H1 := by obtain ⟨_, f, _⟩ := s1; exact f.mh
  refine hb x F M0 M1 H1 σ _ s1.front (fun w M2 H2 g2 p2 => ?_)
  obtain ⟨z, e, k⟩ := (Po.bind k).ofO
  cases q : eqO (ea x) (eb b0) with
  | none => rw [q] at e; cases e
  | some k' =>
    rw [q] at e
    cases e
    obtain ⟨e1, e2, rfl⟩ := eqO_some q
    refine ⟨_, _, ?_, p2 H2 (.refl _) (SeqAt.canLay_of_shaped e2), e1, e2, _, rfl, ?_⟩
    · have r := Own.freeze (M' := H1) mh _ _ _ (fun a _ o e => e) o
      rw [hfz] at r
      exact Rep.dp (G := X.G) g2.hh _ _ (SeqAt.canLay_of_shaped e1) r
    · have : Q (true != PyData.eqv (toPy (ea x)) (toPy (eb b0))) H2 := k M2 H2 (s1.front.grow g2)
      rw [Bool.true_bne] at this
      exact this
theorem dwx_one {Γ' : β → List Sl} {m : R (Bool × β)} (h : DTX X W Γ e Γ' m) : DWX X W Γ (.BoolOp .Or [e] pos) Γ' m := by
  have p := pt_w X e; have q := h
  exact wmk ⟨_, pw_or1 p, q⟩
end
end Cn
/-! CnN: methods of objects just made -/
namespace Cn
open PySem PySem.Spec L2 PyProof.Rows
section
variable {X : Cx} {W : WX} {Γe Γ : List Sl} {a b e c : Expr} {es : List Expr} {α β γ ρ ξ : Type} {pos : Pos}
theorem nd_one (i : Nat) : [i].Nodup := by simp
theorem agvs_dt {G : Ctx} {M H : Hp} {σ : L2.St} : ∀ {ds : List D} {vs : List V}, Reps G M ds vs → AgVs G M H σ (ds.map .dt) vs
  | [], vs, h => h
  | d :: ds, vs, ⟨v, r, h1, h2, h3⟩ => ⟨v, r, h1, h2, agvs_dt h3⟩
theorem agok_dt {Γ : List Sl} : ∀ {ds : List D}, AgOk Γ (ds.map .dt)
  | [] => trivial
  | _ :: ds => agok_dt (ds := ds)
theorem agsl_dt : ∀ {ds : List D}, agSlots (ds.map .dt) = []
  | [] => rfl
  | _ :: ds => agsl_dt (ds := ds)
theorem putb_dt {Γ : List Sl} {us : List T} : ∀ {ds : List D}, putBack Γ (ds.map .dt) us = Γ
  | [] => rfl
  | _ :: ds => putb_dt (ds := ds)
/-- C(..).m(e, ..) with an object that is dropped behind it -/
theorem df_newMeth {k : Nat} {f C : Addr} {fd : FuncData} {ps : List Str} {n mt : Str} {apos : Pos} {o : Expr} {fs : List Str} {ts : β → List T} {eb : β → T} {mo : R β} {args : α → List Ar} {er : ρ → T} {post : ρ → List T} {g : α → R ρ} {ds : ξ → List D} {m : R ξ}
    (cv : β → ξ → α) (Fk : FnOk X.prog X.w X.K X.mg X.base (L2.CX X.prog X.w) k f fd ps (SpG X.G args er post g)) (hr : Room k X.A) (cf : ClF X n C) (hm : Meth X.K C mt f) (hb : Binds X.K fd ps [])
    (tk : Takes X W) (ho : ∀ Γ, DX X W Γ o (fun _ => Γ) eb mo) (ha : DA X W Γ (e :: es) ds m) (hcv : ∀ x y, args (cv x y) = .tr (eb x) :: (ds y).map .dt := by intro _ _; rfl) (hps : ∀ r, ∃ u us, post r = u :: us := by intro _; exact ⟨_, _, rfl⟩)
    (hob : ∀ y, eb y = .obj n fs (ts y) := by intro _; rfl) (hf : fs.contains mt = false := by decide)
    (he : starEach (e :: es) X.env = (false, eval e X.env) :: starEach es X.env := by exact star_cons rfl) (hpl : (backTo pos (starEach es X.env)).any (·.1) = false := by exact star_none rfl)
    (pl : Sem Bool) (hev : eval (.Call (.Attribute o mt apos) (e :: es) [] pos) X.env = (do
      let ov ← eval o X.env
      standAt apos.atName
      let (f, first) ← holding [ov] (getMethod ov mt pl)
      callWith pos f first (backTo pos (starEach (e :: es) X.env)) (backToKw pos (keywordEach [] X.env))) := by rfl) :
    DF X W Γ (.Call (.Attribute o mt apos) (e :: es) [] pos) (fun r => er r) (mo >>= fun x => m >>= fun y => g (cv x y)) :=
  dmk ⟨_, pe_methP (pl := pl) (pe_w X o) cf.c hm Fk hr hb (fun σ => passAt tk σ) (pa_w X (e :: es)) he hpl hev, fun F M0 M H σ Q s po =>
    ho (List.replicate σ.length .un) H M M H σ _ ⟨[], ⟨.refl _, .refl _, s.mh, fun _ z => .inl z, List.nodup_nil, (fun _ z => nomatch z), (fun _ z => nomatch z)⟩, sat_un σ⟩ (po.bind.imp (fun x _ q v M1 H1 sx => by
    obtain ⟨as1, o1⟩ := sx.head
    rw [hob] at o1
    obtain ⟨ad, c0, dx, kvs, r, rfl, q2, q3, q4, q5, q6⟩ := o1
    have z3 : X.mg n = some (.ref c0) := q3
    rw [cf.g] at z3
    cases z3
    have g1 : Gr M H M1 H1 := by
      obtain ⟨as, f, _⟩ := sx
      exact ⟨f.fh, f.mm, f.mh, f.nw⟩
    refine ⟨ad, dx, kvs, rfl, q4, lookup_no (by rw [q5]; exact hf), ha F M0 M1 H1 σ _ (s.grow g1) (q.bind.imp (fun y _ q vs M2 H2 g2 av => ?_) fun c z M' H' g => z M' H' (g1.trans g))⟩
    have s2 := sx.grow g2
    have ok : AgOk (.ow (eb x) :: List.replicate σ.length .un) (Ag.pt 0 [] (.ow (eb x)) (eb x) (eb x) :: (ds y).map .dt) := ⟨rfl, rfl, rfl, agok_dt⟩
    have nd0 : (agSlots (Ag.pt 0 [] (.ow (eb x)) (eb x) (eb x) :: (ds y).map .dt)).Nodup := by
      show (0 :: agSlots ((ds y).map .dt)).Nodup
      rw [agsl_dt]; simp
    have ear : (Ag.pt 0 [] (.ow (eb x)) (eb x) (eb x) :: (ds y).map Ag.dt).map Ag.ar = args (cv x y) := by
      rw [hcv]
      show Ar.tr (eb x) :: ((ds y).map Ag.dt).map Ag.ar = _
      rw [List.map_map]; rfl
    obtain ⟨as, o, nd, ma, kk⟩ := s2.called (ags := .pt 0 [] (.ow (eb x)) (eb x) (eb x) :: (ds y).map .dt) (vs := .ref ad :: vs) ok nd0 ⟨.ref ad, vs, .ref ad, rfl, rfl, rfl, agvs_dt av⟩
    rw [ear] at o kk
    refine ⟨cv x y, M2, as, g2.mh, o, nd, ma, q.imp (fun r _ q v M' H' bs cs c ow os nw => ?_) fun c z M' H' cs ch os nw C hC => ?_⟩
    · have s3 := kk M' H' (post r) bs cs v (er r) c ow os nw
      obtain ⟨u, us, eu⟩ := hps r
      rw [eu] at s3
      have e2 : putBack (.ow (eb x) :: List.replicate σ.length .un) (Ag.pt 0 [] (.ow (eb x)) (eb x) (eb x) :: (ds y).map .dt) (u :: us) = .ow u :: List.replicate σ.length .un := putb_dt
      rw [e2] at s3
      obtain ⟨as', f, v', r', a1, a2, e1, e2, o, _⟩ := s3.second
      cases e1
      subst e2
      exact q v M' H' a1 ⟨f.fh, f.mm, f.mh, f.nw⟩ o (List.nodup_append.mp f.nd).1 fun a ha => ⟨f.fa a (List.mem_append_left _ ha), f.ma a (List.mem_append_left _ ha)⟩
    · have s3 := kk M' H' (trs (args (cv x y))) [] cs .non (.imm .non) ch ⟨rfl, rfl⟩ (by rw [fill_self]; exact os) nw
      obtain ⟨as', f, _⟩ := s3
      exact z M' H' ⟨f.fh, f.mm, f.mh, f.nw⟩ C hC) fun c z M' H' sx => z M' H' (by
    obtain ⟨as, f, _⟩ := sx
    exact ⟨f.fh, f.mm, f.mh, f.nw⟩))⟩
end
end Cn
/-! CnO: in of tuples, what is known not to be None, items of lists as targets, tests that change slots at their head -/
namespace Cn
open PySem PySem.Spec L2 PyProof.Rows
section
variable {X : Cx} {W : WX} {Γe Γ : List Sl} {a b e c tg : Expr} {es : List Expr} {α β γ ρ ξ : Type} {pos : Pos}
/-! in, of a tuple of ints -/
theorem dd_inT {m : R Int} {n : R (List Int)} (ha : DD X W Γ a D.int m) (hb : DD X W Γ b (fun xs => .tup (xs.map D.int)) n) (h1 : behindInMarks .In b = false := by rfl) : DD X W Γ (.Compare a [.In] [b] pos) D.bl (m >>= fun i => n >>= fun xs => .ok (decide (i ∈ xs))) :=
  dmk ⟨_, pe_cmpR op_in_seq (pe_w X a) (pe_w X b) h1, fun F M0 M H σ Q s po => ha F M0 M H σ _ s (po.bind.imp (fun i _ q v M1 H1 g r => hb F M0 M1 H1 σ _ (s.grow g) (q.bind.imp (fun xs _ k w M2 H2 g2 rw => by
    obtain ⟨p, vs, rfl, hq, r2⟩ := rw
    rw [show v = .int i from r]
    refine ⟨p, vs, rfl, .inr (same_sqt g2.mh hq), rfl, ?_, ?_⟩
    · rw [reps_ints r2]; exact flat_ints xs
    · rw [reps_ints r2]
      show Q (.bl (if false = true then _ else inV (.int i) (xs.map V.int))) H2
      rw [if_neg (by decide), inV_ints]
      exact k (.bl (decide (i ∈ xs))) M2 H2 (g.trans g2) rfl) fun c z M' H' g2 => z M' H' (g.trans g2))) fun _ z => z)⟩
theorem dd_ninT {m : R Int} {n : R (List Int)} (ha : DD X W Γ a D.int m) (hb : DD X W Γ b (fun xs => .tup (xs.map D.int)) n) (h1 : behindInMarks .NotIn b = false := by rfl) : DD X W Γ (.Compare a [.NotIn] [b] pos) D.bl (m >>= fun i => n >>= fun xs => .ok (!decide (i ∈ xs))) :=
  dmk ⟨_, pe_cmpR op_notIn_seq (pe_w X a) (pe_w X b) h1, fun F M0 M H σ Q s po => ha F M0 M H σ _ s (po.bind.imp (fun i _ q v M1 H1 g r => hb F M0 M1 H1 σ _ (s.grow g) (q.bind.imp (fun xs _ k w M2 H2 g2 rw => by
    obtain ⟨p, vs, rfl, hq, r2⟩ := rw
    rw [show v = .int i from r]
    refine ⟨p, vs, rfl, .inr (same_sqt g2.mh hq), rfl, ?_, ?_⟩
    · rw [reps_ints r2]; exact flat_ints xs
    · rw [reps_ints r2]
      show Q (.bl (if true = true then !inV (.int i) (xs.map V.int) else _)) H2
      rw [if_pos rfl, inV_ints]
      exact k (.bl (!decide (i ∈ xs))) M2 H2 (g.trans g2) rfl) fun c z M' H' g2 => z M' H' (g.trans g2))) fun _ z => z)⟩
theorem dt_inT {m : R Int} {n : R (List Int)} (ha : DD X W Γ a D.int m) (hb : DD X W Γ b (fun xs => .tup (xs.map D.int)) n) (h1 : behindInMarks .In b = false := by rfl) : DT X W Γ (.Compare a [.In] [b] pos) (m >>= fun i => n >>= fun xs => .ok (decide (i ∈ xs))) :=
  tmk ⟨_, pt_cmpR op_in_seq (pe_w X a) (pe_w X b) h1, fun F M0 M H σ Q s po => ha F M0 M H σ _ s (po.bind.imp (fun i _ q v M1 H1 g r => hb F M0 M1 H1 σ _ (s.grow g) (q.bind.imp (fun xs _ k w M2 H2 g2 rw => by
    obtain ⟨p, vs, rfl, hq, r2⟩ := rw
    rw [show v = .int i from r]
    refine ⟨p, vs, rfl, .inr (same_sqt g2.mh hq), rfl, ?_, decide (i ∈ xs), ?_, k M2 H2 (g.trans g2)⟩
    · rw [reps_ints r2]; exact flat_ints xs
    · rw [reps_ints r2]
      show V.bl (if false = true then _ else inV (.int i) (xs.map V.int)) = _
      rw [if_neg (by decide), inV_ints]) fun c z M' H' g2 => z M' H' (g.trans g2))) fun _ z => z)⟩
theorem dt_ninT {m : R Int} {n : R (List Int)} (ha : DD X W Γ a D.int m) (hb : DD X W Γ b (fun xs => .tup (xs.map D.int)) n) (h1 : behindInMarks .NotIn b = false := by rfl) : DT X W Γ (.Compare a [.NotIn] [b] pos) (m >>= fun i => n >>= fun xs => .ok (!decide (i ∈ xs))) :=
  tmk ⟨_, pt_cmpR op_notIn_seq (pe_w X a) (pe_w X b) h1, fun F M0 M H σ Q s po => ha F M0 M H σ _ s (po.bind.imp (fun i _ q v M1 H1 g r => hb F M0 M1 H1 σ _ (s.grow g) (q.bind.imp (fun xs _ k w M2 H2 g2 rw => by
    obtain ⟨p, vs, rfl, hq, r2⟩ := rw
    rw [show v = .int i from r]
    refine ⟨p, vs, rfl, .inr (same_sqt g2.mh hq), rfl, ?_, !decide (i ∈ xs), ?_, k M2 H2 (g.trans g2)⟩
    · rw [reps_ints r2]; exact flat_ints xs
    · rw [reps_ints r2]
      show V.bl (if true = true then !inV (.int i) (xs.map V.int) else _) = _
      rw [if_pos rfl, inV_ints]) fun c z M' H' g2 => z M' H' (g.trans g2))) fun _ z => z)⟩
theorem opt_imm (e : α → D) (x : Option α) : T.imm (eOpt e x) = eOptT (fun x => .imm (e x)) x := by cases x <;> rfl
/-! what is known not to be None -/
theorem df_the {emb : α → T} {m : R (Option α)} (h : DF X W Γ e (eOptT emb) m) : DF X W Γ e emb (m >>= fun o => optK o .bad .ok) := ⟨fun F M0 M H σ Q s po => h F M0 M H σ Q s (po.bind.imp (fun o _ k => by
  cases o with
  | none => exact k.elim
  | some x => exact k) fun _ z => z)⟩
theorem dd_the {emb : α → D} {m : R (Option α)} (h : DD X W Γ e (eOpt emb) m) : DD X W Γ e emb (m >>= fun o => optK o .bad .ok) := ⟨fun F M0 M H σ Q s po => h F M0 M H σ Q s (po.bind.imp (fun o _ k => by
  cases o with
  | none => exact k.elim
  | some x => exact k) fun _ z => z)⟩
/-! an item of a list as a target; the place is written out -/
theorem dgx_ixc {xs ys : List Int} {x j : Int} {n : Str} {p ps pc : Pos} {jc} (i : Nat) (h : Γ[i]? = some (.ow (.lst (xs.map fun x => .imm (.int x))))) (hs : setO xs j x = some ys) (hN : X.N[i]? = some n := by rfl) (hv : Vis X.env.scope n := by first | exact Or.inl rfl | exact Or.inr (Or.inl rfl) | exact Or.inr (Or.inr rfl))
    (hd : (n == ("__debug__" : Str)) = false := by decide) (hcd : (n == ("__classdict__" : Str)) = false := by decide)
    (ha : ∀ v, assign (.Subscript (.Name n p) (.Constant (.int j) jc pc) ps) X.env v = (do
      let ov ← holding [v] (eval (.Name n p) X.env)
      let iv ← holding [v, ov] (eval (.Constant (.int j) jc pc) X.env)
      standAt ps
      holding [v, ov, iv] (setItem ov iv v)
      release [v, ov, iv] []) := by intro _; rfl) :
    DGX X Γ (.Subscript (.Name n p) (.Constant (.int j) jc pc) ps) (Γ.set i (.ow (.lst (ys.map fun x => .imm (.int x))))) (.imm (.int x)) :=
  ⟨_, pg_sub (pe_var hN hv hd hcd) pe_int set_list ha, fun F M0 M H σ v vs ts Q hlen s q => by
    rw [own_is] at h
    have h' : (ts.map Sl.ow ++ Γ)[ts.length + i]? = some (.ow (.lst ((xs.map D.int).map .imm))) := by rw [List.getElem?_append_right (by rw [List.length_map]; omega), List.length_map, Nat.add_sub_cancel_left]; exact h
    obtain ⟨as, o⟩ := s.head
    have rv : Rep X.G M (.int x) v := o.2
    obtain ⟨a, ws, h1, h2, h3, h4⟩ := s.front.lset h'
    have e1 : σ[i]? = some (some (.ref a)) := by
      rw [List.getElem?_append_right (by rw [List.length_map]; omega), List.length_map, hlen, Nat.add_sub_cancel_left] at h1
      exact h1
    refine ⟨_, e1, ?_⟩
    unfold setO at hs
    cases qi : ixN xs.length j with
    | none => rw [qi] at hs; cases hs
    | some l =>
      rw [qi] at hs
      cases hs
      refine ⟨a, ws, j, l, rfl, rfl, h2, by rw [h3.len, List.length_map]; exact qi, ?_⟩
      have s2 := h4 M H (ws.set l v) ((xs.map D.int).set l (.int x)) (.refl s.mh) (Reps.set rv l h3)
      rw [List.set_append_right _ _ (by rw [List.length_map]; omega), List.length_map, Nat.add_sub_cancel_left] at s2
      refine q M _ σ ?_
      rw [own_is, List.map_set (l := xs)]
      exact s2⟩
/-- tg1, tg2 = e1, e2, where the stores may fail -/
theorem st_tupC {tgs es : List Expr} {put : β → List Sl} {ets : α → List T} {m : R α} {ck : α → Option β} {k k2 : _} {pt pt2 : Pos} (hc : X.calm = true) (ha : DAF X W Γ es ets m) (hg : ∀ x z, ck x = some z → DGXs X Γ tgs (put z) (ets x)) (hw : Wk Γe Γ) (hn : ∀ x, (ets x).length = (assignEach tgs X.env).length := by intro _; rfl) (hz : ∀ x, Nat.ble (ets x).length 100000 = true := by intro _; rfl) (hst : (assignEach tgs X.env).findIdx? (·.1) = none := by rfl)
    (hs : swapsWithSole [.Tuple tgs k pt] (.Tuple es k2 pt2) pos.line X.env = pure false := by rfl) (hsw : swappedStores [.Tuple tgs k pt] (.Tuple es k2 pt2) X.env = pure none := by rfl)
    (h1 : (assignEach [.Tuple tgs k pt] X.env).map (·.2) = [assign (.Tuple tgs k pt) X.env] := by rfl) : St1 X W Γe Γ (.Assign [.Tuple tgs k pt] (.Tuple es k2 pt2) pos) (fun z => .n (put z)) (m >>= fun x => ofO (ck x)) := by
  cases m with
  | bad => exact ⟨fun F M0 M H σ D st po => po.elim⟩
  | err c =>
    exact smk ⟨_, ps_asg (pe_tup (pa_w X es)) (pg_w X (.Tuple tgs k pt)) hs hsw h1, fun F M0 M H σ D st po => ha F M0 M H σ _ st (show Po (R.err c) _ _ from fun M' H' g => er_wk st hw po M' H' g)⟩
  | ok x =>
    cases ec : ck x with
    | none => exact ⟨fun F M0 M H σ D st po => by
        have po : Po (ofO (ck x)) _ _ := po
        rw [ec] at po
        exact po.elim⟩
    | some z =>
      obtain ⟨g, pg, hgr⟩ := hg x z ec
      refine smk ⟨_, ps_asg (pe_tup (pa_w X es)) (pg_tup hc pg rfl hst) hs hsw h1, fun F M0 M H σ D st po => ha F M0 M H σ _ st (show Po (R.ok x) _ _ from fun vs M1 H1 as g1 o nd fr => ?_)⟩
      have po : Po (ofO (ck x)) _ _ := po
      rw [ec] at po
      have th : ∀ b ∈ as, H1 b ≠ none := Owns.there _ _ _ o
      refine ⟨by rw [o.len]; exact small_len (Nat.le_of_ble_eq_true (hz x)), fun p hp => ?_⟩
      have mp : M1 p = none := by
        cases e : M1 p with
        | none => rfl
        | some u => rw [g1.mh p u e] at hp; cases hp
      have gp : Gr M1 H1 M1 (upd H1 p (.tup vs)) := ⟨fun b u e => by rw [upd_ne (ne_of_none e hp)]; exact e, .refl _, fun b u e => by rw [upd_ne (ne_of_none e mp)]; exact g1.mh b u e, fun _ z => .inl z⟩
      have s2 := (st.conss g1 o nd fr).grow gp
      exact ⟨p, vs, rfl, .inl (.inl upd_same), by rw [o.len, hn], hgr F M0 M1 _ σ vs _ o.len s2 fun M2 H2 σ2 s3 => Kn.nx po _ rfl M2 H2 σ2 s3⟩
/-! a test whose first part changes slots -/
theorem dwx_orX {m : R (Bool × β)} {n : β → R Bool} {rest : List Expr} {Γ' : β → List Sl} (h : DTX X W Γ a Γ' m) (k : ∀ y, DW X W (Γ' y) (.BoolOp .Or (b :: rest) pos) (n y)) : DWX X W Γ (.BoolOp .Or (a :: b :: rest) pos) Γ' (m >>= fun p => if p.1 then .ok (true, p.2) else noErr (n p.2) >>= fun c => .ok (c, p.2)) := by
  have p := pt_w X a; have q := h
  have p' := pw_w X (.BoolOp .Or (b :: rest) pos)
  refine wmk ⟨_, pw_or p p', fun F M0 M H σ Q s po => q F M0 M H σ _ s (po.bind.imp (fun x _ z M' H' s' => ?_) fun c z M' H' s' => z M' H' s')⟩
  obtain ⟨t, y⟩ := x
  cases t with
  | false =>
    have z : Po (noErr (n y) >>= fun c => .ok (c, y)) _ _ := z
    exact k y F M0 M' H' σ _ s' (z.bind.noErr.imp (fun c _ z M2 H2 g2 => z M2 H2 (s'.grow g2)) fun _ z => z.elim)
  | true => exact z M' H' s'
/-! == and and, as values -/
theorem dx_eq {ema : α → T} {ea : α → D} {eb : γ → D} {Γ' : α → List Sl} {ma : R α} {mb : R γ} {b0 : γ} (hu : X.A.units + 64 < cLine) (ha : DX X W Γ a Γ' ema ma) (hfz : ∀ x, fz (ema x) = ea x) (hb : ∀ x, DE X W (Γ' x) b eb mb) (hm : mb = .ok b0 := by rfl) :
    DX X W Γ (.Compare a [.Eq] [b] pos) (fun r : α × Bool => Γ' r.1) (fun r : α × Bool => .imm (.bl r.2)) (ma >>= fun x => ofO ((eqO (ea x) (eb b0)).map (false != ·)) >>= fun c => .ok (x, c)) := by
  subst hm
  refine dmk ⟨_, pe_cmpR (op_eqD hu) (pe_w X a) (pe_w X b) (nomark _), fun F M0 M H σ Q s po => ha F M0 M H σ _ s (po.bind.imp (fun x _ k v M1 H1 s1 => ?_) fun _ z => z)⟩
  obtain ⟨as, o⟩ := s1.head
  have mh : Same M1 H1 := by obtain ⟨_, f, _⟩ := s1; exact f.mh
  refine hb x F M0 M1 H1 σ _ s1.front (fun w M2 H2 g2 p2 => ?_)
  obtain ⟨z, e, k⟩ := (Po.bind k).ofO
  cases q : eqO (ea x) (eb b0) with
  | none => rw [q] at e; cases e
  | some k' =>
    rw [q] at e
    cases e
    obtain ⟨e1, e2, rfl⟩ := eqO_some q
    refine ⟨_, _, ?_, p2 H2 (.refl _) (SeqAt.canLay_of_shaped e2), e1, e2, ?_⟩
    · have r := Own.freeze (M' := H1) mh _ _ _ (fun a _ o e => e) o
      rw [hfz] at r
      exact Rep.dp (G := X.G) g2.hh _ _ (SeqAt.canLay_of_shaped e1) r
    · exact k _ M2 H2 ((s1.front.grow g2).consD (by
        show V.bl (PyData.eqv (toPy (ea x)) (toPy (eb b0))) = V.bl (false != PyData.eqv (toPy (ea x)) (toPy (eb b0)))
        rw [Bool.false_bne]))
theorem dx_and {ma : R (α × Bool)} {Γ' : α → List Sl} {n : α → R Bool} {rest : List Expr} (h : DX X W Γ a (fun r : α × Bool => Γ' r.1) (fun r : α × Bool => .imm (.bl r.2)) ma) (k : ∀ y, DD X W (Γ' y) (.BoolOp .And (b :: rest) pos) D.bl (n y)) :
    DX X W Γ (.BoolOp .And (a :: b :: rest) pos) (fun r : α × Bool => Γ' r.1) (fun r : α × Bool => .imm (.bl r.2)) (ma >>= fun r => (if r.2 then noErr (n r.1) else .ok false) >>= fun c => .ok (r.1, c)) := by
  have p := pe_w X a; have q := h
  have p' := pe_w X (.BoolOp .And (b :: rest) pos)
  refine dmk ⟨_, pe_and p p', fun F M0 M H σ Q s po => q F M0 M H σ _ s (po.bind.imp (fun x _ z v M' H' s' => ?_) fun _ z => z)⟩
  obtain ⟨y, t⟩ := x
  obtain ⟨as, o⟩ := s'.head
  refine ⟨t, o.2, ?_⟩
  cases t with
  | true =>
    have z : Po (noErr (n y) >>= fun c => .ok (y, c)) _ _ := z
    exact k y F M0 M' H' σ _ s'.front (z.bind.noErr.imp (fun c _ z v M2 H2 g2 r2 => z v M2 H2 ((s'.front.grow g2).consD r2)) fun _ z => z.elim)
  | false =>
    have ev : v = .bl false := o.2
    subst ev
    exact z _ M' H' s'
end
end Cn
/-! Cm: loops of the mirrors, in plain Lean -/
namespace Cn
open PySem PySem.Spec L2
theorem ofO_some {α : Type} {x : α} : ofO (some x) = .ok x := by
  have : ∀ o : Option α, o = some x → ofO o = .ok x := fun o h => by rw [h]; rfl
  exact this _ (Eq.refl _)
theorem forS_nil {α S : Type} {f : α → S → R S} {s : S} : forS f [] s = .ok s := rfl
theorem forS_cons {α S : Type} {f : α → S → R S} {x : α} {xs : List α} {s : S} : forS f (x :: xs) s = f x s >>= fun s => forS f xs s := rfl
theorem forS_ind {α S : Type} {f : α → S → R S} {xs : List α} {s : S} (I : Nat → S → Prop) (h0 : I 0 s) (h : ∀ i (hi : i < xs.length) s, I i s → ∃ s', f xs[i] s = .ok s' ∧ I (i + 1) s') : ∃ s', forS f xs s = .ok s' ∧ I xs.length s' := by
  induction xs generalizing s I with
  | nil => exact ⟨s, rfl, h0⟩
  | cons x xs ih =>
    obtain ⟨s1, e1, i1⟩ := h 0 (Nat.succ_pos _) s h0
    obtain ⟨s2, e2, i2⟩ := ih (s := s1) (fun i s => I (i + 1) s) i1 fun i hi s q => h (i + 1) (Nat.succ_lt_succ hi) s q
    refine ⟨s2, ?_, i2⟩
    show (f x s >>= fun s => forS f xs s) = _
    rw [show f x s = .ok s1 from e1]
    exact e2
/-- .. each round leaves the loop going -/
theorem forX_ind {α S ω : Type} {f : α → S → R (Lo S ω)} {xs : List α} {s : S} (I : Nat → S → Prop) (h0 : I 0 s) (h : ∀ i (hi : i < xs.length) s, I i s → ∃ s', f xs[i] s = .ok (.nx s') ∧ I (i + 1) s') : ∃ s', forX f xs s = .ok (.inl s') ∧ I xs.length s' := by
  induction xs generalizing s I with
  | nil => exact ⟨s, rfl, h0⟩
  | cons x xs ih =>
    obtain ⟨s1, e1, i1⟩ := h 0 (Nat.succ_pos _) s h0
    obtain ⟨s2, e2, i2⟩ := ih (s := s1) (fun i s => I (i + 1) s) i1 fun i hi s q => h (i + 1) (Nat.succ_lt_succ hi) s q
    refine ⟨s2, ?_, i2⟩
    show (f x s >>= _) = _
    rw [show f x s = .ok (.nx s1) from e1]
    exact e2
theorem forX_nx {α S ω : Type} {f : α → S → R (Lo S ω)} {xs : List α} {s : S} (h : ∀ x ∈ xs, f x s = .ok (.nx s)) : forX f xs s = .ok (.inl s) := by
  induction xs with
  | nil => rfl
  | cons x xs ih =>
    show (f x s >>= _) = _
    rw [h x List.mem_cons_self]
    exact ih fun y hy => h y (List.mem_cons_of_mem _ hy)
theorem whileS_ind {S : Type} {mc : S → R Bool} {mb : S → R S} {Q : S → Prop} (I : Nat → S → Prop) (h : ∀ n s, I n s → (mc s = .ok false ∧ Q s) ∨ (mc s = .ok true ∧ ∃ s' n', n' < n ∧ mb s = .ok s' ∧ I n' s')) {n : Nat} {s : S} (h0 : I n s) : ∃ s', whileS mc mb s = .ok s' ∧ Q s' := by
  induction n using Nat.strongRecOn generalizing s with
  | ind n ih =>
    rw [whileS_eq]
    rcases h n s h0 with ⟨e, q⟩ | ⟨e, s', n', l, e2, q⟩
    · rw [e]; exact ⟨s, rfl, q⟩
    · rw [e]
      show ∃ s2, (if true = true then (mb s >>= fun s => whileS mc mb s) else .ok s) = .ok s2 ∧ Q s2
      rw [if_pos rfl, e2]
      exact ih n' l q
theorem whileX_ind {S ω : Type} {mc : S → R Bool} {mb : S → R (Lo S ω)} {Q : S ⊕ ω → Prop} (I : Nat → S → Prop) (h : ∀ n s, I n s → (mc s = .ok false ∧ Q (.inl s)) ∨ (mc s = .ok true ∧ ((∃ s' n', n' < n ∧ mb s = .ok (.nx s') ∧ I n' s') ∨ (∃ s', mb s = .ok (.bk s') ∧ Q (.inl s')) ∨ ∃ o, mb s = .ok (.ex o) ∧ Q (.inr o)))) {n : Nat} {s : S} (h0 : I n s) : ∃ o, whileX mc mb s = .ok o ∧ Q o := by
  induction n using Nat.strongRecOn generalizing s with
  | ind n ih =>
    rw [whileX_eq]
    rcases h n s h0 with ⟨e, q⟩ | ⟨e, ⟨s', n', l, e2, q⟩ | ⟨s', e2, q⟩ | ⟨o, e2, q⟩⟩
    · rw [e]; exact ⟨_, rfl, q⟩
    · rw [e, bind_ok, if_pos rfl, e2, bind_ok]
      exact ih n' l q
    · rw [e, bind_ok, if_pos rfl, e2, bind_ok]
      exact ⟨_, rfl, q⟩
    · rw [e, bind_ok, if_pos rfl, e2, bind_ok]
      exact ⟨_, rfl, q⟩
theorem forS_to {α S T : Type} {f : α → S → R S} {xs : List α} {s : S} {k : S → R T} {r : R T} (I : Nat → S → Prop) (h0 : I 0 s) (h : ∀ i (hi : i < xs.length) s, I i s → ∃ s', f xs[i] s = .ok s' ∧ I (i + 1) s') (hk : ∀ s, I xs.length s → k s = r) : (forS f xs s >>= k) = r := by
  obtain ⟨s', e, i⟩ := forS_ind I h0 h
  rw [e, bind_ok]
  exact hk s' i
theorem forX_to {α S T ω : Type} {f : α → S → R (Lo S ω)} {xs : List α} {s : S} {k : S ⊕ ω → R T} {r : R T} (I : Nat → S → Prop) (h0 : I 0 s) (h : ∀ i (hi : i < xs.length) s, I i s → ∃ s', f xs[i] s = .ok (.nx s') ∧ I (i + 1) s') (hk : ∀ s, I xs.length s → k (.inl s) = r) : (forX f xs s >>= k) = r := by
  obtain ⟨s', e, i⟩ := forX_ind I h0 h
  rw [e, bind_ok]
  exact hk s' i
/-- a loop that changes nothing and leaves for no item -/
theorem forX_pass {α S T ω : Type} {f : α → S → R (Lo S ω)} {xs : List α} {s : S} {k : S ⊕ ω → R T} {r : R T} (h : ∀ x ∈ xs, f x s = .ok (.nx s)) (hk : k (.inl s) = r) : (forX f xs s >>= k) = r := by
  rw [forX_nx h, bind_ok]
  exact hk
theorem whileS_to {S T : Type} {mc : S → R Bool} {mb : S → R S} {k : S → R T} {r : R T} (I : Nat → S → Prop) (n : Nat) {s : S} (h0 : I n s) (h : ∀ n s, I n s → (mc s = .ok false ∧ k s = r) ∨ (mc s = .ok true ∧ ∃ s' n', n' < n ∧ mb s = .ok s' ∧ I n' s')) : (whileS mc mb s >>= k) = r := by
  obtain ⟨s', e, i⟩ := whileS_ind (Q := fun s => k s = r) I h h0
  rw [e, bind_ok]
  exact i
theorem whileX_to {S T ω : Type} {mc : S → R Bool} {mb : S → R (Lo S ω)} {k : S ⊕ ω → R T} {r : R T} (I : Nat → S → Prop) (n : Nat) {s : S} (h0 : I n s) (h : ∀ n s, I n s → (mc s = .ok false ∧ k (.inl s) = r) ∨ (mc s = .ok true ∧ ((∃ s' n', n' < n ∧ mb s = .ok (.nx s') ∧ I n' s') ∨ (∃ s', mb s = .ok (.bk s') ∧ k (.inl s') = r) ∨ ∃ o, mb s = .ok (.ex o) ∧ k (.inr o) = r))) : (whileX mc mb s >>= k) = r := by
  obtain ⟨s', e, i⟩ := whileX_ind (Q := fun s => k s = r) I h h0
  rw [e, bind_ok]
  exact i
theorem forS_ex {α S T : Type} {f : α → S → R S} {xs : List α} {s : S} {k : S → R T} {Q : T → Prop} (I : Nat → S → Prop) (h0 : I 0 s) (h : ∀ i (hi : i < xs.length) s, I i s → ∃ s', f xs[i] s = .ok s' ∧ I (i + 1) s') (hk : ∀ s, I xs.length s → ∃ r, k s = .ok r ∧ Q r) : ∃ r, (forS f xs s >>= k) = .ok r ∧ Q r := by
  obtain ⟨s', e, i⟩ := forS_ind I h0 h
  rw [e, bind_ok]
  exact hk s' i
theorem irange_nat (n : Nat) : irange 0 (n : Int) = (List.range n).map fun i : Nat => (i : Int) := by
  unfold irange
  rw [show ((n : Int) - 0).toNat = n by omega]
  refine List.map_congr_left fun i _ => ?_
  omega
theorem irange_lenN (n : Nat) : (irange 0 (n : Int)).length = n := by rw [irange_len]; omega
theorem irange_ix {n : Nat} {i : Nat} (h : i < (irange 0 (n : Int)).length) : (irange 0 (n : Int))[i] = (i : Int) := by
  have := irange_get (List.getElem?_eq_getElem h)
  omega
theorem rangeO_nat {n : Nat} (h : n < 4611686018427387904) : rangeO 0 (n : Int) = some (irange 0 (n : Int)) := by
  unfold rangeO
  rw [if_pos (by rw [Bool.and_eq_true, small_iff, small_iff]; omega)]
theorem atI_nat' {α : Type} {xs : List α} {i : Nat} (h : i < xs.length) : atI xs (i : Int) = some xs[i] := by rw [L2.atI_nat (j := i) (List.getElem?_eq_getElem h)]
theorem modO_pos {i j : Int} (h : 0 < j) : modO i j = some (i % j) := by unfold modO; rw [if_pos h]
theorem divO_pos {i j : Int} (h : 0 < j) (h2 : j < 1073741824) : divO i j = some (i / j) := by unfold divO; rw [if_pos ⟨h, h2⟩]
theorem appO_ok {α : Type} {xs : List α} {x : α} (h : xs.length < 16777216) : appO xs x = some (xs ++ [x]) := by unfold appO; rw [if_pos h]
theorem shlO_ok {i : Int} {j : Nat} (h : 0 ≤ i) (h2 : i < 18446744073709551616) (hj : j ≤ 1000000) : shlO i (j : Int) = some (i * 2 ^ j) := by unfold shlO; rw [if_pos ⟨by omega, by omega, by omega⟩]; rfl
end Cn
/-! Ce: == of data, in plain Lean; slices, sums of lists -/
namespace Cn
open PySem PySem.Spec L2
/-- a kind of data whose == is plain equality -/
structure Eqd {α : Type} [DecidableEq α] (e : α → D) (P : α → Prop) (n : Nat) : Prop where
  can : ∀ x, P x → PyData.canLay0 (toPy (e x)) = true
  dep : ∀ x, PyData.depth (toPy (e x)) ≤ n
  eqv : ∀ x y, PyData.eqv (toPy (e x)) (toPy (e y)) = decide (x = y)
theorem eqd_int : Eqd D.int (fun _ => True) 0 := ⟨fun _ _ => rfl, fun _ => Nat.le_refl 0, fun x y => by
  show (x == y) = _
  rw [Bool.eq_iff_iff, beq_iff_eq, decide_eq_true_iff]⟩
theorem eqd_bl : Eqd D.bl (fun _ => True) 0 := ⟨fun _ _ => rfl, fun _ => Nat.le_refl 0, fun x y => by cases x <;> cases y <;> rfl⟩
theorem eqd_str : Eqd D.str (fun x => PyData.strOk x = true) 0 := ⟨fun _ h => h, fun _ => Nat.le_refl 0, fun x y => by
  show (x == y) = _
  rw [Bool.eq_iff_iff, beq_iff_eq, decide_eq_true_iff]⟩
section
variable {α : Type} [DecidableEq α] {e : α → D} {P : α → Prop} {n : Nat}
theorem all_can (h : Eqd e P n) : ∀ xs : List α, (∀ x ∈ xs, P x) → PyData.canLayAll0 (toPys (xs.map e)) = true
  | [], _ => rfl
  | x :: xs, hx => by
    show (PyData.canLay0 (toPy (e x)) && PyData.canLayAll0 (toPys (xs.map e))) = true
    rw [h.can x (hx x List.mem_cons_self), all_can h xs fun y hy => hx y (List.mem_cons_of_mem _ hy)]
    rfl
theorem all_dep (h : Eqd e P n) : ∀ xs : List α, PyData.depthAll (toPys (xs.map e)) ≤ n
  | [] => Nat.zero_le _
  | x :: xs => by
    show max (PyData.depth (toPy (e x))) (PyData.depthAll (toPys (xs.map e))) ≤ n
    exact Nat.max_le.mpr ⟨h.dep x, all_dep h xs⟩
theorem all_eqv (h : Eqd e P n) : ∀ xs ys : List α, PyData.eqvAll (toPys (xs.map e)) (toPys (ys.map e)) = decide (xs = ys)
  | [], [] => rfl
  | [], _ :: _ => rfl
  | _ :: _, [] => rfl
  | x :: xs, y :: ys => by
    show (PyData.eqv (toPy (e x)) (toPy (e y)) && PyData.eqvAll (toPys (xs.map e)) (toPys (ys.map e))) = _
    rw [h.eqv x y, all_eqv h xs ys, Bool.eq_iff_iff, Bool.and_eq_true, decide_eq_true_iff, decide_eq_true_iff, decide_eq_true_iff, List.cons.injEq]
theorem eqd_tup (h : Eqd e P n) : Eqd (fun xs : List α => D.tup (xs.map e)) (fun xs => ∀ x ∈ xs, P x) (n + 1) :=
  ⟨fun xs hx => all_can h xs hx, fun xs => Nat.succ_le_succ (all_dep h xs), fun xs ys => all_eqv h xs ys⟩
theorem eqd_lst (h : Eqd e P n) : Eqd (fun xs : List α => D.lst (xs.map e)) (fun xs => ∀ x ∈ xs, P x) (n + 1) :=
  ⟨fun xs hx => all_can h xs hx, fun xs => Nat.succ_le_succ (all_dep h xs), fun xs ys => all_eqv h xs ys⟩
end
section
variable {α β γ : Type} [DecidableEq α] [DecidableEq β] [DecidableEq γ] {e : α → D} {f : β → D} {g : γ → D} {P : α → Prop} {Q : β → Prop} {S : γ → Prop} {n : Nat}
theorem eqd_p2 (h1 : Eqd e P n) (h2 : Eqd f Q n) : Eqd (fun p : α × β => D.tup [e p.1, f p.2]) (fun p => P p.1 ∧ Q p.2) (n + 1) :=
  ⟨fun p hp => by
    show (PyData.canLay0 (toPy (e p.1)) && (PyData.canLay0 (toPy (f p.2)) && true)) = true
    rw [h1.can _ hp.1, h2.can _ hp.2]; rfl, fun p => by
    show max (PyData.depth (toPy (e p.1))) (max (PyData.depth (toPy (f p.2))) 0) + 1 ≤ n + 1
    have a := h1.dep p.1
    have b := h2.dep p.2
    omega, fun p q => by
    show (PyData.eqv (toPy (e p.1)) (toPy (e q.1)) && (PyData.eqv (toPy (f p.2)) (toPy (f q.2)) && true)) = _
    rw [h1.eqv, h2.eqv, Bool.eq_iff_iff]
    simp [Prod.ext_iff]⟩
theorem eqd_p3 (h1 : Eqd e P n) (h2 : Eqd f Q n) (h3 : Eqd g S n) : Eqd (fun p : α × β × γ => D.tup [e p.1, f p.2.1, g p.2.2]) (fun p => P p.1 ∧ Q p.2.1 ∧ S p.2.2) (n + 1) :=
  ⟨fun p hp => by
    show (PyData.canLay0 (toPy (e p.1)) && (PyData.canLay0 (toPy (f p.2.1)) && (PyData.canLay0 (toPy (g p.2.2)) && true))) = true
    rw [h1.can _ hp.1, h2.can _ hp.2.1, h3.can _ hp.2.2]; rfl, fun p => by
    show max (PyData.depth (toPy (e p.1))) (max (PyData.depth (toPy (f p.2.1))) (max (PyData.depth (toPy (g p.2.2))) 0)) + 1 ≤ n + 1
    have a := h1.dep p.1
    have b := h2.dep p.2.1
    have c := h3.dep p.2.2
    omega, fun p q => by
    show (PyData.eqv (toPy (e p.1)) (toPy (e q.1)) && (PyData.eqv (toPy (f p.2.1)) (toPy (f q.2.1)) && (PyData.eqv (toPy (g p.2.2)) (toPy (g q.2.2)) && true))) = _
    rw [h1.eqv, h2.eqv, h3.eqv, Bool.eq_iff_iff]
    simp [Prod.ext_iff]⟩
end
theorem Eqd.weak {α : Type} [DecidableEq α] {e : α → D} {P : α → Prop} {n m : Nat} (h : Eqd e P n) (l : n ≤ m) : Eqd e P m := ⟨h.can, fun x => Nat.le_trans (h.dep x) l, h.eqv⟩
theorem Eqd.eqO {α : Type} [DecidableEq α] {e : α → D} {P : α → Prop} {n : Nat} (h : Eqd e P n) (l : n ≤ 64) {x y : α} (hx : P x) (hy : P y) : Cn.eqO (e x) (e y) = some (decide (x = y)) := by
  unfold Cn.eqO SeqAt.shaped
  rw [h.can x hx, h.can y hy, decide_eq_true (Nat.le_trans (h.dep x) l), decide_eq_true (Nat.le_trans (h.dep y) l), h.eqv x y]
  rfl
theorem eqO_ints (xs ys : List Int) : eqO (.lst (xs.map D.int)) (.lst (ys.map D.int)) = some (decide (xs = ys)) := (eqd_lst eqd_int).eqO (by decide) (fun _ _ => trivial) (fun _ _ => trivial)
theorem eqO_tints (xs ys : List Int) : eqO (.tup (xs.map D.int)) (.tup (ys.map D.int)) = some (decide (xs = ys)) := (eqd_tup eqd_int).eqO (by decide) (fun _ _ => trivial) (fun _ _ => trivial)
/-! ### slices, sums of lists -/
section
variable {α β : Type}
theorem cut_to (xs : List α) (n : Nat) : cutL xs none (some (n : Int)) = xs.take n := by
  unfold cutL
  rw [HT.sIx_nat, HT.sIx_none, List.drop_zero, Nat.sub_zero]
  rcases Nat.le_total n xs.length with h | h
  · rw [Nat.min_eq_left h]
  · rw [Nat.min_eq_right h, List.take_of_length_le (Nat.le_refl _), List.take_of_length_le h]
theorem cut_from (xs : List α) (n : Nat) : cutL xs (some (n : Int)) none = xs.drop n := by
  unfold cutL
  rw [HT.sIx_nat, HT.sIx_none]
  rcases Nat.le_total n xs.length with h | h
  · rw [Nat.min_eq_left h, List.take_of_length_le (by rw [List.length_drop]; omega)]
  · rw [Nat.min_eq_right h, List.drop_of_length_le (Nat.le_refl _), List.drop_of_length_le h]; simp
theorem cut_mid (xs : List α) (m n : Nat) : cutL xs (some (m : Int)) (some (n : Int)) = (xs.take n).drop m := by
  unfold cutL
  rw [HT.sIx_nat, HT.sIx_nat, List.drop_take]
  rcases Nat.le_total m xs.length with h | h
  · rw [Nat.min_eq_left h]
    rcases Nat.le_total n xs.length with h2 | h2
    · rw [Nat.min_eq_left h2]
    · rw [Nat.min_eq_right h2, List.take_of_length_le (by rw [List.length_drop]; omega), List.take_of_length_le (by rw [List.length_drop]; omega)]
  · rw [Nat.min_eq_right h, List.drop_of_length_le (Nat.le_refl _), List.drop_of_length_le h]; simp
theorem cut_all (xs : List α) : cutL xs none none = xs := by
  unfold cutL
  rw [HT.sIx_none, HT.sIx_none, List.drop_zero, Nat.sub_zero, List.take_of_length_le (Nat.le_refl _)]
theorem catO_ok {xs ys : List α} (h : xs.length + ys.length ≤ 16777216) : catO xs ys = some (xs ++ ys) := if_pos h
theorem repO_one {x : α} {n : Nat} (h : n ≤ 16777216) : repO [x] (n : Int) = some (List.replicate n x) := by
  unfold repO
  rw [if_pos ⟨by omega, by omega, by rw [List.length_singleton, Int.toNat_natCast]; omega⟩, Int.toNat_natCast, List.flatten_replicate_singleton]
theorem repO_neg {x : α} {k : Int} (h : k ≤ 0) (h2 : -9223372036854775808 ≤ k) : repO [x] k = some [] := by
  unfold repO
  rw [if_pos ⟨by omega, by omega, by rw [show k.toNat = 0 by omega]; simp⟩, show k.toNat = 0 by omega]
  rfl
/-- a comprehension without a test whose items never stop -/
theorem lcR_map {c : α → R Bool} {f : α → R β} {g : α → β} : ∀ {xs : List α}, (∀ x ∈ xs, c x = .ok true) → (∀ x ∈ xs, f x = .ok (g x)) → lcR c f xs = .ok (xs.map g)
  | [], _, _ => rfl
  | x :: xs, hc, hf => by
    show (noErr (c x) >>= _) = _
    rw [hc x List.mem_cons_self]
    show (noErr (f x) >>= _) = _
    rw [hf x List.mem_cons_self]
    show (lcR c f xs >>= _) = _
    rw [lcR_map (fun y hy => hc y (List.mem_cons_of_mem _ hy)) fun y hy => hf y (List.mem_cons_of_mem _ hy)]
    rfl
theorem compR_map {c : α → R Bool} {f : α → R β} {xs : List α} (g : α → β) (h : xs.length ≤ 16777216) (hc : ∀ x ∈ xs, c x = .ok true) (hf : ∀ x ∈ xs, f x = .ok (g x)) : compR c f xs = .ok (xs.map g) := by
  unfold compR
  rw [if_pos h, lcR_map hc hf]
/-- .. with a test -/
theorem lcR_filter {c : α → R Bool} {f : α → R β} {p : α → Bool} {g : α → β} : ∀ {xs : List α}, (∀ x ∈ xs, c x = .ok (p x)) → (∀ x ∈ xs, p x = true → f x = .ok (g x)) → lcR c f xs = .ok ((xs.filter p).map g)
  | [], _, _ => rfl
  | x :: xs, hc, hf => by
    have ih := lcR_filter (c := c) (f := f) (p := p) (g := g) (xs := xs) (fun y hy => hc y (List.mem_cons_of_mem _ hy)) fun y hy => hf y (List.mem_cons_of_mem _ hy)
    show (noErr (c x) >>= _) = _
    rw [hc x List.mem_cons_self]
    cases e : p x with
    | false =>
      show lcR c f xs = _
      rw [ih, List.filter_cons_of_neg (by rw [e]; decide)]
    | true =>
      show (noErr (f x) >>= _) = _
      rw [hf x List.mem_cons_self e]
      show (lcR c f xs >>= _) = _
      rw [ih, List.filter_cons_of_pos e]
      rfl
theorem compR_filter {c : α → R Bool} {f : α → R β} {xs : List α} (p : α → Bool) (g : α → β) (h : xs.length ≤ 16777216) (hc : ∀ x ∈ xs, c x = .ok (p x)) (hf : ∀ x ∈ xs, p x = true → f x = .ok (g x)) : compR c f xs = .ok ((xs.filter p).map g) := by
  unfold compR
  rw [if_pos h, lcR_filter hc hf]
end
end Cn
/-! Gf: octets, as plain numbers -/
namespace Cn
open PySem PySem.Spec L2
theorem xor_m2 (a b : Nat) : (a ^^^ b) % 2 = (a + b) % 2 := by
  have e : (a ^^^ b) % 2 = 1 ↔ ¬(a % 2 = 1 ↔ b % 2 = 1) := Nat.xor_mod_two_eq_one
  by_cases p : a % 2 = 1 <;> by_cases q : b % 2 = 1
  · have : ¬ (a ^^^ b) % 2 = 1 := fun z => e.mp z (iff_of_true p q)
    omega
  · have : (a ^^^ b) % 2 = 1 := e.mpr fun z => q (z.mp p)
    omega
  · have : (a ^^^ b) % 2 = 1 := e.mpr fun z => p (z.mpr q)
    omega
  · have : ¬ (a ^^^ b) % 2 = 1 := fun z => e.mp z (iff_of_false p q)
    omega
theorem xor_and_add : ∀ (a b : Nat), (a ^^^ b) + 2 * (a &&& b) = a + b := by
  intro a
  induction a using Nat.strongRecOn with
  | ind a ih =>
    intro b
    by_cases h : a = 0
    · subst h; simp
    · have i := ih (a / 2) (by omega) (b / 2)
      have e1 : (a ^^^ b) / 2 = a / 2 ^^^ b / 2 := Nat.xor_div_two
      have e2 : (a &&& b) / 2 = a / 2 &&& b / 2 := Nat.and_div_two
      have e3 : (a ^^^ b) % 2 = (a + b) % 2 := xor_m2 a b
      have e4 : (a &&& b) % 2 = 1 ↔ a % 2 = 1 ∧ b % 2 = 1 := Nat.and_mod_two_eq_one
      by_cases p : a % 2 = 1 ∧ b % 2 = 1
      · have := e4.mpr p; omega
      · have : ¬ (a &&& b) % 2 = 1 := fun z => p (e4.mp z)
        omega
theorem band_nat (a b : Nat) : Builtin.bitAnd (a : Int) (b : Int) = ((a &&& b : Nat) : Int) := by
  unfold Builtin.bitAnd
  rw [decide_eq_true (Int.natCast_nonneg a), decide_eq_true (Int.natCast_nonneg b)]
  rfl
theorem bx (a b : Nat) : Builtin.bitXor (a : Int) (b : Int) = ((a ^^^ b : Nat) : Int) := by
  rw [PyProof.Rows.bitXor_and, band_nat]
  have := xor_and_add a b
  omega
/-! ### times x, times -/
def xt (a : Nat) : Nat := bif Nat.ble 128 a then (2 * a) ^^^ 285 else 2 * a
def mulN : Nat → Nat → Nat → Nat → Nat
  | 0, _, _, p => p
  | k + 1, a, b, p => mulN k (xt a) (b / 2) (bif b % 2 == 1 then p ^^^ a else p)
def gm (a b : Nat) : Nat := mulN 8 a b 0
def allB (n : Nat) (p : Nat → Bool) : Bool := Nat.rec true (fun k r => p k && r) n
theorem allB_of {p : Nat → Bool} : ∀ {n : Nat}, allB n p = true → ∀ k, k < n → p k = true
  | 0, _, k, hk => absurd hk (Nat.not_lt_zero _)
  | n + 1, h, k, hk => by
    have h : (p n && allB n p) = true := h
    rw [Bool.and_eq_true] at h
    rcases Nat.lt_succ_iff_lt_or_eq.mp hk with z | z
    · exact allB_of h.2 k z
    · subst z; exact h.1
theorem xt_lt {a : Nat} (h : a < 256) : xt a < 256 := by
  have := allB_of (p := fun a => Nat.blt (xt a) 256) (n := 256) (by decide +kernel) a h
  exact Nat.le_of_ble_eq_true this
theorem xt_xor {a b : Nat} (h : a < 256) (hb : b < 256) : xt (a ^^^ b) = xt a ^^^ xt b := by
  have := allB_of (allB_of (p := fun a => allB 256 fun b => xt (a ^^^ b) == xt a ^^^ xt b) (n := 256) (by decide +kernel) a h) b hb
  exact eq_of_beq this
theorem x_lt {a b : Nat} (h : a < 256) (hb : b < 256) : a ^^^ b < 256 := Nat.xor_lt_two_pow (n := 8) h hb
theorem mulN_lt : ∀ (k a b p : Nat), a < 256 → p < 256 → mulN k a b p < 256
  | 0, _, _, _, _, hp => hp
  | k + 1, a, b, p, ha, hp => mulN_lt k _ _ _ (xt_lt ha) (by cases (b % 2 == 1) with
    | true => exact x_lt hp ha
    | false => exact hp)
theorem gm_lt {a : Nat} (h : a < 256) (b : Nat) : gm a b < 256 := mulN_lt 8 a b 0 h (by decide)
theorem mulN_zero : ∀ (k a p : Nat), mulN k a 0 p = p
  | 0, _, _ => rfl
  | k + 1, a, p => mulN_zero k _ _
theorem xor4 (p p' a a' : Nat) : (p ^^^ p') ^^^ (a ^^^ a') = (p ^^^ a) ^^^ (p' ^^^ a') := by
  rw [Nat.xor_assoc, ← Nat.xor_assoc p' a a', Nat.xor_comm p' a, Nat.xor_assoc a p' a', ← Nat.xor_assoc p a]
theorem mulN_xl : ∀ (k a a' b p p' : Nat), a < 256 → a' < 256 → mulN k (a ^^^ a') b (p ^^^ p') = mulN k a b p ^^^ mulN k a' b p'
  | 0, _, _, _, _, _, _, _ => rfl
  | k + 1, a, a', b, p, p', h, h' => by
    show mulN k (xt (a ^^^ a')) (b / 2) _ = mulN k (xt a) (b / 2) _ ^^^ mulN k (xt a') (b / 2) _
    rw [xt_xor h h', ← mulN_xl k _ _ _ _ _ (xt_lt h) (xt_lt h')]
    cases (b % 2 == 1) with
    | false => rfl
    | true => exact congrArg (mulN k (xt a ^^^ xt a') (b / 2)) (xor4 p p' a a')
theorem mulN_xr : ∀ (k a b b' p p' : Nat), mulN k a (b ^^^ b') (p ^^^ p') = mulN k a b p ^^^ mulN k a b' p'
  | 0, _, _, _, _, _ => rfl
  | k + 1, a, b, b', p, p' => by
    show mulN k (xt a) ((b ^^^ b') / 2) _ = mulN k (xt a) (b / 2) _ ^^^ mulN k (xt a) (b' / 2) _
    rw [← mulN_xr k, Nat.xor_div_two]
    have e : (b ^^^ b') % 2 = (b + b') % 2 := xor_m2 b b'
    rw [e]
    refine congrArg (mulN k (xt a) (b / 2 ^^^ b' / 2)) ?_
    rcases Nat.mod_two_eq_zero_or_one b with z | z <;> rcases Nat.mod_two_eq_zero_or_one b' with y | y
    · rw [show (b + b') % 2 = 0 by omega, z, y]; rfl
    · rw [show (b + b') % 2 = 1 by omega, z, y]; exact Nat.xor_assoc _ _ _
    · rw [show (b + b') % 2 = 1 by omega, z, y]
      show p ^^^ p' ^^^ a = p ^^^ a ^^^ p'
      rw [Nat.xor_assoc, Nat.xor_comm p' a, Nat.xor_assoc]
    · rw [show (b + b') % 2 = 0 by omega, z, y]
      show p ^^^ p' = p ^^^ a ^^^ (p' ^^^ a)
      rw [← xor4, Nat.xor_self, Nat.xor_zero]
theorem gm_xl {a a' : Nat} (b : Nat) (h : a < 256) (h' : a' < 256) : gm (a ^^^ a') b = gm a b ^^^ gm a' b := mulN_xl 8 a a' b 0 0 h h'
theorem gm_xr (a b b' : Nat) : gm a (b ^^^ b') = gm a b ^^^ gm a b' := mulN_xr 8 a b b' 0 0
/-- two additive maps of octets that agree at the powers of two agree -/
theorem lin_ext {f g : Nat → Nat} (hf : ∀ x y, x < 256 → y < 256 → f (x ^^^ y) = f x ^^^ f y) (hg : ∀ x y, x < 256 → y < 256 → g (x ^^^ y) = g x ^^^ g y) (h : ∀ i, i < 8 → f (2 ^ i) = g (2 ^ i)) : ∀ a, a < 256 → f a = g a := by
  have h0 : f 0 = g 0 := by
    have e1 := hf 0 0 (by decide) (by decide)
    have e2 := hg 0 0 (by decide) (by decide)
    rw [Nat.xor_self] at e1 e2
    rw [Nat.xor_self] at e1 e2
    rw [e1, e2]
  have key : ∀ k, k ≤ 8 → ∀ a, a < 2 ^ k → f a = g a := by
    intro k
    induction k with
    | zero => intro _ a ha; have : a = 0 := by omega
              subst this; exact h0
    | succ k ih =>
      intro hk a ha
      by_cases c : a < 2 ^ k
      · exact ih (by omega) a c
      · have p1 : 2 ^ k < 256 := Nat.pow_lt_pow_right (by decide) (show k < 8 by omega)
        have e : a = (a - 2 ^ k) ^^^ 2 ^ k := by
          have l : a - 2 ^ k < 2 ^ k := by rw [Nat.pow_succ] at ha; omega
          have s := xor_and_add (a - 2 ^ k) (2 ^ k)
          have z : (a - 2 ^ k) &&& 2 ^ k = 0 := by
            
            apply Nat.eq_of_testBit_eq
            intro i
            rw [Nat.testBit_and, Nat.testBit_two_pow, Nat.zero_testBit]
            by_cases ki : k = i
            · subst ki; rw [Nat.testBit_lt_two_pow l]; rfl
            · simp [ki]
          omega
        have l : a - 2 ^ k < 2 ^ k := by rw [Nat.pow_succ] at ha; omega
        rw [e, hf _ _ (by omega) p1, hg _ _ (by omega) p1, ih (by omega) _ l, h k (by omega)]
  exact fun a ha => key 8 (Nat.le_refl _) a ha
theorem pow_lt8 {i : Nat} (h : i < 8) : 2 ^ i < 256 := Nat.pow_lt_pow_right (by decide) (show i < 8 from h)
theorem gm_comm {a b : Nat} (ha : a < 256) (hb : b < 256) : gm a b = gm b a := by
  refine lin_ext (f := fun a => gm a b) (g := fun a => gm b a) (fun x y hx hy => gm_xl b hx hy) (fun x y _ _ => gm_xr b x y) (fun i hi => ?_) a ha
  refine lin_ext (f := fun b => gm (2 ^ i) b) (g := fun b => gm b (2 ^ i)) (fun x y _ _ => gm_xr _ x y) (fun x y hx hy => gm_xl _ hx hy) (fun j hj => ?_) b hb
  exact eq_of_beq (allB_of (allB_of (p := fun i => allB 8 fun j => gm (2 ^ i) (2 ^ j) == gm (2 ^ j) (2 ^ i)) (n := 8) (by decide +kernel) i hi) j hj)
theorem gm_assoc {a b c : Nat} (ha : a < 256) (hb : b < 256) (hc : c < 256) : gm (gm a b) c = gm a (gm b c) := by
  refine lin_ext (f := fun a => gm (gm a b) c) (g := fun a => gm a (gm b c)) (fun x y hx hy => by
    show gm (gm (x ^^^ y) b) c = _
    rw [gm_xl b hx hy, gm_xl c (gm_lt hx b) (gm_lt hy b)]) (fun x y hx hy => gm_xl _ hx hy) (fun i hi => ?_) a ha
  have hi' := pow_lt8 hi
  refine lin_ext (f := fun b => gm (gm (2 ^ i) b) c) (g := fun b => gm (2 ^ i) (gm b c)) (fun x y _ _ => by
    show gm (gm _ (x ^^^ y)) c = _
    rw [gm_xr, gm_xl c (gm_lt hi' _) (gm_lt hi' _)]) (fun x y hx hy => by
    show gm _ (gm (x ^^^ y) c) = _
    rw [gm_xl c hx hy, gm_xr]) (fun j hj => ?_) b hb
  refine lin_ext (f := fun c => gm (gm (2 ^ i) (2 ^ j)) c) (g := fun c => gm (2 ^ i) (gm (2 ^ j) c)) (fun x y _ _ => gm_xr _ _ _) (fun x y _ _ => by
    show gm _ (gm _ (x ^^^ y)) = _
    rw [gm_xr, gm_xr]) (fun k hk => ?_) c hc
  exact eq_of_beq (allB_of (allB_of (allB_of (p := fun i => allB 8 fun j => allB 8 fun k => gm (gm (2 ^ i) (2 ^ j)) (2 ^ k) == gm (2 ^ i) (gm (2 ^ j) (2 ^ k))) (n := 8) (by decide +kernel) i hi) j hj) k hk)
theorem gm_one {a : Nat} (h : a < 256) : gm a 1 = a := eq_of_beq (allB_of (p := fun a => gm a 1 == a) (n := 256) (by decide +kernel) a h)
theorem one_gm {a : Nat} (h : a < 256) : gm 1 a = a := by rw [gm_comm (by decide) h, gm_one h]
theorem gm_zero (a : Nat) : gm a 0 = 0 := mulN_zero 8 a 0
theorem zero_gm {a : Nat} (h : a < 256) : gm 0 a = 0 := by rw [gm_comm (by decide) h, gm_zero]
def gpow (a : Nat) : Nat → Nat
  | 0 => 1
  | n + 1 => gm (gpow a n) a
theorem gpow_lt {a : Nat} (h : a < 256) : ∀ n, gpow a n < 256
  | 0 => (by decide : 1 < 256)
  | n + 1 => gm_lt (gpow_lt h n) a
theorem gpow_add {a : Nat} (h : a < 256) (m : Nat) : ∀ n, gpow a (m + n) = gm (gpow a m) (gpow a n)
  | 0 => (gm_one (gpow_lt h m)).symm
  | n + 1 => by
    show gm (gpow a (m + n)) a = gm (gpow a m) (gm (gpow a n) a)
    rw [gpow_add h m n, gm_assoc (gpow_lt h m) (gpow_lt h n) h]
theorem gpow_sq {a : Nat} (h : a < 256) (n : Nat) : gpow (gm a a) n = gpow a (2 * n) := by
  induction n with
  | zero => rfl
  | succ n ih =>
    show gm (gpow (gm a a) n) (gm a a) = gpow a (2 * (n + 1))
    rw [ih, show 2 * (n + 1) = 2 * n + 2 by omega, gpow_add h (2 * n) 2]
    show _ = gm _ (gm (gm 1 a) a)
    rw [one_gm h]
/-- 1 / a -/
def ginv (a : Nat) : Nat := gpow a 254
theorem ginv_lt {a : Nat} (h : a < 256) : ginv a < 256 := gpow_lt h 254
def gsq (a : Nat) : Nat := gm a a
def gchain : Nat → Nat → Nat → Nat
  | 0, _, p => p
  | k + 1, a, p => gchain k (gsq a) (gm p a)
theorem gchain_pow : ∀ (k a p : Nat), a < 256 → p < 256 → gchain k a p = gm p (gpow a (2 ^ k - 1))
  | 0, a, p, _, hp => (gm_one hp).symm
  | k + 1, a, p, ha, hp => by
    show gchain k (gsq a) (gm p a) = _
    have := Nat.one_le_two_pow (n := k)
    rw [gchain_pow k (gsq a) (gm p a) (gm_lt ha a) (gm_lt hp a), show 2 ^ (k + 1) - 1 = 1 + 2 * (2 ^ k - 1) by rw [Nat.pow_succ]; omega, gpow_add ha, ← gpow_sq ha, show gsq a = gm a a from rfl, gm_assoc hp ha (gpow_lt (gm_lt ha a) _)]
    show gm p (gm a (gpow (gm a a) _)) = gm p (gm (gm 1 a) _)
    rw [one_gm ha]
theorem ginv_chain {a : Nat} (h : a < 256) : ginv a = gchain 7 (gsq a) 1 := by
  rw [gchain_pow 7 (gsq a) 1 (gm_lt h a) (by decide), one_gm (gpow_lt (show gsq a < 256 from gm_lt h a) _)]
  exact (gpow_sq h 127).symm
theorem gm_ginv {a : Nat} (h : a < 256) (h0 : a ≠ 0) : gm a (ginv a) = 1 := by
  rw [ginv_chain h]
  have e := allB_of (p := fun a => Nat.beq a 0 || gm a (gchain 7 (gsq a) 1) == 1) (n := 256) (by decide +kernel) a h
  rw [Bool.or_eq_true] at e
  rcases e with e | e
  · exact absurd (Nat.eq_of_beq_eq_true e) h0
  · exact eq_of_beq e
theorem ginv_ne {a : Nat} (h : a < 256) (h0 : a ≠ 0) : ginv a ≠ 0 := fun z => by
  have := gm_ginv h h0
  rw [z, gm_zero] at this
  cases this
theorem gm_eq0 {a b : Nat} (ha : a < 256) (hb : b < 256) (h : gm a b = 0) : a = 0 ∨ b = 0 := by
  by_cases z : a = 0
  · exact .inl z
  · right
    have : gm (ginv a) (gm a b) = b := by rw [← gm_assoc (ginv_lt ha) ha hb, gm_comm (ginv_lt ha) ha, gm_ginv ha z, one_gm hb]
    rw [h, gm_zero] at this
    exact this.symm
end Cn
/-! Rs: four octets that guard a list of octets -/
namespace Cn
open PySem PySem.Spec L2
def OcN (xs : List Nat) : Prop := ∀ d ∈ xs, d < 256
theorem OcN.cons {o : Nat} {xs : List Nat} (h : OcN (o :: xs)) : o < 256 ∧ OcN xs := ⟨h o (by simp), fun d hd => h d (by simp [hd])⟩
def valF (x : Nat) : List Nat → Nat → Nat
  | [], v => v
  | o :: xs, v => valF x xs (gm v x ^^^ o)
def val (x : Nat) (xs : List Nat) : Nat := valF x xs 0
theorem valF_lt {x : Nat} : ∀ {xs : List Nat} {v : Nat}, OcN xs → v < 256 → valF x xs v < 256
  | [], v, _, h => h
  | o :: xs, v, ho, h => valF_lt (xs := xs) (v := gm v x ^^^ o) ho.cons.2 (x_lt (gm_lt h x) ho.cons.1)
theorem val_lt {x : Nat} {xs : List Nat} (h : OcN xs) : val x xs < 256 := valF_lt h (by decide)
theorem valF_app {x : Nat} : ∀ (xs ys : List Nat) (v : Nat), valF x (xs ++ ys) v = valF x ys (valF x xs v)
  | [], _, _ => rfl
  | o :: xs, ys, v => valF_app xs ys _
theorem gpow_one {a : Nat} (h : a < 256) : gpow a 1 = a := one_gm h
theorem gpow_succ' {a : Nat} (h : a < 256) (n : Nat) : gpow a (n + 1) = gm a (gpow a n) := by
  rw [show gpow a (n + 1) = gm (gpow a n) a from rfl, gm_comm (gpow_lt h n) h]
theorem valF_acc {x : Nat} (hx : x < 256) : ∀ {xs : List Nat} {v : Nat}, OcN xs → v < 256 → valF x xs v = gm v (gpow x xs.length) ^^^ val x xs
  | [], v, _, h => by
    show v = gm v 1 ^^^ 0
    rw [gm_one h, Nat.xor_zero]
  | o :: xs, v, ho, h => by
    have ⟨h1, h2⟩ := ho.cons
    have hg := gm_lt h x
    have hp := gpow_lt hx xs.length
    show valF x xs (gm v x ^^^ o) = gm v (gpow x (xs.length + 1)) ^^^ valF x xs (gm 0 x ^^^ o)
    rw [valF_acc hx h2 (x_lt hg h1), zero_gm hx, Nat.zero_xor, valF_acc hx h2 h1, gm_xl _ hg h1, gm_assoc h hx hp, ← gpow_succ' hx, Nat.xor_assoc]
theorem val_cons {x o : Nat} {xs : List Nat} (hx : x < 256) (h : OcN (o :: xs)) : val x (o :: xs) = gm o (gpow x xs.length) ^^^ val x xs := by
  show valF x xs (gm 0 x ^^^ o) = _
  rw [zero_gm hx, Nat.zero_xor, valF_acc hx h.cons.2 h.cons.1]
def xo (xs ys : List Nat) : List Nat := List.zipWith (· ^^^ ·) xs ys
theorem xo_len {xs ys : List Nat} (h : xs.length = ys.length) : (xo xs ys).length = xs.length := by unfold xo; rw [List.length_zipWith]; omega
theorem xo_oc : ∀ {xs ys : List Nat}, OcN xs → OcN ys → OcN (xo xs ys)
  | [], _, _, _ => fun _ z => nomatch z
  | _ :: _, [], _, _ => fun _ z => nomatch z
  | x :: xs, y :: ys, h, k => fun d hd => by
    rcases List.mem_cons.mp (show d ∈ (x ^^^ y) :: xo xs ys from hd) with z | z
    · subst z; exact x_lt h.cons.1 k.cons.1
    · exact xo_oc h.cons.2 k.cons.2 d z
theorem valF_xo {x : Nat} (hx : x < 256) : ∀ {xs ys : List Nat} {v w : Nat}, xs.length = ys.length → OcN xs → OcN ys → v < 256 → w < 256 → valF x (xo xs ys) (v ^^^ w) = valF x xs v ^^^ valF x ys w
  | [], [], _, _, _, _, _, _, _ => rfl
  | o :: xs, p :: ys, v, w, hl, ho, hp, hv, hw => by
    show valF x (xo xs ys) (gm (v ^^^ w) x ^^^ (o ^^^ p)) = valF x xs (gm v x ^^^ o) ^^^ valF x ys (gm w x ^^^ p)
    rw [gm_xl x hv hw, xor4, valF_xo hx (Nat.succ.inj hl) ho.cons.2 hp.cons.2 (x_lt (gm_lt hv x) ho.cons.1) (x_lt (gm_lt hw x) hp.cons.1)]
theorem val_xo {x : Nat} (hx : x < 256) {xs ys : List Nat} (hl : xs.length = ys.length) (ho : OcN xs) (hp : OcN ys) : val x (xo xs ys) = val x xs ^^^ val x ys := valF_xo (v := 0) (w := 0) hx hl ho hp (by decide) (by decide)
/-! one octet replaced -/
theorem valF_set {x : Nat} (hx : x < 256) : ∀ {xs : List Nat} {i e v : Nat} (hi : i < xs.length), OcN xs → e < 256 → v < 256 → valF x (xs.set i (xs[i] ^^^ e)) v = valF x xs v ^^^ gm e (gpow x (xs.length - 1 - i))
  | o :: xs, 0, e, v, hi, ho, he, hv => by
    have ⟨h1, h2⟩ := ho.cons
    have h3 := x_lt (gm_lt hv x) h1
    show valF x xs (gm v x ^^^ (o ^^^ e)) = valF x xs (gm v x ^^^ o) ^^^ gm e (gpow x (xs.length + 1 - 1 - 0))
    rw [show xs.length + 1 - 1 - 0 = xs.length by omega, ← Nat.xor_assoc, valF_acc hx h2 (x_lt h3 he), valF_acc hx h2 h3, gm_xl _ h3 he]
    ac_rfl
  | o :: xs, i + 1, e, v, hi, ho, he, hv => by
    have ⟨h1, h2⟩ := ho.cons
    have := valF_set (i := i) (e := e) hx (Nat.lt_of_succ_lt_succ hi) h2 he (x_lt (gm_lt hv x) h1)
    show valF x (xs.set i (xs[i]'(Nat.lt_of_succ_lt_succ hi) ^^^ e)) (gm v x ^^^ o) = valF x xs (gm v x ^^^ o) ^^^ gm e (gpow x (xs.length + 1 - 1 - (i + 1)))
    rw [this, show xs.length + 1 - 1 - (i + 1) = xs.length - 1 - i by omega]
theorem val_set {x : Nat} (hx : x < 256) {xs : List Nat} {i e : Nat} (hi : i < xs.length) (ho : OcN xs) (he : e < 256) : val x (xs.set i (xs[i] ^^^ e)) = val x xs ^^^ gm e (gpow x (xs.length - 1 - i)) := valF_set hx hi ho he (by decide)
/-! sums of powers -/
theorem gpow_mul {a : Nat} (h : a < 256) (m : Nat) : ∀ n, gpow (gpow a m) n = gpow a (m * n)
  | 0 => rfl
  | n + 1 => by
    show gm (gpow (gpow a m) n) (gpow a m) = _
    rw [gpow_mul h m n, ← gpow_add h, Nat.mul_succ]
theorem gpow_swap {a : Nat} (h : a < 256) (m n : Nat) : gpow (gpow a m) n = gpow (gpow a n) m := by rw [gpow_mul h, gpow_mul h, Nat.mul_comm]
def prs : List Nat → List (Nat × Nat)
  | [] => []
  | o :: xs => (o, gpow 2 xs.length) :: prs xs
def syn (j : Nat) : List (Nat × Nat) → Nat
  | [] => 0
  | p :: L => gm p.1 (gpow p.2 j) ^^^ syn j L
def OcP (L : List (Nat × Nat)) : Prop := ∀ p ∈ L, p.1 < 256 ∧ p.2 < 256
theorem OcP.cons {p : Nat × Nat} {L : List (Nat × Nat)} (h : OcP (p :: L)) : (p.1 < 256 ∧ p.2 < 256) ∧ OcP L := ⟨h p (by simp), fun d hd => h d (by simp [hd])⟩
theorem two_lt : 2 < 256 := by decide
theorem prs_oc : ∀ {xs : List Nat}, OcN xs → OcP (prs xs)
  | [], _ => fun _ z => nomatch z
  | o :: xs, h => fun p hp => by
    rcases List.mem_cons.mp (show p ∈ (o, gpow 2 xs.length) :: prs xs from hp) with z | z
    · subst z; exact ⟨h.cons.1, gpow_lt two_lt _⟩
    · exact prs_oc h.cons.2 p z
theorem val_syn (j : Nat) : ∀ {xs : List Nat}, OcN xs → val (gpow 2 j) xs = syn j (prs xs)
  | [], _ => rfl
  | o :: xs, h => by
    rw [val_cons (gpow_lt two_lt j) h, val_syn j h.cons.2, gpow_swap two_lt]
    rfl
theorem syn_lt (j : Nat) : ∀ {L : List (Nat × Nat)}, OcP L → syn j L < 256
  | [], _ => (by decide : 0 < 256)
  | p :: L, h => x_lt (gm_lt h.cons.1.1 _) (syn_lt j h.cons.2)
def nz (L : List (Nat × Nat)) : List (Nat × Nat) := L.filter (·.1 != 0)
theorem syn_nz (j : Nat) : ∀ {L : List (Nat × Nat)}, OcP L → syn j (nz L) = syn j L
  | [], _ => rfl
  | (c, a) :: L, h => by
    have ih := syn_nz j h.cons.2
    unfold nz at ih ⊢
    by_cases z : c = 0
    · subst z
      rw [List.filter_cons_of_neg (by simp), ih]
      show _ = gm 0 (gpow a j) ^^^ syn j L
      rw [zero_gm (gpow_lt h.cons.1.2 j), Nat.zero_xor]
    · rw [List.filter_cons_of_pos (by simpa using z)]
      show _ ^^^ _ = _ ^^^ _
      rw [ih]
def elim1 (a : Nat) (L : List (Nat × Nat)) : List (Nat × Nat) := L.map fun p => (gm p.1 (p.2 ^^^ a), p.2)
theorem syn_elim {a : Nat} (ha : a < 256) (j : Nat) : ∀ {L : List (Nat × Nat)}, OcP L → syn j (elim1 a L) = syn (j + 1) L ^^^ gm a (syn j L)
  | [], _ => by show 0 = 0 ^^^ gm a 0; rw [gm_zero]; rfl
  | (c, b) :: L, h => by
    have ⟨⟨hc, hb⟩, hL⟩ := h.cons
    have hc : c < 256 := hc
    have hb : b < 256 := hb
    have hP := gpow_lt hb j
    show gm (gm c (b ^^^ a)) (gpow b j) ^^^ syn j (elim1 a L) = (gm c (gm (gpow b j) b) ^^^ syn (j + 1) L) ^^^ gm a (gm c (gpow b j) ^^^ syn j L)
    rw [syn_elim ha j hL, gm_xr, gm_xl _ (gm_lt hc b) (gm_lt hc a), gm_xr, gm_assoc hc hb hP, gm_comm hb hP, gm_comm hc ha, gm_assoc ha hc hP]
    ac_rfl
theorem xor_eq0 {a b : Nat} (h : a ^^^ b = 0) : a = b := by
  have : (a ^^^ b) ^^^ b = 0 ^^^ b := by rw [h]
  rw [Nat.xor_assoc, Nat.xor_self, Nat.xor_zero, Nat.zero_xor] at this
  exact this
theorem syn_zero (j : Nat) : ∀ {L : List (Nat × Nat)}, OcP L → (∀ p ∈ L, p.1 = 0) → syn j L = 0
  | [], _, _ => rfl
  | (c, a) :: L, h, z => by
    have e : c = 0 := z (c, a) (by simp)
    subst e
    show gm 0 (gpow a j) ^^^ syn j L = 0
    rw [zero_gm (gpow_lt h.cons.1.2 j), syn_zero j h.cons.2 fun p hp => z p (by simp [hp])]
    rfl
theorem vand : ∀ (n : Nat) {L : List (Nat × Nat)}, L.length = n → OcP L → (L.map (·.2)).Nodup → (∀ j, j < n → syn j L = 0) → ∀ p ∈ L, p.1 = 0
  | 0, L, hl, _, _, _ => by rw [List.length_eq_zero_iff.mp hl]; exact fun _ z => nomatch z
  | n + 1, (c, a) :: L, hl, ho, hn, hs => by
    have ⟨⟨hc, ha⟩, hL⟩ := ho.cons
    have hc : c < 256 := hc
    have ha : a < 256 := ha
    have hl' : L.length = n := Nat.succ.inj hl
    rw [List.map_cons, List.nodup_cons] at hn
    have hS : ∀ j, j < n + 1 → gm c (gpow a j) = syn j L := fun j hj => xor_eq0 (hs j hj)
    have hE : OcP (elim1 a L) := fun p hp => by
      obtain ⟨q, hq, e⟩ := List.mem_map.mp hp
      subst e
      exact ⟨gm_lt (hL q hq).1 _, (hL q hq).2⟩
    have key := vand n (L := elim1 a L) (by unfold elim1; rw [List.length_map, hl']) hE (by unfold elim1; rw [List.map_map]; exact hn.2) fun j hj => by
      rw [syn_elim ha j hL, ← hS j (by omega), ← hS (j + 1) (by omega), gm_comm ha (gm_lt hc _), gm_assoc hc (gpow_lt ha j) ha]
      exact Nat.xor_self _
    have hz : ∀ p ∈ L, p.1 = 0 := fun p hp => by
      have e := key (gm p.1 (p.2 ^^^ a), p.2) (List.mem_map.mpr ⟨p, hp, rfl⟩)
      rcases gm_eq0 (hL p hp).1 (x_lt (hL p hp).2 ha) e with z | z
      · exact z
      · have := xor_eq0 z
        exact absurd (List.mem_map.mpr ⟨p, hp, this⟩) hn.1
    intro p hp
    rcases List.mem_cons.mp hp with z | z
    · subst z
      have := hS 0 (by omega)
      rw [syn_zero 0 hL hz] at this
      exact (gm_one hc).symm.trans this
    · exact hz p z
/-! the powers of two differ -/
def p2 : Nat → Nat
  | 0 => 1
  | n + 1 => xt (p2 n)
theorem gm_two {a : Nat} (h : a < 256) : gm a 2 = xt a := eq_of_beq (allB_of (p := fun a => gm a 2 == xt a) (n := 256) (by decide +kernel) a h)
theorem gpow_p2 : ∀ n, gpow 2 n = p2 n
  | 0 => rfl
  | n + 1 => by
    show gm (gpow 2 n) 2 = xt (p2 n)
    rw [gm_two (gpow_lt two_lt n), gpow_p2 n]
theorem p2_ne {n : Nat} (h : n < 254) : gpow 2 (n + 1) ≠ 1 := fun e => by
  have := allB_of (p := fun n => !(p2 (n + 1) == 1)) (n := 254) (by decide +kernel) n h
  rw [gpow_p2] at e
  rw [e] at this
  cases this
theorem p2_nz (n : Nat) : gpow 2 n ≠ 0 := by
  induction n with
  | zero => exact (by decide : (1 : Nat) ≠ 0)
  | succ n ih =>
    intro z
    rcases gm_eq0 (gpow_lt two_lt n) two_lt z with y | y
    · exact ih y
    · cases y
theorem gm_cancel {a b c : Nat} (ha : a < 256) (hb : b < 256) (hc : c < 256) (h0 : a ≠ 0) (h : gm a b = gm a c) : b = c := by
  have : gm (ginv a) (gm a b) = gm (ginv a) (gm a c) := by rw [h]
  rwa [← gm_assoc (ginv_lt ha) ha hb, ← gm_assoc (ginv_lt ha) ha hc, gm_comm (ginv_lt ha) ha, gm_ginv ha h0, one_gm hb, one_gm hc] at this
theorem p2_inj' {i j : Nat} (h : i < j) (hj : j < 255) : gpow 2 i ≠ gpow 2 j := fun e => by
  rw [show j = i + (j - i - 1 + 1) by omega, gpow_add two_lt] at e
  have e2 : gm (gpow 2 i) 1 = gm (gpow 2 i) (gpow 2 (j - i - 1 + 1)) := (gm_one (gpow_lt two_lt i)).trans e
  exact p2_ne (by omega) (gm_cancel (gpow_lt two_lt i) (by decide) (gpow_lt two_lt _) (p2_nz i) e2).symm
theorem p2_inj {i j : Nat} (hi : i < 255) (hj : j < 255) (h : gpow 2 i = gpow 2 j) : i = j := by
  rcases Nat.lt_trichotomy i j with z | z | z
  · exact absurd h (p2_inj' z hj)
  · exact z
  · exact absurd h.symm (p2_inj' z hi)
theorem prs_mem : ∀ {xs : List Nat} {p : Nat × Nat}, p ∈ prs xs → ∃ k, k < xs.length ∧ p.2 = gpow 2 k
  | o :: xs, p, h => by
    rcases List.mem_cons.mp (show p ∈ (o, gpow 2 xs.length) :: prs xs from h) with z | z
    · subst z; exact ⟨xs.length, Nat.lt_succ_self _, rfl⟩
    · obtain ⟨k, hk, e⟩ := prs_mem z
      exact ⟨k, Nat.lt_succ_of_lt hk, e⟩
theorem prs_nodup : ∀ {xs : List Nat}, xs.length ≤ 255 → ((prs xs).map (·.2)).Nodup
  | [], _ => List.nodup_nil
  | o :: xs, h => by
    have h' : xs.length + 1 ≤ 255 := h
    show (gpow 2 xs.length :: (prs xs).map (·.2)).Nodup
    rw [List.nodup_cons]
    refine ⟨fun z => ?_, prs_nodup (by omega)⟩
    obtain ⟨p, hp, e⟩ := List.mem_map.mp z
    obtain ⟨k, hk, e2⟩ := prs_mem hp
    exact p2_inj' (i := k) (j := xs.length) hk (by omega) (e2.symm.trans e)
/-! distance -/
def dist : List Nat → List Nat → Nat
  | x :: xs, y :: ys => (if x = y then 0 else 1) + dist xs ys
  | _, _ => 0
theorem dist_self : ∀ xs : List Nat, dist xs xs = 0
  | [] => rfl
  | x :: xs => by show (if x = x then 0 else 1) + dist xs xs = 0; rw [if_pos rfl, dist_self xs]
theorem dist_comm : ∀ xs ys : List Nat, dist xs ys = dist ys xs
  | [], [] => rfl
  | [], _ :: _ => rfl
  | _ :: _, [] => rfl
  | x :: xs, y :: ys => by
    show (if x = y then 0 else 1) + dist xs ys = (if y = x then 0 else 1) + dist ys xs
    rw [dist_comm xs ys]
    by_cases h : x = y
    · rw [if_pos h, if_pos h.symm]
    · rw [if_neg h, if_neg fun z => h z.symm]
theorem dist_tri : ∀ {xs ys zs : List Nat}, xs.length = ys.length → ys.length = zs.length → dist xs zs ≤ dist xs ys + dist ys zs
  | [], [], [], _, _ => Nat.le_refl 0
  | x :: xs, y :: ys, z :: zs, h, k => by
    have ih := dist_tri (Nat.succ.inj h) (Nat.succ.inj k)
    show (if x = z then 0 else 1) + dist xs zs ≤ ((if x = y then 0 else 1) + dist xs ys) + ((if y = z then 0 else 1) + dist ys zs)
    by_cases a : x = y
    · subst a; rw [if_pos (rfl : x = x)]; omega
    · rw [if_neg a]
      by_cases b : y = z
      · subst b; rw [if_neg a, if_pos rfl]; omega
      · rw [if_neg b]
        by_cases c : x = z
        · rw [if_pos c]; omega
        · rw [if_neg c]; omega
theorem dist0 : ∀ {xs ys : List Nat}, xs.length = ys.length → dist xs ys = 0 → xs = ys
  | [], [], _, _ => rfl
  | x :: xs, y :: ys, h, k => by
    have k : (if x = y then 0 else 1) + dist xs ys = 0 := k
    by_cases a : x = y
    · rw [if_pos a] at k
      rw [a, dist0 (Nat.succ.inj h) (by omega)]
    · rw [if_neg a] at k; omega
theorem dist1 : ∀ {xs ys : List Nat}, xs.length = ys.length → OcN xs → OcN ys → dist xs ys = 1 → ∃ i, ∃ hi : i < ys.length, ∃ e, e < 256 ∧ e ≠ 0 ∧ xs = ys.set i (ys[i] ^^^ e)
  | x :: xs, y :: ys, h, hx, hy, k => by
    have k : (if x = y then 0 else 1) + dist xs ys = 1 := k
    by_cases a : x = y
    · rw [if_pos a] at k
      obtain ⟨i, hi, e, he, h0, q⟩ := dist1 (Nat.succ.inj h) hx.cons.2 hy.cons.2 (by omega)
      refine ⟨i + 1, Nat.succ_lt_succ hi, e, he, h0, ?_⟩
      show x :: xs = y :: ys.set i (ys[i] ^^^ e)
      rw [a, ← q]
    · rw [if_neg a] at k
      have q := dist0 (Nat.succ.inj h) (by omega : dist xs ys = 0)
      refine ⟨0, Nat.succ_pos _, y ^^^ x, x_lt hy.cons.1 hx.cons.1, fun z => a (xor_eq0 z).symm, ?_⟩
      show x :: xs = (y ^^^ (y ^^^ x)) :: ys
      rw [← Nat.xor_assoc, Nat.xor_self, Nat.zero_xor, q]
theorem dist_set_le : ∀ (xs ys : List Nat) (i v : Nat), dist xs (ys.set i v) ≤ dist xs ys + 1
  | [], [], _, _ => Nat.zero_le _
  | [], _ :: _, 0, _ => Nat.zero_le _
  | [], _ :: _, _ + 1, _ => Nat.zero_le _
  | _ :: _, [], _, _ => Nat.zero_le _
  | x :: xs, y :: ys, 0, v => by
    show (if x = v then 0 else 1) + dist xs ys ≤ (if x = y then 0 else 1) + dist xs ys + 1
    by_cases h : x = v
    · rw [if_pos h]; omega
    · rw [if_neg h]; omega
  | x :: xs, y :: ys, i + 1, v => by
    have := dist_set_le xs ys i v
    show (if x = y then 0 else 1) + dist xs (ys.set i v) ≤ (if x = y then 0 else 1) + dist xs ys + 1
    omega
theorem dist_set_ne : ∀ {xs ys : List Nat} {i v : Nat} (hi : i < xs.length), xs.length = ys.length → v ≠ xs[i] → 1 ≤ dist xs (ys.set i v)
  | x :: xs, y :: ys, 0, v, _, _, h => by
    show 1 ≤ (if x = v then 0 else 1) + dist xs ys
    rw [if_neg fun z => h z.symm]; omega
  | x :: xs, y :: ys, i + 1, v, hi, hl, h => by
    have := dist_set_ne (i := i) (Nat.lt_of_succ_lt_succ hi) (Nat.succ.inj hl) h
    show 1 ≤ (if x = y then 0 else 1) + dist xs (ys.set i v)
    omega
theorem dist_set_new : ∀ {xs ys : List Nat} {i v : Nat} (hi : i < xs.length) (hl : xs.length = ys.length), ys[i]'(by omega) = xs[i] → v ≠ xs[i] → dist xs (ys.set i v) = dist xs ys + 1
  | x :: xs, y :: ys, 0, v, _, _, e, h => by
    have e : y = x := e
    show (if x = v then 0 else 1) + dist xs ys = (if x = y then 0 else 1) + dist xs ys + 1
    rw [if_neg fun z => h z.symm, if_pos e.symm]; omega
  | x :: xs, y :: ys, i + 1, v, hi, hl, e, h => by
    have := dist_set_new (i := i) (Nat.lt_of_succ_lt_succ hi) (Nat.succ.inj hl) e h
    show (if x = y then 0 else 1) + dist xs (ys.set i v) = (if x = y then 0 else 1) + dist xs ys + 1
    omega
theorem dist_prs : ∀ {xs ys : List Nat}, xs.length = ys.length → (nz (prs (xo xs ys))).length = dist xs ys
  | [], [], _ => rfl
  | x :: xs, y :: ys, h => by
    have ih := dist_prs (Nat.succ.inj h)
    show (nz ((x ^^^ y, gpow 2 (xo xs ys).length) :: prs (xo xs ys))).length = (if x = y then 0 else 1) + dist xs ys
    unfold nz at ih ⊢
    by_cases z : x = y
    · subst z
      rw [if_pos rfl, List.filter_cons_of_neg (by simp), ih]; omega
    · rw [if_neg z, List.filter_cons_of_pos (by simpa using fun y => z (xor_eq0 y)), List.length_cons, ih]; omega
/-! right lists -/
def Zr (xs : List Nat) : Prop := val 1 xs = 0 ∧ val 2 xs = 0 ∧ val 4 xs = 0 ∧ val 8 xs = 0
def Ln (xs : List Nat) : Prop := 4 ≤ xs.length ∧ xs.length ≤ 255
theorem Zr.at {xs : List Nat} (h : Zr xs) : ∀ j, j < 4 → val (gpow 2 j) xs = 0
  | 0, _ => h.1
  | 1, _ => h.2.1
  | 2, _ => h.2.2.1
  | 3, _ => h.2.2.2
theorem Zr.xo {xs ys : List Nat} (h : Zr xs) (k : Zr ys) (hl : xs.length = ys.length) (ho : OcN xs) (hp : OcN ys) : Zr (xo xs ys) := by
  refine ⟨?_, ?_, ?_, ?_⟩
  · rw [val_xo (by decide) hl ho hp, h.1, k.1]; rfl
  · rw [val_xo (by decide) hl ho hp, h.2.1, k.2.1]; rfl
  · rw [val_xo (by decide) hl ho hp, h.2.2.1, k.2.2.1]; rfl
  · rw [val_xo (by decide) hl ho hp, h.2.2.2, k.2.2.2]; rfl
/-- two right lists that differ in four places at most are the same -/
theorem code5 {xs ys : List Nat} (h : Zr xs) (k : Zr ys) (hl : xs.length = ys.length) (hn : xs.length ≤ 255) (ho : OcN xs) (hp : OcN ys) (hd : dist xs ys ≤ 4) : xs = ys := by
  have hz := h.xo k hl ho hp
  have hx := xo_oc ho hp
  have hP := prs_oc hx
  have hN : OcP (nz (prs (xo xs ys))) := fun p z => hP p (List.mem_filter.mp z).1
  have hD := dist_prs hl
  refine dist0 hl ?_
  rw [← hD]
  have all := vand _ rfl hN (List.Nodup.sublist (List.Sublist.map _ List.filter_sublist) (prs_nodup (by rw [xo_len hl]; exact hn))) fun j hj => by
    rw [syn_nz j hP, ← val_syn j hx]
    exact hz.at j (by omega)
  refine List.length_eq_zero_iff.mpr (List.eq_nil_iff_forall_not_mem.mpr fun p z => ?_)
  have := (List.mem_filter.mp z).2
  rw [all p z] at this
  cases this
/-! check octets -/
abbrev St4 := Nat × Nat × Nat × Nat
def l4 (r : St4) : List Nat := [r.1, r.2.1, r.2.2.1, r.2.2.2]
def stp (r : St4) (o : Nat) : St4 := (r.2.1 ^^^ gm (r.1 ^^^ o) 15, r.2.2.1 ^^^ gm (r.1 ^^^ o) 54, r.2.2.2 ^^^ gm (r.1 ^^^ o) 120, gm (r.1 ^^^ o) 64)
def chs (xs : List Nat) : St4 := xs.foldl stp (0, 0, 0, 0)
def cd (xs : List Nat) : List Nat := xs ++ l4 (chs xs)
def Oc4 (r : St4) : Prop := r.1 < 256 ∧ r.2.1 < 256 ∧ r.2.2.1 < 256 ∧ r.2.2.2 < 256
theorem Oc4.l {r : St4} (h : Oc4 r) : OcN (l4 r) := fun d hd => by
  obtain ⟨a, b, c, e⟩ := r
  simp only [l4, List.mem_cons, List.not_mem_nil, or_false] at hd
  obtain ⟨h1, h2, h3, h4⟩ := h
  rcases hd with z | z | z | z <;> subst z <;> assumption
theorem Oc4.stp {r : St4} {o : Nat} (h : Oc4 r) (ho : o < 256) : Oc4 (stp r o) :=
  have f := x_lt h.1 ho
  ⟨x_lt h.2.1 (gm_lt f _), x_lt h.2.2.1 (gm_lt f _), x_lt h.2.2.2 (gm_lt f _), gm_lt f 64⟩
theorem Oc4.fold : ∀ {xs : List Nat} {r : St4}, OcN xs → Oc4 r → Oc4 (xs.foldl Cn.stp r)
  | [], _, _, h => h
  | o :: xs, r, ho, h => Oc4.fold (xs := xs) (r := Cn.stp r o) ho.cons.2 (h.stp ho.cons.1)
theorem chs_oc {xs : List Nat} (h : OcN xs) : Oc4 (chs xs) := Oc4.fold h ⟨by decide, by decide, by decide, by decide⟩
theorem OcN.app {xs ys : List Nat} (h : OcN xs) (k : OcN ys) : OcN (xs ++ ys) := fun d hd => (List.mem_append.mp hd).elim (h d) (k d)
theorem cd_oc {xs : List Nat} (h : OcN xs) : OcN (cd xs) := h.app (chs_oc h).l
theorem cd_len (xs : List Nat) : (cd xs).length = xs.length + 4 := by unfold cd; rw [List.length_append]; rfl
structure Root (x : Nat) : Prop where
  lt : x < 256
  e : ∀ f, f < 256 → gm f (gpow x 4) = gm (gm f 15) (gpow x 3) ^^^ gm (gm f 54) (gpow x 2) ^^^ gm (gm f 120) (gpow x 1) ^^^ gm f 64
theorem root_of {x : Nat} (h : x < 256) (k : allB 256 (fun f => gm f (gpow x 4) == gm (gm f 15) (gpow x 3) ^^^ gm (gm f 54) (gpow x 2) ^^^ gm (gm f 120) (gpow x 1) ^^^ gm f 64) = true) : Root x := ⟨h, fun f hf => eq_of_beq (allB_of k f hf)⟩
theorem root1 : Root 1 := root_of (by decide) (by decide +kernel)
theorem root2 : Root 2 := root_of (by decide) (by decide +kernel)
theorem root4 : Root 4 := root_of (by decide) (by decide +kernel)
theorem root8 : Root 8 := root_of (by decide) (by decide +kernel)
theorem val4 {x : Nat} (hx : x < 256) {r : St4} (h : Oc4 r) : val x (l4 r) = gm r.1 (gpow x 3) ^^^ gm r.2.1 (gpow x 2) ^^^ gm r.2.2.1 (gpow x 1) ^^^ r.2.2.2 := by
  have o := h.l
  have o1 := o.cons.2
  have o2 := o1.cons.2
  have o3 := o2.cons.2
  unfold l4
  rw [val_cons hx o, val_cons hx o1, val_cons hx o2, val_cons hx o3]
  show _ ^^^ (_ ^^^ (_ ^^^ (gm r.2.2.2 1 ^^^ 0))) = _
  rw [gm_one h.2.2.2, Nat.xor_zero]
  show gm _ (gpow x 3) ^^^ (gm _ (gpow x 2) ^^^ (gm _ (gpow x 1) ^^^ _)) = _
  ac_rfl
theorem root_stp {x v o : Nat} {r : St4} (R : Root x) (hv : v < 256) (ho : o < 256) (h : Oc4 r) (e : gm v (gpow x 4) = val x (l4 r)) : gm (gm v x ^^^ o) (gpow x 4) = val x (l4 (stp r o)) := by
  have hx := R.lt
  have p1 := gpow_lt hx 1
  have p2 := gpow_lt hx 2
  have p3 := gpow_lt hx 3
  have p4 := gpow_lt hx 4
  have hf := x_lt h.1 ho
  rw [val4 hx (h.stp ho), gm_xl _ (gm_lt hv x) ho, gm_assoc hv hx p4, gm_comm hx p4, ← gm_assoc hv p4 hx, e, val4 hx h]
  show _ = gm (r.2.1 ^^^ gm (r.1 ^^^ o) 15) (gpow x 3) ^^^ gm (r.2.2.1 ^^^ gm (r.1 ^^^ o) 54) (gpow x 2) ^^^ gm (r.2.2.2 ^^^ gm (r.1 ^^^ o) 120) (gpow x 1) ^^^ gm (r.1 ^^^ o) 64
  rw [gm_xl _ (x_lt (x_lt (gm_lt h.1 _) (gm_lt h.2.1 _)) (gm_lt h.2.2.1 _)) h.2.2.2, gm_xl _ (x_lt (gm_lt h.1 _) (gm_lt h.2.1 _)) (gm_lt h.2.2.1 _), gm_xl _ (gm_lt h.1 _) (gm_lt h.2.1 _),
    gm_assoc h.1 p3 hx, gm_assoc h.2.1 p2 hx, gm_assoc h.2.2.1 p1 hx,
    show gm (gpow x 3) x = gpow x 4 from rfl, show gm (gpow x 2) x = gpow x 3 from rfl, show gm (gpow x 1) x = gpow x 2 from rfl,
    gm_xl _ h.2.1 (gm_lt hf 15), gm_xl _ h.2.2.1 (gm_lt hf 54), gm_xl _ h.2.2.2 (gm_lt hf 120), gpow_one hx]
  have k := R.e _ hf
  rw [gpow_one hx, gm_xl (gpow x 4) h.1 ho] at k
  have k2 : gm o (gpow x 4) = gm r.1 (gpow x 4) ^^^ (gm (gm (r.1 ^^^ o) 15) (gpow x 3) ^^^ gm (gm (r.1 ^^^ o) 54) (gpow x 2) ^^^ gm (gm (r.1 ^^^ o) 120) x ^^^ gm (r.1 ^^^ o) 64) := by
    rw [← k, ← Nat.xor_assoc, Nat.xor_self, Nat.zero_xor]
  rw [k2]
  have z : ∀ a b c d e f g i j : Nat, a ^^^ b ^^^ c ^^^ d ^^^ (a ^^^ (e ^^^ f ^^^ g ^^^ i)) = (a ^^^ a) ^^^ (b ^^^ e ^^^ (c ^^^ f) ^^^ (d ^^^ g) ^^^ i) := fun _ _ _ _ _ _ _ _ _ => by ac_rfl
  rw [z _ _ _ _ _ _ _ _ 0, Nat.xor_self, Nat.zero_xor]
theorem root_fold {x : Nat} (R : Root x) : ∀ {xs : List Nat} {v : Nat} {r : St4}, OcN xs → v < 256 → Oc4 r → gm v (gpow x 4) = val x (l4 r) → gm (valF x xs v) (gpow x 4) = val x (l4 (xs.foldl stp r))
  | [], _, _, _, _, _, e => e
  | o :: xs, v, r, ho, hv, h, e => root_fold R (xs := xs) (v := gm v x ^^^ o) (r := stp r o) ho.cons.2 (x_lt (gm_lt hv x) ho.cons.1) (h.stp ho.cons.1) (root_stp R hv ho.cons.1 h e)
theorem cd_root {x : Nat} (R : Root x) {xs : List Nat} (h : OcN xs) : val x (cd xs) = 0 := by
  unfold cd val
  rw [valF_app]
  show valF x (l4 (chs xs)) (val x xs) = 0
  rw [valF_acc R.lt (chs_oc h).l (val_lt h)]
  have := root_fold R (v := 0) (r := (0, 0, 0, 0)) h (by decide) ⟨by decide, by decide, by decide, by decide⟩ (by
    rw [zero_gm (gpow_lt R.lt 4), val4 R.lt ⟨by decide, by decide, by decide, by decide⟩]
    show 0 = gm 0 _ ^^^ gm 0 _ ^^^ gm 0 _ ^^^ 0
    rw [zero_gm (gpow_lt R.lt 3), zero_gm (gpow_lt R.lt 2), zero_gm (gpow_lt R.lt 1)]
    rfl)
  show gm (valF x xs 0) (gpow x 4) ^^^ val x (l4 (chs xs)) = 0
  rw [this]
  exact Nat.xor_self _
theorem cd_zr {xs : List Nat} (h : OcN xs) : Zr (cd xs) := ⟨cd_root root1 h, cd_root root2 h, cd_root root4 h, cd_root root8 h⟩
theorem dist_le : ∀ xs ys : List Nat, dist xs ys ≤ xs.length
  | [], _ => Nat.zero_le _
  | _ :: _, [] => Nat.zero_le _
  | x :: xs, y :: ys => by
    have := dist_le xs ys
    show (if x = y then 0 else 1) + dist xs ys ≤ xs.length + 1
    by_cases h : x = y
    · rw [if_pos h]; omega
    · rw [if_neg h]; omega
theorem dist_app : ∀ {xs ys : List Nat} (as bs : List Nat), xs.length = ys.length → dist (xs ++ as) (ys ++ bs) = dist xs ys + dist as bs
  | [], [], as, bs, _ => (Nat.zero_add _).symm
  | x :: xs, y :: ys, as, bs, h => by
    show (if x = y then 0 else 1) + dist (xs ++ as) (ys ++ bs) = (if x = y then 0 else 1) + dist xs ys + dist as bs
    rw [dist_app as bs (Nat.succ.inj h)]; omega
theorem cd_far {xs ys : List Nat} (hl : xs.length = ys.length) (hn : xs.length ≤ 251) (h : OcN xs) (k : OcN ys) (hne : xs ≠ ys) : 5 ≤ dist (cd xs) (cd ys) := by
  rcases Nat.lt_or_ge (dist (cd xs) (cd ys)) 5 with z | z
  · have := code5 (cd_zr h) (cd_zr k) (by rw [cd_len, cd_len, hl]) (by rw [cd_len]; omega) (cd_oc h) (cd_oc k) (by omega)
    exact absurd (List.append_inj this hl).1 hne
  · exact z
theorem cd_xo {xs ys : List Nat} (hl : xs.length = ys.length) (hn : xs.length ≤ 251) (h : OcN xs) (k : OcN ys) : cd (xo xs ys) = xo (cd xs) (cd ys) := by
  have hx := xo_oc h k
  have e : xo (cd xs) (cd ys) = xo xs ys ++ xo (l4 (chs xs)) (l4 (chs ys)) := by
    unfold xo cd
    rw [List.zipWith_append hl]
  have hlen : (cd xs).length = (cd ys).length := by rw [cd_len, cd_len, hl]
  refine code5 (cd_zr hx) ((cd_zr h).xo (cd_zr k) hlen (cd_oc h) (cd_oc k)) ?_ ?_ (cd_oc hx) (xo_oc (cd_oc h) (cd_oc k)) ?_
  · rw [cd_len, xo_len hl, xo_len hlen, cd_len]
  · rw [cd_len, xo_len hl]; omega
  · rw [e]
    unfold cd
    rw [dist_app _ _ rfl, dist_self, Nat.zero_add]
    exact dist_le _ _
/-! mending -/
def good (w : List Nat) (p : Nat) : Prop := val 1 w ≠ 0 ∧ val 2 w = gm (val 1 w) (gpow 2 p) ∧ val 4 w = gm (val 1 w) (gpow 4 p) ∧ val 8 w = gm (val 1 w) (gpow 8 p)
def flp (w : List Nat) (p : Nat) : List Nat := w.set (w.length - 1 - p) (w.getD (w.length - 1 - p) 0 ^^^ val 1 w)
def Fx (w : List Nat) (r : Option (List Nat)) : Prop := (¬ Ln w ∧ r = none) ∨ (Ln w ∧ Zr w ∧ r = some w) ∨ (Ln w ∧ ¬ Zr w ∧ ∃ p, p < w.length ∧ good w p ∧ r = some (flp w p)) ∨ (Ln w ∧ ¬ Zr w ∧ (∀ p, p < w.length → ¬ good w p) ∧ r = none)
theorem good_uniq {w : List Nat} {p q : Nat} (ho : OcN w) (h : good w p) (k : good w q) (hp : p < 255) (hq : q < 255) : p = q :=
  p2_inj hp hq (gm_cancel (val_lt ho) (gpow_lt two_lt p) (gpow_lt two_lt q) h.1 (h.2.1.symm.trans k.2.1))
theorem fx_fun {w : List Nat} {r r' : Option (List Nat)} (ho : OcN w) (h : Fx w r) (k : Fx w r') : r = r' := by
  rcases h with ⟨h1, e⟩ | ⟨h1, h2, e⟩ | ⟨h1, h2, p, hp, g, e⟩ | ⟨h1, h2, h3, e⟩ <;> rcases k with ⟨k1, f⟩ | ⟨k1, k2, f⟩ | ⟨k1, k2, q, hq, g', f⟩ | ⟨k1, k2, k3, f⟩ <;> first
    | (rw [e, f]; done)
    | exact absurd h1 k1
    | exact absurd k1 h1
    | exact absurd h2 k2
    | exact absurd k2 h2
    | exact absurd g (k3 p hp)
    | exact absurd g' (h3 q hq)
    | (have := good_uniq ho g g' (by have := h1.2; omega) (by have := h1.2; omega)
       subst this; rw [e, f])
theorem gpow_1 : ∀ n, gpow 1 n = 1
  | 0 => rfl
  | n + 1 => by show gm (gpow 1 n) 1 = 1; rw [gpow_1 n]; rfl
theorem flp_oc {w : List Nat} {p : Nat} (ho : OcN w) (hp : p < w.length) : OcN (flp w p) := fun d hd => by
  have hl : w.length - 1 - p < w.length := by omega
  rcases List.mem_or_eq_of_mem_set hd with z | z
  · exact ho d z
  · subst z
    rw [List.getD_eq_getElem?_getD, List.getElem?_eq_getElem hl]
    exact x_lt (ho _ (List.getElem_mem hl)) (val_lt ho)
theorem flp_len (w : List Nat) (p : Nat) : (flp w p).length = w.length := List.length_set
theorem val_flp {x : Nat} (hx : x < 256) {w : List Nat} {p : Nat} (ho : OcN w) (hp : p < w.length) : val x (flp w p) = val x w ^^^ gm (val 1 w) (gpow x p) := by
  have hl : w.length - 1 - p < w.length := by omega
  unfold flp
  rw [List.getD_eq_getElem?_getD, List.getElem?_eq_getElem hl]
  show val x (w.set _ (w[w.length - 1 - p] ^^^ _)) = _
  rw [val_set hx hl ho (val_lt ho), show w.length - 1 - (w.length - 1 - p) = p by omega]
theorem flp_zr {w : List Nat} {p : Nat} (ho : OcN w) (hp : p < w.length) (g : good w p) : Zr (flp w p) := by
  obtain ⟨_, g2, g4, g8⟩ := g
  refine ⟨?_, ?_, ?_, ?_⟩
  · rw [val_flp (by decide) ho hp, gpow_1, gm_one (val_lt ho)]; exact Nat.xor_self _
  · rw [val_flp (by decide) ho hp, g2]; exact Nat.xor_self _
  · rw [val_flp (by decide) ho hp, g4]; exact Nat.xor_self _
  · rw [val_flp (by decide) ho hp, g8]; exact Nat.xor_self _
theorem zr_flp {w : List Nat} {p : Nat} (ho : OcN w) (hp : p < w.length) (h0 : val 1 w ≠ 0) (z : Zr (flp w p)) : good w p := by
  obtain ⟨_, z2, z4, z8⟩ := z
  rw [val_flp (by decide) ho hp] at z2 z4 z8
  exact ⟨h0, xor_eq0 z2, xor_eq0 z4, xor_eq0 z8⟩
theorem flp_dist (w : List Nat) (p : Nat) : dist w (flp w p) ≤ 1 := by
  have := dist_set_le w w (w.length - 1 - p) (w.getD (w.length - 1 - p) 0 ^^^ val 1 w)
  rw [dist_self] at this
  exact this
theorem fx_one {c w : List Nat} {r : Option (List Nat)} (hc : OcN c) (ho : OcN w) (hz : Zr c) (hl : c.length = w.length) (hn : Ln w) (hd : dist c w ≤ 1) (h : Fx w r) : r = some c := by
  refine fx_fun ho h ?_
  by_cases d0 : dist c w = 0
  · have := dist0 hl d0
    subst this
    exact .inr (.inl ⟨hn, hz, rfl⟩)
  · obtain ⟨i, hi, e, he, h0, q⟩ := dist1 hl hc ho (by omega)
    have key : ∀ x, x < 256 → val x c = 0 → val x w = gm e (gpow x (w.length - 1 - i)) := fun x hx z => by
      rw [q, val_set hx hi ho he] at z
      exact xor_eq0 z
    have k1 : val 1 w = e := by rw [key 1 (by decide) hz.1, gpow_1, gm_one he]
    refine .inr (.inr (.inl ⟨hn, fun z => h0 (k1.symm.trans z.1), w.length - 1 - i, by omega, ⟨by rw [k1]; exact h0, ?_, ?_, ?_⟩, ?_⟩))
    · rw [k1]; exact key 2 (by decide) hz.2.1
    · rw [k1]; exact key 4 (by decide) hz.2.2.1
    · rw [k1]; exact key 8 (by decide) hz.2.2.2
    · unfold flp
      rw [show w.length - 1 - (w.length - 1 - i) = i by omega, k1, List.getD_eq_getElem?_getD, List.getElem?_eq_getElem hi]
      exact congrArg some q
theorem far_zr {c w : List Nat} (hc : OcN c) (ho : OcN w) (hz : Zr c) (hl : c.length = w.length) (hn : w.length ≤ 255) (h1 : 1 ≤ dist c w) (h4 : dist c w ≤ 4) : ¬ Zr w := fun z => by
  have := code5 hz z hl (by omega) hc ho h4
  subst this
  rw [dist_self] at h1
  omega
theorem fx_far {c w : List Nat} {r : Option (List Nat)} (hc : OcN c) (ho : OcN w) (hz : Zr c) (hl : c.length = w.length) (hn : Ln w) (h2 : 2 ≤ dist c w) (h3 : dist c w ≤ 3) (h : Fx w r) : r = none := by
  rcases h with ⟨_, e⟩ | ⟨_, z, e⟩ | ⟨_, _, p, hp, g, e⟩ | ⟨_, _, _, e⟩
  · exact e
  · exact absurd z (far_zr hc ho hz hl hn.2 (by omega) (by omega))
  · have zf := flp_zr ho hp g
    have d1 := flp_dist w p
    have t := dist_tri (xs := c) (ys := w) (zs := flp w p) hl (flp_len w p).symm
    have := code5 hz zf (hl.trans (flp_len w p).symm) (by have := hn.2; omega) hc (flp_oc ho hp) (by omega)
    rw [← this, dist_comm] at d1
    omega
  · exact e
theorem fx_four {c w : List Nat} {r : Option (List Nat)} (h2 : 2 ≤ dist c w) (h : Fx w r) : r ≠ some c := fun e => by
  rcases h with ⟨_, f⟩ | ⟨_, z, f⟩ | ⟨_, _, p, hp, g, f⟩ | ⟨_, _, _, f⟩
  · rw [f] at e; cases e
  · rw [f] at e
    have e := Option.some.inj e
    subst e
    rw [dist_self] at h2; omega
  · rw [f] at e
    have e := Option.some.inj e
    have d1 := flp_dist w p
    rw [e, dist_comm] at d1
    omega
  · rw [f] at e; cases e
/-- the exponent of two -/
def lgF : Nat → Nat → Nat → Nat → Nat
  | 0, _, k, _ => k
  | f + 1, cur, k, a => bif cur == a then k else lgF f (xt cur) (k + 1) a
def lg (a : Nat) : Nat := lgF 255 1 0 a
theorem lg_all : allB 256 (fun a => a == 0 || (p2 (lg a) == a && Nat.blt (lg a) 255)) = true := by decide +kernel
theorem lg_ok {a : Nat} (h : a < 256) (h0 : a ≠ 0) : gpow 2 (lg a) = a ∧ lg a < 255 := by
  have := allB_of lg_all a h
  rw [Bool.or_eq_true, Bool.and_eq_true] at this
  rcases this with z | ⟨z, y⟩
  · exact absurd (eq_of_beq z) h0
  · exact ⟨(gpow_p2 _).trans (eq_of_beq z), Nat.le_of_ble_eq_true y⟩
end Cn
/-! Sv: frames, and what a sieve makes of octets; plain Lean -/
namespace Cn
open PySem PySem.Spec L2
def esc1 (o : Nat) : List Nat := if o = 125 then [125, 93] else if o = 126 then [125, 94] else [o]
def esc (xs : List Nat) : List Nat := xs.flatMap esc1
def frm (p : List Nat) : List Nat := esc (cd p) ++ [126]
def mea (e : Nat) : Option Nat := if e = 93 then some 125 else if e = 94 then some 126 else none
def un : List Nat → Option (List Nat)
  | [] => some []
  | [o] => if o = 125 then none else some [o]
  | o :: e :: t => if o = 125 then (mea e).bind fun v => (un t).map (v :: ·) else (un (e :: t)).map (o :: ·)
theorem un_plain {o : Nat} (h : o ≠ 125) : ∀ t, un (o :: t) = (un t).map (o :: ·)
  | [] => by unfold un; rw [if_neg h]; rfl
  | e :: t => by rw [un, if_neg h]
theorem un_sign {e : Nat} (t : List Nat) : un (125 :: e :: t) = (mea e).bind fun v => (un t).map (v :: ·) := by rw [un, if_pos rfl]
theorem un_end : un [125] = none := rfl
theorem un_oc : ∀ (n : Nat) {xs c : List Nat}, xs.length ≤ n → OcN xs → un xs = some c → OcN c ∧ c.length ≤ xs.length
  | n, [], c, _, _, h => by cases h; exact ⟨(fun _ z => nomatch z), Nat.le_refl 0⟩
  | 0, _ :: _, c, hn, _, _ => absurd hn (by simp)
  | n + 1, o :: t, c, hn, ho, h => by
    rw [List.length_cons] at hn
    by_cases k : o = 125
    · subst k
      match t, h with
      | e :: t, h =>
        rw [un_sign] at h
        obtain ⟨v, hv, h⟩ := Option.bind_eq_some_iff.mp h
        obtain ⟨d, hd, rfl⟩ := Option.map_eq_some_iff.mp h
        rw [List.length_cons] at hn
        obtain ⟨a, b⟩ := un_oc n (by omega) ho.cons.2.cons.2 hd
        refine ⟨fun x hx => ?_, by simp only [List.length_cons]; omega⟩
        rcases List.mem_cons.mp hx with z | z
        · subst z
          unfold mea at hv
          split at hv
          · cases hv; decide
          · split at hv
            · cases hv; decide
            · cases hv
        · exact a x z
    · rw [un_plain k] at h
      obtain ⟨d, hd, rfl⟩ := Option.map_eq_some_iff.mp h
      obtain ⟨a, b⟩ := un_oc n (by omega) ho.cons.2 hd
      refine ⟨fun x hx => ?_, by simp only [List.length_cons]; omega⟩
      rcases List.mem_cons.mp hx with z | z
      · subst z; exact ho.cons.1
      · exact a x z
theorem esc_cons (o : Nat) (xs : List Nat) : esc (o :: xs) = esc1 o ++ esc xs := by unfold esc; rw [List.flatMap_cons]
theorem un_esc : ∀ c : List Nat, un (esc c) = some c
  | [] => rfl
  | o :: c => by
    rw [esc_cons]
    unfold esc1
    by_cases h : o = 125
    · rw [if_pos h]
      show un (125 :: 93 :: esc c) = _
      rw [un_sign, un_esc c, h]; rfl
    · rw [if_neg h]
      by_cases k : o = 126
      · rw [if_pos k]
        show un (125 :: 94 :: esc c) = _
        rw [un_sign, un_esc c, k]; rfl
      · rw [if_neg k]
        show un (o :: esc c) = _
        rw [un_plain h, un_esc c]; rfl
theorem esc1_no (o : Nat) : 126 ∉ esc1 o := by
  unfold esc1
  by_cases h : o = 125
  · rw [if_pos h]; decide
  · rw [if_neg h]
    by_cases k : o = 126
    · rw [if_pos k]; decide
    · rw [if_neg k]; simp only [List.mem_singleton]; exact fun z => k z.symm
theorem esc_no (c : List Nat) : 126 ∉ esc c := fun h => by
  obtain ⟨o, _, k⟩ := List.mem_flatMap.mp h
  exact esc1_no o k
theorem esc1_len (o : Nat) : 1 ≤ (esc1 o).length ∧ (esc1 o).length ≤ 2 := by
  unfold esc1
  by_cases h : o = 125
  · rw [if_pos h]; decide
  · rw [if_neg h]
    by_cases k : o = 126
    · rw [if_pos k]; decide
    · rw [if_neg k]; exact ⟨Nat.le_refl _, by simp⟩
theorem esc_len : ∀ c : List Nat, c.length ≤ (esc c).length ∧ (esc c).length ≤ 2 * c.length
  | [] => ⟨Nat.le_refl 0, Nat.le_refl 0⟩
  | o :: c => by
    rw [esc_cons, List.length_append, List.length_cons]
    have a := esc1_len o
    have b := esc_len c
    omega
theorem esc_oc {c : List Nat} (h : OcN c) : OcN (esc c) := fun d hd => by
  obtain ⟨o, ho, k⟩ := List.mem_flatMap.mp hd
  have := h o ho
  unfold esc1 at k
  by_cases h : o = 125
  · rw [if_pos h] at k; simp only [List.mem_cons, List.not_mem_nil, or_false] at k; omega
  · rw [if_neg h] at k
    by_cases h2 : o = 126
    · rw [if_pos h2] at k; simp only [List.mem_cons, List.not_mem_nil, or_false] at k; omega
    · rw [if_neg h2] at k; simp only [List.mem_singleton] at k; omega
theorem frm_oc {p : List Nat} (h : OcN p) : OcN (frm p) := (esc_oc (cd_oc h)).app fun d hd => by rw [List.mem_singleton.mp hd]; decide
theorem frm_len {p : List Nat} (h : p.length ≤ 251) : (frm p).length ≤ 511 := by
  unfold frm
  have := (esc_len (cd p)).2
  rw [cd_len] at this
  rw [List.length_append, List.length_singleton]; omega
/-! mended, as a function -/
open Classical in
noncomputable def mdN (w : List Nat) : Option (List Nat) := if h : ∃ r, Fx w r then h.choose else none
theorem mdN_ok {w : List Nat} {r : Option (List Nat)} (ho : OcN w) (h : Fx w r) : mdN w = r := by
  have e : ∃ r, Fx w r := ⟨r, h⟩
  unfold mdN
  rw [dif_pos e]
  exact fx_fun ho e.choose_spec h
theorem mdN_zr {w : List Nat} (ho : OcN w) (hn : Ln w) (hz : Zr w) : mdN w = some w := mdN_ok ho (.inr (.inl ⟨hn, hz, rfl⟩))
theorem fx_len {w r : List Nat} (h : Fx w (some r)) : r.length = w.length := by
  rcases h with ⟨_, e⟩ | ⟨_, _, e⟩ | ⟨_, _, p, _, _, e⟩ | ⟨_, _, _, e⟩
  · cases e
  · cases e; rfl
  · cases e; exact flp_len _ _
  · cases e
/-! the sieve -/
structure SvN where
  os : List Nat
  n : Nat
  a : Nat
  b : Nat
  c : Nat
noncomputable def lookN (os : List Nat) (n : Nat) : Option (List Nat × Bool) :=
  if 510 < n then none else (un os).bind fun c => if 4 < c.length ∧ c.length ≤ 255 then (mdN c).map fun r => (r.take (r.length - 4), decide (r = c)) else none
noncomputable def stepN (s : SvN) (x : Nat) : SvN × List (List Nat) :=
  if x ≠ 126 then (⟨if s.n + 1 ≤ 510 then s.os ++ [x] else [], s.n + 1, s.a, s.b, s.c⟩, [])
  else if s.n = 0 then (⟨[], 0, s.a, s.b, s.c⟩, [])
  else match lookN s.os s.n with
    | none => (⟨[], 0, s.a, s.b, s.c + 1⟩, [])
    | some q => (⟨[], 0, s.a + 1, s.b + (if q.2 then 0 else 1), s.c⟩, [q.1])
theorem step_ne {s : SvN} {x : Nat} (h : x ≠ 126) : stepN s x = (⟨if s.n + 1 ≤ 510 then s.os ++ [x] else [], s.n + 1, s.a, s.b, s.c⟩, []) := if_pos h
theorem step_z {s : SvN} {x : Nat} (h : x = 126) (k : s.n = 0) : stepN s x = (⟨[], 0, s.a, s.b, s.c⟩, []) := by
  unfold stepN
  rw [if_neg (fun z => z h), if_pos k]
theorem step_e {s : SvN} {x : Nat} (h : x = 126) (k : ¬ s.n = 0) : stepN s x = match lookN s.os s.n with
    | none => (⟨[], 0, s.a, s.b, s.c + 1⟩, [])
    | some q => (⟨[], 0, s.a + 1, s.b + (if q.2 then 0 else 1), s.c⟩, [q.1]) := by
  unfold stepN
  rw [if_neg (fun z => z h), if_neg k]
noncomputable def runV (s : SvN) : List Nat → SvN × List (List Nat)
  | [] => (s, [])
  | x :: xs => ((runV (stepN s x).1 xs).1, (stepN s x).2 ++ (runV (stepN s x).1 xs).2)
theorem runV_app : ∀ (xs ys : List Nat) (s : SvN), runV s (xs ++ ys) = ((runV (runV s xs).1 ys).1, (runV s xs).2 ++ (runV (runV s xs).1 ys).2)
  | [], ys, s => by show _ = (_, [] ++ _); rw [List.nil_append]; rfl
  | x :: xs, ys, s => by
    show runV s (x :: (xs ++ ys)) = _
    rw [runV, runV_app xs ys, runV, List.append_assoc]
theorem runV_one (s : SvN) (x : Nat) : runV s [x] = stepN s x := by
  rw [runV, runV, List.append_nil]
theorem run_body {b : List Nat} : ∀ {s : SvN}, 126 ∉ b → s.n + b.length ≤ 510 → runV s b = (⟨s.os ++ b, s.n + b.length, s.a, s.b, s.c⟩, []) := by
  induction b with
  | nil => intro s _ _; rw [List.append_nil]; rfl
  | cons x b ih =>
    intro s h1 h2
    rw [List.length_cons] at h2
    have e : stepN s x = (⟨s.os ++ [x], s.n + 1, s.a, s.b, s.c⟩, []) := by
      unfold stepN
      rw [if_pos (fun z => h1 (by rw [z]; exact List.mem_cons_self)), if_pos (show s.n + 1 ≤ 510 by omega)]
    rw [runV, e, ih (fun z => h1 (List.mem_cons_of_mem _ z)) (by show s.n + 1 + b.length ≤ 510; omega)]
    show (SvN.mk (s.os ++ [x] ++ b) (s.n + 1 + b.length) s.a s.b s.c, _) = _
    rw [List.append_assoc, List.length_cons]
    have : s.n + 1 + b.length = s.n + (b.length + 1) := by omega
    rw [this]
    rfl
theorem run_end (s : SvN) (h : s.n = 0) (h2 : s.os = []) : stepN s 126 = (s, []) := by
  unfold stepN
  rw [if_neg (fun z => z rfl), if_pos h]
  cases s
  cases h
  cases h2
  rfl
theorem run_ends (s : SvN) (h : s.n = 0) (h2 : s.os = []) : ∀ k, runV s (List.replicate k 126) = (s, [])
  | 0 => rfl
  | k + 1 => by
    rw [List.replicate_succ, runV, run_end s h h2, run_ends s h h2 k]
    rfl
theorem look_frm {p : List Nat} (ho : OcN p) (h0 : p ≠ []) (hl : p.length ≤ 251) : lookN (esc (cd p)) (esc (cd p)).length = some (p, true) := by
  have h1 : 0 < p.length := List.length_pos_iff.mpr h0
  have := (esc_len (cd p)).2
  have hc := cd_len p
  unfold lookN
  rw [if_neg (by omega), un_esc]
  show (if _ then _ else _) = _
  rw [if_pos ⟨by omega, by omega⟩, mdN_zr (cd_oc ho) ⟨by omega, by omega⟩ (cd_zr ho)]
  show some ((cd p).take ((cd p).length - 4), _) = _
  rw [hc, Nat.add_sub_cancel, decide_eq_true rfl]
  unfold cd
  rw [List.take_left]
theorem run_frm {p : List Nat} {s : SvN} (h : s.n = 0) (h2 : s.os = []) (ho : OcN p) (h0 : p ≠ []) (hl : p.length ≤ 251) : runV s (frm p) = (⟨[], 0, s.a + 1, s.b, s.c⟩, [p]) := by
  have hb := (esc_len (cd p)).2
  have hb1 := (esc_len (cd p)).1
  have hc := cd_len p
  unfold frm
  rw [runV_app, run_body (esc_no _) (by omega), runV_one, h2, h, List.nil_append, Nat.zero_add]
  unfold stepN
  rw [if_neg (fun z => z rfl), if_neg (show ¬ (esc (cd p)).length = 0 by omega)]
  simp only [look_frm ho h0 hl]
  rfl
/-! octets since the last end -/
def cst (n x : Nat) : Nat := if x = 126 then 0 else n + 1
def cnt (n : Nat) (xs : List Nat) : Nat := xs.foldl cst n
theorem step_n (s : SvN) (x : Nat) : (stepN s x).1.n = cst s.n x := by
  unfold stepN cst
  by_cases h : x = 126
  · rw [if_neg (fun z => z h), if_pos h]
    by_cases k : s.n = 0
    · rw [if_pos k]
    · rw [if_neg k]
      cases lookN s.os s.n <;> rfl
  · rw [if_pos h, if_neg h]
theorem run_n : ∀ (xs : List Nat) (s : SvN), (runV s xs).1.n = cnt s.n xs
  | [], s => rfl
  | x :: xs, s => by
    rw [runV]
    show (runV (stepN s x).1 xs).1.n = _
    rw [run_n xs, step_n]; rfl
theorem cnt_app (n : Nat) (xs ys : List Nat) : cnt n (xs ++ ys) = cnt (cnt n xs) ys := List.foldl_append
theorem cnt_le : ∀ (xs : List Nat) (n : Nat), cnt n xs ≤ n + xs.length
  | [], n => Nat.le_refl n
  | x :: xs, n => by
    show cnt (cst n x) xs ≤ _
    have := cnt_le xs (cst n x)
    have : cst n x ≤ n + 1 := by unfold cst; split <;> omega
    rw [List.length_cons]; omega
theorem cnt_ends (n : Nat) : ∀ k, cnt n (List.replicate (k + 1) 126) = 0
  | 0 => rfl
  | k + 1 => by
    rw [List.replicate_succ]
    exact cnt_ends 0 k
theorem cnt_last (xs : List Nat) (x : Nat) : cnt 0 (xs ++ [x]) = if x = 126 then 0 else cnt 0 xs + 1 := cnt_app 0 xs [x]
theorem cnt_back (xs : List Nat) : cnt 0 xs = if 126 ∈ xs then xs.reverse.findIdx (· == 126) else xs.length := by
  have key : ∀ ys : List Nat, cnt 0 ys.reverse = if 126 ∈ ys then ys.findIdx (· == 126) else ys.length := by
    intro ys
    induction ys with
    | nil => rfl
    | cons y ys ih =>
      rw [List.reverse_cons, cnt_last, ih]
      by_cases h : y = 126
      · rw [if_pos h, if_pos (by rw [h]; exact List.mem_cons_self), List.findIdx_cons, h]; rfl
      · rw [if_neg h, List.findIdx_cons, show (y == 126) = false from beq_eq_false_iff_ne.mpr h]
        by_cases k : 126 ∈ ys
        · rw [if_pos k, if_pos (List.mem_cons_of_mem _ k)]; rfl
        · rw [if_neg k, if_neg (fun z => (List.mem_cons.mp z).elim (fun e => h e.symm) k)]; rfl
  have := key xs.reverse
  rw [List.reverse_reverse] at this
  rw [this]
  simp only [List.mem_reverse, List.length_reverse]
/-- a stream of whole frames -/
structure Whl (st : List Nat) (due : List (List Nat)) : Prop where
  run : ∀ s : SvN, s.n = 0 → s.os = [] → runV s st = (⟨[], 0, s.a + due.length, s.b, s.c⟩, due)
  few : ∀ k, cnt 0 (st.take k) ≤ 510
theorem Whl.nil : Whl [] [] := ⟨fun s h h2 => by
  cases s
  cases h
  cases h2
  rfl, fun k => by rw [List.take_nil]; decide⟩
theorem Whl.zero {st : List Nat} {due : List (List Nat)} (h : Whl st due) : cnt 0 st = 0 := by
  have := run_n st ⟨[], 0, 0, 0, 0⟩
  rw [h.run _ rfl rfl] at this
  exact this.symm
theorem Whl.add {st p : List Nat} {due : List (List Nat)} (h : Whl st due) (ho : OcN p) (h0 : p ≠ []) (hl : p.length ≤ 251) (k : Nat) : Whl (st ++ frm p ++ List.replicate k 126) (due ++ [p]) := by
  refine ⟨fun s h1 h2 => ?_, fun j => ?_⟩
  · rw [runV_app, runV_app, h.run s h1 h2, run_frm rfl rfl ho h0 hl, run_ends _ rfl rfl]
    simp only [List.append_nil, List.length_append, List.length_singleton, Nat.add_assoc]
  · have hb : (esc (cd p)).length ≤ 510 := by
      have := (esc_len (cd p)).2
      have hc := cd_len p
      omega
    have e : st ++ frm p ++ List.replicate k 126 = st ++ (esc (cd p) ++ List.replicate (k + 1) 126) := by
      unfold frm
      rw [List.replicate_succ]
      simp only [List.append_assoc, List.singleton_append]
    rw [e, List.take_append]
    by_cases c : j ≤ st.length
    · rw [show j - st.length = 0 by omega, List.take_zero, List.append_nil]
      exact h.few j
    · rw [List.take_of_length_le (by omega), cnt_app, h.zero, List.take_append]
      generalize j - st.length = i
      by_cases c2 : i ≤ (esc (cd p)).length
      · rw [show i - (esc (cd p)).length = 0 by omega, List.take_zero, List.append_nil]
        have := cnt_le ((esc (cd p)).take i) 0
        rw [List.length_take] at this
        omega
      · obtain ⟨m, hm⟩ : ∃ m, min (i - (esc (cd p)).length) (k + 1) = m + 1 := ⟨min (i - (esc (cd p)).length) (k + 1) - 1, by omega⟩
        rw [List.take_of_length_le (show (esc (cd p)).length ≤ i by omega), List.take_replicate, hm, cnt_app, cnt_ends]
        exact Nat.zero_le _
end Cn
namespace K58
open PySem PySem.Spec L2 Cn
def top (i : Nat) : Stmt := PySem.Challenge.pw_cairnhouse_k58_sieves_of_spoilt_streams.main.body.getD i (.Pass ⟨0, 0, 0, 0⟩)
abbrev s__law_draws : Stmt := top 29
abbrev s__law_spoilt : Stmt := top 38
abbrev s__law_unwritten : Stmt := top 35
abbrev s__law_mul : Stmt := top 30
abbrev s__law_value : Stmt := top 31
abbrev s__law_mended : Stmt := top 33
abbrev s__law_packet : Stmt := top 36
abbrev s__law_read : Stmt := top 39
abbrev s_mul : Stmt := top 5
abbrev s_checked : Stmt := top 22
abbrev s_frame : Stmt := top 25
abbrev s__law_octets : Stmt := top 37
abbrev s_Sieve____init__ : Stmt := inClass (top 27) 0
abbrev s__unwritten : Stmt := top 26
abbrev s_value_at : Stmt := top 20
abbrev s__values : Stmt := top 21
abbrev s__power_of : Stmt := top 23
abbrev s_power : Stmt := top 6
abbrev s_inv : Stmt := top 7
abbrev s_div : Stmt := top 8
abbrev s_mended : Stmt := top 24
abbrev s_Sieve___look : Stmt := inClass (top 27) 1
abbrev s_Sieve__take : Stmt := inClass (top 27) 2
abbrev s_Sieve__told : Stmt := inClass (top 27) 4
abbrev s_Sieve__held : Stmt := inClass (top 27) 3
abbrev s_law : Stmt := top 40
/-- what the top has written -/
structure Tx (K : PySem.W.Frag) (mg : Str → Option Value) where
  e_Sieve : Addr
  gc_Sieve : mg "Sieve" = some (.ref e_Sieve)
  cl_Sieve : Cls K e_Sieve
  na_Sieve__octets : NoAttr K e_Sieve "_octets"
  na_Sieve__count : NoAttr K e_Sieve "_count"
  na_Sieve__told : NoAttr K e_Sieve "_told"
  gda_ESCAPED : Addr
  gdm_ESCAPED : mg "ESCAPED" = some (.ref gda_ESCAPED)
  gdv_ESCAPED : GDct K gda_ESCAPED [(125, 93), (126, 94)]
  gda_MEANT : Addr
  gdm_MEANT : mg "MEANT" = some (.ref gda_MEANT)
  gdv_MEANT : GDct K gda_MEANT [(93, 125), (94, 126)]
  a__law_draws : Addr
  d__law_draws : FuncData
  F__law_draws : Fun K "_law_draws" "_law_draws" s__law_draws a__law_draws d__law_draws
  b__law_draws : Binds K d__law_draws ["script", "many"] []
  g__law_draws : mg "_law_draws" = some (.ref a__law_draws)
  a__law_spoilt : Addr
  d__law_spoilt : FuncData
  F__law_spoilt : Fun K "_law_spoilt" "_law_spoilt" s__law_spoilt a__law_spoilt d__law_spoilt
  b__law_spoilt : Binds K d__law_spoilt ["stream", "draws", "many"] []
  g__law_spoilt : mg "_law_spoilt" = some (.ref a__law_spoilt)
  a__law_unwritten : Addr
  d__law_unwritten : FuncData
  F__law_unwritten : Fun K "_law_unwritten" "_law_unwritten" s__law_unwritten a__law_unwritten d__law_unwritten
  b__law_unwritten : Binds K d__law_unwritten ["octets"] []
  g__law_unwritten : mg "_law_unwritten" = some (.ref a__law_unwritten)
  a__law_mul : Addr
  d__law_mul : FuncData
  F__law_mul : Fun K "_law_mul" "_law_mul" s__law_mul a__law_mul d__law_mul
  b__law_mul : Binds K d__law_mul ["a", "b"] []
  g__law_mul : mg "_law_mul" = some (.ref a__law_mul)
  a__law_value : Addr
  d__law_value : FuncData
  F__law_value : Fun K "_law_value" "_law_value" s__law_value a__law_value d__law_value
  b__law_value : Binds K d__law_value ["octets", "x"] []
  g__law_value : mg "_law_value" = some (.ref a__law_value)
  a__law_mended : Addr
  d__law_mended : FuncData
  F__law_mended : Fun K "_law_mended" "_law_mended" s__law_mended a__law_mended d__law_mended
  b__law_mended : Binds K d__law_mended ["octets"] []
  g__law_mended : mg "_law_mended" = some (.ref a__law_mended)
  a__law_packet : Addr
  d__law_packet : FuncData
  F__law_packet : Fun K "_law_packet" "_law_packet" s__law_packet a__law_packet d__law_packet
  b__law_packet : Binds K d__law_packet ["octets"] []
  g__law_packet : mg "_law_packet" = some (.ref a__law_packet)
  a__law_read : Addr
  d__law_read : FuncData
  F__law_read : Fun K "_law_read" "_law_read" s__law_read a__law_read d__law_read
  b__law_read : Binds K d__law_read ["stream"] []
  g__law_read : mg "_law_read" = some (.ref a__law_read)
  a_mul : Addr
  d_mul : FuncData
  F_mul : Fun K "mul" "mul" s_mul a_mul d_mul
  b_mul : Binds K d_mul ["a", "b"] []
  g_mul : mg "mul" = some (.ref a_mul)
  a_checked : Addr
  d_checked : FuncData
  F_checked : Fun K "checked" "checked" s_checked a_checked d_checked
  b_checked : Binds K d_checked ["octets"] []
  g_checked : mg "checked" = some (.ref a_checked)
  a_frame : Addr
  d_frame : FuncData
  F_frame : Fun K "frame" "frame" s_frame a_frame d_frame
  b_frame : Binds K d_frame ["packet"] []
  g_frame : mg "frame" = some (.ref a_frame)
  a__law_octets : Addr
  d__law_octets : FuncData
  F__law_octets : Fun K "_law_octets" "_law_octets" s__law_octets a__law_octets d__law_octets
  b__law_octets : Binds K d__law_octets ["draws", "many"] []
  g__law_octets : mg "_law_octets" = some (.ref a__law_octets)
  a_Sieve____init__ : Addr
  d_Sieve____init__ : FuncData
  F_Sieve____init__ : Fun K "__init__" "Sieve.__init__" s_Sieve____init__ a_Sieve____init__ d_Sieve____init__
  b_Sieve____init__ : Binds K d_Sieve____init__ ["self"] []
  mk_Sieve : Mk K e_Sieve a_Sieve____init__
  a__unwritten : Addr
  d__unwritten : FuncData
  F__unwritten : Fun K "_unwritten" "_unwritten" s__unwritten a__unwritten d__unwritten
  b__unwritten : Binds K d__unwritten ["octets"] []
  g__unwritten : mg "_unwritten" = some (.ref a__unwritten)
  a_value_at : Addr
  d_value_at : FuncData
  F_value_at : Fun K "value_at" "value_at" s_value_at a_value_at d_value_at
  b_value_at : Binds K d_value_at ["octets", "x"] []
  g_value_at : mg "value_at" = some (.ref a_value_at)
  a__values : Addr
  d__values : FuncData
  F__values : Fun K "_values" "_values" s__values a__values d__values
  b__values : Binds K d__values ["octets"] []
  g__values : mg "_values" = some (.ref a__values)
  a__power_of : Addr
  d__power_of : FuncData
  F__power_of : Fun K "_power_of" "_power_of" s__power_of a__power_of d__power_of
  b__power_of : Binds K d__power_of ["octet"] []
  g__power_of : mg "_power_of" = some (.ref a__power_of)
  a_power : Addr
  d_power : FuncData
  F_power : Fun K "power" "power" s_power a_power d_power
  b_power : Binds K d_power ["a", "n"] []
  g_power : mg "power" = some (.ref a_power)
  a_inv : Addr
  d_inv : FuncData
  F_inv : Fun K "inv" "inv" s_inv a_inv d_inv
  b_inv : Binds K d_inv ["a"] []
  g_inv : mg "inv" = some (.ref a_inv)
  a_div : Addr
  d_div : FuncData
  F_div : Fun K "div" "div" s_div a_div d_div
  b_div : Binds K d_div ["a", "b"] []
  g_div : mg "div" = some (.ref a_div)
  a_mended : Addr
  d_mended : FuncData
  F_mended : Fun K "mended" "mended" s_mended a_mended d_mended
  b_mended : Binds K d_mended ["octets"] []
  g_mended : mg "mended" = some (.ref a_mended)
  a_Sieve___look : Addr
  d_Sieve___look : FuncData
  F_Sieve___look : Fun K "_look" "Sieve._look" s_Sieve___look a_Sieve___look d_Sieve___look
  b_Sieve___look : Binds K d_Sieve___look ["self"] []
  h_Sieve___look : Meth K e_Sieve "_look" a_Sieve___look
  a_Sieve__take : Addr
  d_Sieve__take : FuncData
  F_Sieve__take : Fun K "take" "Sieve.take" s_Sieve__take a_Sieve__take d_Sieve__take
  b_Sieve__take : Binds K d_Sieve__take ["self", "octets"] []
  h_Sieve__take : Meth K e_Sieve "take" a_Sieve__take
  a_Sieve__told : Addr
  d_Sieve__told : FuncData
  F_Sieve__told : Fun K "told" "Sieve.told" s_Sieve__told a_Sieve__told d_Sieve__told
  b_Sieve__told : Binds K d_Sieve__told ["self"] []
  h_Sieve__told : Meth K e_Sieve "told" a_Sieve__told
  a_Sieve__held : Addr
  d_Sieve__held : FuncData
  F_Sieve__held : Fun K "held" "Sieve.held" s_Sieve__held a_Sieve__held d_Sieve__held
  b_Sieve__held : Binds K d_Sieve__held ["self"] []
  h_Sieve__held : Meth K e_Sieve "held" a_Sieve__held
  a_law : Addr
  d_law : FuncData
  F_law : Fun K "law" "law" s_law a_law d_law
  b_law : Binds K d_law ["script"] []
  g_law : mg "law" = some (.ref a_law)
  b_abs : mg "abs" = none
  b_int : mg "int" = none
  b_len : mg "len" = none
  b_list : mg "list" = none
  b_max : mg "max" = none
  b_min : mg "min" = none
  b_range : mg "range" = none
  b_tuple : mg "tuple" = none
  e_ZeroElement : Addr
  x_ZeroElement : XcF K mg "ZeroElement" e_ZeroElement
  e_BadFrame : Addr
  x_BadFrame : XcF K mg "BadFrame" e_BadFrame
  k_CHECKS : Tok
  c_CHECKS : mg "CHECKS" = some (.int 4 k_CHECKS)
  k_END : Tok
  c_END : mg "END" = some (.int 126 k_END)
  k_ESCAPE : Tok
  c_ESCAPE : mg "ESCAPE" = some (.int 125 k_ESCAPE)
  k_LONGEST : Tok
  c_LONGEST : mg "LONGEST" = some (.int 255 k_LONGEST)
  k_LONGEST_PACKET : Tok
  c_LONGEST_PACKET : mg "LONGEST_PACKET" = some (.int 251 k_LONGEST_PACKET)
  k_MOST_HELD : Tok
  c_MOST_HELD : mg "MOST_HELD" = some (.int 510 k_MOST_HELD)
  ga_DIVISOR : Addr
  gt_DIVISOR : mg "DIVISOR" = some (.ref ga_DIVISOR)
  gv_DIVISOR : GTup K ga_DIVISOR [15, 54, 120, 64]
  ga_POINTS : Addr
  gt_POINTS : mg "POINTS" = some (.ref ga_POINTS)
  gv_POINTS : GTup K ga_POINTS [1, 2, 4, 8]
variable {P : Program} {w : World} {K : PySem.W.Frag} {mg : Str → Option Value} {base : Heap}
abbrev OSieve := (List Int) × Int × (List Int)
def eSieve (o : OSieve) : T := .obj "Sieve" ["_octets", "_count", "_told"] [.lst ((o.1).map fun x => .imm (D.int x)), .imm (D.int o.2.1), .lst ((o.2.2).map fun x => .imm (D.int x))]
theorem sc__law_draws : FnScope ["script", "many", "draws", "seed", "cell", "k", "number"] ["script", "many"] (defScope s__law_draws) := ⟨rfl, rfl, rfl, by decide +kernel, rfl, by decide +kernel, by decide +kernel⟩
noncomputable def _law_draws (script : (List Int)) (many : Int) : R (List Int) :=
  ((R.ok () >>= fun p => .ok ((fun p : Unit => ([] : List Int)) p)) >>= fun draws_1 => (R.ok (7 : Int) >>= fun seed_2 => (((R.ok script >>= fun xs => R.ok none >>= fun i => (R.ok (63 : Int) >>= fun i => .ok (some i)) >>= fun j => .ok (cutL xs i j)) >>= fun xs => forS (fun (x_4 : Int) (s_3 : (List Int) × Int) => ((R.ok x_4 >>= fun i => .ok (if i < 0 then -i else i)) >>= fun number_5 => (((((R.ok s_3.2 >>= fun x => .ok (x * 48271)) >>= fun x => R.ok number_5 >>= fun y => .ok (x + y)) >>= fun x => R.ok (11 : Int) >>= fun y => .ok (x + y)) >>= fun x => .ok (x % 2147483647)) >>= fun seed_6 => (((R.ok number_5 >>= fun x => R.ok (1000000000000000000 : Int) >>= fun y => .ok (decide (y ≤ x))) >>= fun x => if x then (((R.ok (60 : Int) >>= fun n => ofO (rangeO 0 n)) >>= fun xs => forS (fun (x_9 : Int) (s_8 : (List Int) × Int) => (((R.ok s_8.2 >>= fun x => R.ok (0 : Int) >>= fun y => .ok (decide (y < x))) >>= fun x => if x then (((R.ok s_8.2 >>= fun x => .ok (x % 1009)) >>= fun x => ofO (appO s_8.1 x)) >>= fun draws_11 => ((R.ok s_8.2 >>= fun x => .ok (x / 1009)) >>= fun number_12 => R.ok (draws_11, number_12))) else R.ok (s_8.1, s_8.2)) >>= fun j_10 : (List Int) × Int => R.ok (j_10.1, j_10.2))) xs (s_3.1, number_5)) >>= fun s_13 : (List Int) × Int => R.ok s_13.1) else ((((((R.ok seed_6 >>= fun x => .ok (x * 16807)) >>= fun x => R.ok (5 : Int) >>= fun y => .ok (x + y)) >>= fun x => .ok (x / 3)) >>= fun x => .ok (x % 65521)) >>= fun x => ofO (appO s_3.1 x)) >>= fun draws_14 => R.ok draws_14)) >>= fun j_7 : (List Int) => R.ok (j_7, seed_6))))) xs (draws_1, seed_2)) >>= fun s_15 : (List Int) × Int => (((R.ok many >>= fun n => ofO (rangeO 0 n)) >>= fun xs => forS (fun (x_17 : Int) (s_16 : (List Int) × Int) => ((((R.ok s_16.1 >>= fun xs => .ok (xs.length : Int)) >>= fun x => R.ok many >>= fun y => .ok (decide (x < y))) >>= fun x => if x then (((((R.ok s_16.2 >>= fun x => .ok (x * 69621)) >>= fun x => R.ok x_17 >>= fun y => .ok (x + y)) >>= fun x => R.ok (1 : Int) >>= fun y => .ok (x + y)) >>= fun x => .ok (x % 2147483647)) >>= fun seed_19 => ((((R.ok seed_19 >>= fun x => .ok (x / 7)) >>= fun x => .ok (x % 65521)) >>= fun x => ofO (appO s_16.1 x)) >>= fun draws_20 => R.ok (draws_20, seed_19))) else R.ok (s_16.1, s_16.2)) >>= fun j_18 : (List Int) × Int => R.ok (j_18.1, j_18.2))) xs (s_15.1, s_15.2)) >>= fun s_21 : (List Int) × Int => ((R.ok s_21.1 >>= fun xs => R.ok none >>= fun i => (R.ok many >>= fun i => .ok (some i)) >>= fun j => .ok (cutL xs i j)) >>= fun r => .ok (r))))))
theorem ok__law_draws (Tx : Tx K mg) : FnOk P w K mg base (L2.CX P w) 1 Tx.a__law_draws Tx.d__law_draws ["script", "many"]
    (SpF ⟨K, mg⟩ (fun p : (List Int) × Int × Unit => [D.frl ((p.1).map D.int), D.int p.2.1]) (fun r : (List Int) => .lst ((r).map fun x => .imm (D.int x))) (fun p => _law_draws p.1 p.2.1)) := by
  refine fn_pure Tx.F__law_draws sc__law_draws (fun _ => rfl) fun cdv A outer s H E hr p => ?_
  obtain ⟨script, many, _⟩ := p
  exact bk_cons (st_set 2 (df_disp (ei := D.int) da_nil (fun p : Unit => ([] : List Int))) trivial rfl sc__law_draws.nd) fun draws_1 => bk_cons (st_set 3 (df_of_dd dd_int) trivial rfl sc__law_draws.nd) fun seed_2 => bk_cons (Γ1 := fun s_3 : (List Int) × Int => [.ow (.imm (D.frl ((script).map D.int))), .ow (.imm (D.int many)), .ow (.lst ((s_3.1).map fun x => .imm (D.int x))), .ow (.imm (D.int s_3.2)), .un, .un, .un]) (st_forS (Γs := fun s_3 : (List Int) × Int => [.ow (.imm (D.frl ((script).map D.int))), .ow (.imm (D.int many)), .ow (.lst ((s_3.1).map fun x => .imm (D.int x))), .ow (.imm (D.int s_3.2)), .un, .un, .un]) (ei := D.int) (draws_1, seed_2) (passes_of rfl) rfl (di_list (ei := D.int) (dd_list (ε := D.int) (df_slL (ei := D.int) (dl_frl (ei := D.int) (dd_var (emb := (fun xs : (List Int) => D.frl (xs.map D.int))) 0 rfl)) do_none (do_some dd_int)))) (fun s_3 x_4 => (dg_name 4 sc__law_draws.nd)) (fun s_3 x_4 => bk_cons (st_set 6 (df_of_dd (dd_absI (dd_var (emb := D.int) 4 rfl) Tx.b_abs)) trivial rfl sc__law_draws.nd) fun number_5 => bk_cons (st_set 3 (df_of_dd (dd_modC (dd_intI (dd_add (dd_add (dd_mulC (dd_var (emb := D.int) 3 rfl) dd_int (by decide)) (dd_var (emb := D.int) 6 rfl)) dd_int) Tx.b_int) dd_int (by decide))) trivial rfl sc__law_draws.nd) fun seed_6 => bk_cons (Γ1 := fun j_7 : (List Int) => [.ow (.imm (D.frl ((script).map D.int))), .ow (.imm (D.int many)), .ow (.lst ((j_7).map fun x => .imm (D.int x))), .ow (.imm (D.int seed_6)), .ow (.imm (D.int x_4)), .un, .un]) (st_if (dt_ge (dd_var (emb := D.int) 6 rfl) (dd_powC dd_int dd_int (powO_lit (by decide +kernel) (by decide +kernel)))) (bk_cons (Γ1 := fun s_8 : (List Int) × Int => [.ow (.imm (D.frl ((script).map D.int))), .ow (.imm (D.int many)), .ow (.lst ((s_8.1).map fun x => .imm (D.int x))), .ow (.imm (D.int seed_6)), .ow (.imm (D.int x_4)), .un, .ow (.imm (D.int s_8.2))]) (st_forS (Γs := fun s_8 : (List Int) × Int => [.ow (.imm (D.frl ((script).map D.int))), .ow (.imm (D.int many)), .ow (.lst ((s_8.1).map fun x => .imm (D.int x))), .ow (.imm (D.int seed_6)), .ow (.imm (D.int x_4)), .un, .ow (.imm (D.int s_8.2))]) (ei := D.int) (s_3.1, number_5) (passes_of rfl) rfl (di_range1 dd_int Tx.b_range) (fun s_8 x_9 => (dg_name 5 sc__law_draws.nd)) (fun s_8 x_9 => bk_cons (Γ1 := fun j_10 : (List Int) × Int => [.ow (.imm (D.frl ((script).map D.int))), .ow (.imm (D.int many)), .ow (.lst ((j_10.1).map fun x => .imm (D.int x))), .ow (.imm (D.int seed_6)), .ow (.imm (D.int x_4)), .ow (.imm (D.int x_9)), .ow (.imm (D.int j_10.2))]) (st_if (dt_gt (dd_var (emb := D.int) 6 rfl) dd_int) (bk_cons (st_append (ei := D.int) 2 rfl (dd_modC (dd_intI (dd_var (emb := D.int) 6 rfl) Tx.b_int) dd_int (by decide)) trivial) fun draws_11 => bk_cons (st_set 6 (df_of_dd (dd_divC (dd_var (emb := D.int) 6 rfl) dd_int (by decide))) trivial rfl sc__law_draws.nd) fun number_12 => bk_nil (o := (draws_11, number_12)) rfl ⟨rfl, rfl, rfl, rfl, rfl, rfl, rfl, trivial⟩) (bk_nil (o := (s_8.1, s_8.2)) rfl ⟨rfl, rfl, rfl, rfl, rfl, rfl, rfl, trivial⟩) trivial) fun j_10 => bk_nil (o := (j_10.1, j_10.2)) rfl ⟨rfl, rfl, rfl, rfl, rfl, rfl, trivial⟩) ⟨rfl, rfl, rfl, rfl, rfl, rfl, trivial⟩ trivial) fun s_13 => bk_nil (o := s_13.1) rfl ⟨rfl, rfl, rfl, rfl, rfl, trivial⟩) (bk_cons (st_append (ei := D.int) 2 rfl (dd_modC (dd_divC (dd_intI (dd_add (dd_mulC (dd_var (emb := D.int) 3 rfl) dd_int (by decide)) dd_int) Tx.b_int) dd_int (by decide)) dd_int (by decide)) trivial) fun draws_14 => bk_nil (o := draws_14) rfl ⟨rfl, rfl, rfl, rfl, rfl, trivial⟩) trivial) fun j_7 => bk_nil (o := (j_7, seed_6)) rfl ⟨rfl, rfl, rfl, rfl, trivial⟩) ⟨rfl, rfl, rfl, rfl, trivial⟩ trivial) fun s_15 => bk_cons (Γ1 := fun s_16 : (List Int) × Int => [.ow (.imm (D.frl ((script).map D.int))), .ow (.imm (D.int many)), .ow (.lst ((s_16.1).map fun x => .imm (D.int x))), .ow (.imm (D.int s_16.2)), .un, .un, .un]) (st_forS (Γs := fun s_16 : (List Int) × Int => [.ow (.imm (D.frl ((script).map D.int))), .ow (.imm (D.int many)), .ow (.lst ((s_16.1).map fun x => .imm (D.int x))), .ow (.imm (D.int s_16.2)), .un, .un, .un]) (ei := D.int) (s_15.1, s_15.2) (passes_of rfl) rfl (di_range1 (dd_var (emb := D.int) 1 rfl) Tx.b_range) (fun s_16 x_17 => (dg_name 5 sc__law_draws.nd)) (fun s_16 x_17 => bk_cons (Γ1 := fun j_18 : (List Int) × Int => [.ow (.imm (D.frl ((script).map D.int))), .ow (.imm (D.int many)), .ow (.lst ((j_18.1).map fun x => .imm (D.int x))), .ow (.imm (D.int j_18.2)), .un, .ow (.imm (D.int x_17)), .un]) (st_if (dt_lt (dd_lenL (ei := D.int) (dl_own (ei := D.int) (db_var (emb := (fun xs : (List Int) => T.lst (xs.map fun x => T.imm (D.int x)))) 2 rfl)) Tx.b_len) (dd_var (emb := D.int) 1 rfl)) (bk_cons (st_set 3 (df_of_dd (dd_modC (dd_intI (dd_add (dd_add (dd_mulC (dd_var (emb := D.int) 3 rfl) dd_int (by decide)) (dd_var (emb := D.int) 5 rfl)) dd_int) Tx.b_int) dd_int (by decide))) trivial rfl sc__law_draws.nd) fun seed_19 => bk_cons (st_append (ei := D.int) 2 rfl (dd_modC (dd_divC (dd_intI (dd_var (emb := D.int) 3 rfl) Tx.b_int) dd_int (by decide)) dd_int (by decide)) trivial) fun draws_20 => bk_nil (o := (draws_20, seed_19)) rfl ⟨rfl, rfl, rfl, rfl, rfl, trivial⟩) (bk_nil (o := (s_16.1, s_16.2)) rfl ⟨rfl, rfl, rfl, rfl, rfl, trivial⟩) trivial) fun j_18 => bk_nil (o := (j_18.1, j_18.2)) rfl ⟨rfl, rfl, rfl, rfl, trivial⟩) ⟨rfl, rfl, rfl, rfl, trivial⟩ trivial) fun s_21 => bk_ret (df_slL (ei := D.int) (dl_own (ei := D.int) (db_var (emb := (fun xs : (List Int) => T.lst (xs.map fun x => T.imm (D.int x)))) 2 rfl)) do_none (do_some (dd_var (emb := D.int) 1 rfl))) (g := fun r => r) (fun _ => rfl) trivial trivial

theorem sc__law_spoilt : FnScope ["stream", "draws", "many", "k", "at", "way"] ["stream", "draws", "many"] (defScope s__law_spoilt) := ⟨rfl, rfl, rfl, by decide +kernel, rfl, by decide +kernel, by decide +kernel⟩
noncomputable def _law_spoilt (stream : (List Int)) (draws : (List Int)) (many : Int) : R (List Int) :=
  (R.ok stream >>= fun stream_1 => (((R.ok many >>= fun n => ofO (rangeO 0 n)) >>= fun xs => forS (fun (x_3 : Int) (s_2 : (List Int)) => ((((R.ok draws >>= fun xs => (R.ok (2 : Int) >>= fun x => R.ok x_3 >>= fun y => ofO (mulO x y)) >>= fun i => ofO (atI xs i)) >>= fun x => (R.ok (1 : Int) >>= fun x => (R.ok s_2 >>= fun xs => .ok (xs.length : Int)) >>= fun y => .ok (if y > x then y else x)) >>= fun y => ofO (modO x y)) >>= fun p => (((R.ok draws >>= fun xs => ((R.ok (2 : Int) >>= fun x => R.ok x_3 >>= fun y => ofO (mulO x y)) >>= fun x => R.ok (1 : Int) >>= fun y => .ok (x + y)) >>= fun i => ofO (atI xs i)) >>= fun x => .ok (x % 5)) >>= fun q => .ok (p, q))) >>= fun u_4 => (((R.ok u_4.2 >>= fun x => R.ok (2 : Int) >>= fun y => .ok (decide (x < y))) >>= fun x => if x then ((((R.ok s_2 >>= fun xs => R.ok none >>= fun i => (R.ok u_4.1 >>= fun i => .ok (some i)) >>= fun j => .ok (cutL xs i j)) >>= fun xs => (((((R.ok draws >>= fun xs => ((R.ok (2 : Int) >>= fun x => R.ok x_3 >>= fun y => ofO (mulO x y)) >>= fun x => R.ok (1 : Int) >>= fun y => .ok (x + y)) >>= fun i => ofO (atI xs i)) >>= fun x => .ok (x / 5)) >>= fun x => .ok (x % 256)) >>= fun x => R.ok () >>= fun y => .ok (x, y)) >>= fun p => .ok ((fun p : Int × Unit => ([p.1] : List Int)) p)) >>= fun ys => ofO (catO xs ys)) >>= fun xs => (R.ok s_2 >>= fun xs => ((R.ok u_4.1 >>= fun x => R.ok (1 : Int) >>= fun y => .ok (x + y)) >>= fun i => .ok (some i)) >>= fun i => R.ok none >>= fun j => .ok (cutL xs i j)) >>= fun ys => ofO (catO xs ys)) >>= fun stream_6 => R.ok stream_6) else (((R.ok u_4.2 >>= fun x => R.ok (2 : Int) >>= fun y => .ok (decide (x = y))) >>= fun x => if x then (((R.ok s_2 >>= fun xs => R.ok none >>= fun i => (R.ok u_4.1 >>= fun i => .ok (some i)) >>= fun j => .ok (cutL xs i j)) >>= fun xs => (R.ok s_2 >>= fun xs => ((R.ok u_4.1 >>= fun x => R.ok (1 : Int) >>= fun y => .ok (x + y)) >>= fun i => .ok (some i)) >>= fun i => R.ok none >>= fun j => .ok (cutL xs i j)) >>= fun ys => ofO (catO xs ys)) >>= fun stream_8 => R.ok stream_8) else (((R.ok u_4.2 >>= fun x => R.ok (3 : Int) >>= fun y => .ok (decide (x = y))) >>= fun x => if x then ((((R.ok s_2 >>= fun xs => R.ok none >>= fun i => (R.ok u_4.1 >>= fun i => .ok (some i)) >>= fun j => .ok (cutL xs i j)) >>= fun xs => (R.ok s_2 >>= fun xs => (R.ok u_4.1 >>= fun i => .ok (some i)) >>= fun i => ((R.ok u_4.1 >>= fun x => R.ok (1 : Int) >>= fun y => .ok (x + y)) >>= fun i => .ok (some i)) >>= fun j => .ok (cutL xs i j)) >>= fun ys => ofO (catO xs ys)) >>= fun xs => (R.ok s_2 >>= fun xs => (R.ok u_4.1 >>= fun i => .ok (some i)) >>= fun i => R.ok none >>= fun j => .ok (cutL xs i j)) >>= fun ys => ofO (catO xs ys)) >>= fun stream_10 => R.ok stream_10) else (((((R.ok s_2 >>= fun xs => R.ok none >>= fun i => (R.ok u_4.1 >>= fun i => .ok (some i)) >>= fun j => .ok (cutL xs i j)) >>= fun xs => (R.ok s_2 >>= fun xs => ((R.ok u_4.1 >>= fun x => R.ok (1 : Int) >>= fun y => .ok (x + y)) >>= fun i => .ok (some i)) >>= fun i => ((R.ok u_4.1 >>= fun x => R.ok (2 : Int) >>= fun y => .ok (x + y)) >>= fun i => .ok (some i)) >>= fun j => .ok (cutL xs i j)) >>= fun ys => ofO (catO xs ys)) >>= fun xs => (R.ok s_2 >>= fun xs => (R.ok u_4.1 >>= fun i => .ok (some i)) >>= fun i => ((R.ok u_4.1 >>= fun x => R.ok (1 : Int) >>= fun y => .ok (x + y)) >>= fun i => .ok (some i)) >>= fun j => .ok (cutL xs i j)) >>= fun ys => ofO (catO xs ys)) >>= fun xs => (R.ok s_2 >>= fun xs => ((R.ok u_4.1 >>= fun x => R.ok (2 : Int) >>= fun y => .ok (x + y)) >>= fun i => .ok (some i)) >>= fun i => R.ok none >>= fun j => .ok (cutL xs i j)) >>= fun ys => ofO (catO xs ys)) >>= fun stream_11 => R.ok stream_11)) >>= fun j_9 : (List Int) => R.ok j_9)) >>= fun j_7 : (List Int) => R.ok j_7)) >>= fun j_5 : (List Int) => R.ok j_5))) xs stream_1) >>= fun s_12 : (List Int) => R.ok (s_12)))
theorem ok__law_spoilt (Tx : Tx K mg) : FnOk P w K mg base (L2.CX P w) 1 Tx.a__law_spoilt Tx.d__law_spoilt ["stream", "draws", "many"]
    (SpF ⟨K, mg⟩ (fun p : (List Int) × (List Int) × Int × Unit => [D.lst ((p.1).map D.int), D.lst ((p.2.1).map D.int), D.int p.2.2.1]) (fun r : (List Int) => .lst ((r).map fun x => .imm (D.int x))) (fun p => _law_spoilt p.1 p.2.1 p.2.2.1)) := by
  refine fn_pure Tx.F__law_spoilt sc__law_spoilt (fun _ => rfl) fun cdv A outer s H E hr p => ?_
  obtain ⟨stream, draws, many, _⟩ := p
  exact bk_cons (st_set 0 (df_listL (ei := D.int) (dl_imm (ei := D.int) (dd_var (emb := (fun xs : (List Int) => D.lst (xs.map D.int))) 0 rfl)) Tx.b_list) trivial rfl sc__law_spoilt.nd) fun stream_1 => bk_cons (Γ1 := fun s_2 : (List Int) => [.ow (.lst ((s_2).map fun x => .imm (D.int x))), .ow (.imm (D.lst ((draws).map D.int))), .ow (.imm (D.int many)), .un, .un, .un]) (st_forS (Γs := fun s_2 : (List Int) => [.ow (.lst ((s_2).map fun x => .imm (D.int x))), .ow (.imm (D.lst ((draws).map D.int))), .ow (.imm (D.int many)), .un, .un, .un]) (ei := D.int) stream_1 (passes_of rfl) rfl (di_range1 (dd_var (emb := D.int) 2 rfl) Tx.b_range) (fun s_2 x_3 => (dg_name 3 sc__law_spoilt.nd)) (fun s_2 x_3 => bk_cons (st_par2 4 5 (by decide) rfl sc__law_spoilt.nd (df_of_dd (dd_mod (dd_intI (dd_ixL (ei := D.int) (dl_imm (ei := D.int) (dd_var (emb := (fun xs : (List Int) => D.lst (xs.map D.int))) 1 rfl)) (dd_mul dd_int (dd_var (emb := D.int) 3 rfl))) Tx.b_int) (dd_two_ints (f := fun x y => if y > x then y else x) (call_max2 rfl) dd_int (dd_lenL (ei := D.int) (dl_own (ei := D.int) (db_var (emb := (fun xs : (List Int) => T.lst (xs.map fun x => T.imm (D.int x)))) 0 rfl)) Tx.b_len) Tx.b_max (by decide +kernel)))) (df_of_dd (dd_modC (dd_intI (dd_ixL (ei := D.int) (dl_imm (ei := D.int) (dd_var (emb := (fun xs : (List Int) => D.lst (xs.map D.int))) 1 rfl)) (dd_add (dd_mul dd_int (dd_var (emb := D.int) 3 rfl)) dd_int)) Tx.b_int) dd_int (by decide))) trivial) fun u_4 => bk_cons (Γ1 := fun j_5 : (List Int) => [.ow (.lst ((j_5).map fun x => .imm (D.int x))), .ow (.imm (D.lst ((draws).map D.int))), .ow (.imm (D.int many)), .ow (.imm (D.int x_3)), .ow (.imm (D.int u_4.1)), .ow (.imm (D.int u_4.2))]) (st_if (dt_lt (dd_var (emb := D.int) 5 rfl) dd_int) (bk_cons (st_set 0 (df_cat (ei := D.int) (dlt_own (ei := D.int) (db_of_df (df_cat (ei := D.int) (dlt_own (ei := D.int) (db_of_df (df_slL (ei := D.int) (dl_own (ei := D.int) (db_var (emb := (fun xs : (List Int) => T.lst (xs.map fun x => T.imm (D.int x)))) 0 rfl)) do_none (do_some (dd_var (emb := D.int) 4 rfl))))) (dlt_own (ei := D.int) (db_of_df (df_disp (ei := D.int) (da_cons (dd_modC (dd_divC (dd_intI (dd_ixL (ei := D.int) (dl_imm (ei := D.int) (dd_var (emb := (fun xs : (List Int) => D.lst (xs.map D.int))) 1 rfl)) (dd_add (dd_mul dd_int (dd_var (emb := D.int) 3 rfl)) dd_int)) Tx.b_int) dd_int (by decide)) dd_int (by decide)) da_nil) (fun p : Int × Unit => ([p.1] : List Int)))))))) (dlt_own (ei := D.int) (db_of_df (df_slL (ei := D.int) (dl_own (ei := D.int) (db_var (emb := (fun xs : (List Int) => T.lst (xs.map fun x => T.imm (D.int x)))) 0 rfl)) (do_some (dd_add (dd_var (emb := D.int) 4 rfl) dd_int)) do_none)))) trivial rfl sc__law_spoilt.nd) fun stream_6 => bk_nil (o := stream_6) rfl ⟨rfl, rfl, rfl, rfl, rfl, rfl, trivial⟩) (bk_cons (Γ1 := fun j_7 : (List Int) => [.ow (.lst ((j_7).map fun x => .imm (D.int x))), .ow (.imm (D.lst ((draws).map D.int))), .ow (.imm (D.int many)), .ow (.imm (D.int x_3)), .ow (.imm (D.int u_4.1)), .ow (.imm (D.int u_4.2))]) (st_if (dt_eqI (dd_var (emb := D.int) 5 rfl) dd_int) (bk_cons (st_set 0 (df_cat (ei := D.int) (dlt_own (ei := D.int) (db_of_df (df_slL (ei := D.int) (dl_own (ei := D.int) (db_var (emb := (fun xs : (List Int) => T.lst (xs.map fun x => T.imm (D.int x)))) 0 rfl)) do_none (do_some (dd_var (emb := D.int) 4 rfl))))) (dlt_own (ei := D.int) (db_of_df (df_slL (ei := D.int) (dl_own (ei := D.int) (db_var (emb := (fun xs : (List Int) => T.lst (xs.map fun x => T.imm (D.int x)))) 0 rfl)) (do_some (dd_add (dd_var (emb := D.int) 4 rfl) dd_int)) do_none)))) trivial rfl sc__law_spoilt.nd) fun stream_8 => bk_nil (o := stream_8) rfl ⟨rfl, rfl, rfl, rfl, rfl, rfl, trivial⟩) (bk_cons (Γ1 := fun j_9 : (List Int) => [.ow (.lst ((j_9).map fun x => .imm (D.int x))), .ow (.imm (D.lst ((draws).map D.int))), .ow (.imm (D.int many)), .ow (.imm (D.int x_3)), .ow (.imm (D.int u_4.1)), .ow (.imm (D.int u_4.2))]) (st_if (dt_eqI (dd_var (emb := D.int) 5 rfl) dd_int) (bk_cons (st_set 0 (df_cat (ei := D.int) (dlt_own (ei := D.int) (db_of_df (df_cat (ei := D.int) (dlt_own (ei := D.int) (db_of_df (df_slL (ei := D.int) (dl_own (ei := D.int) (db_var (emb := (fun xs : (List Int) => T.lst (xs.map fun x => T.imm (D.int x)))) 0 rfl)) do_none (do_some (dd_var (emb := D.int) 4 rfl))))) (dlt_own (ei := D.int) (db_of_df (df_slL (ei := D.int) (dl_own (ei := D.int) (db_var (emb := (fun xs : (List Int) => T.lst (xs.map fun x => T.imm (D.int x)))) 0 rfl)) (do_some (dd_var (emb := D.int) 4 rfl)) (do_some (dd_add (dd_var (emb := D.int) 4 rfl) dd_int)))))))) (dlt_own (ei := D.int) (db_of_df (df_slL (ei := D.int) (dl_own (ei := D.int) (db_var (emb := (fun xs : (List Int) => T.lst (xs.map fun x => T.imm (D.int x)))) 0 rfl)) (do_some (dd_var (emb := D.int) 4 rfl)) do_none)))) trivial rfl sc__law_spoilt.nd) fun stream_10 => bk_nil (o := stream_10) rfl ⟨rfl, rfl, rfl, rfl, rfl, rfl, trivial⟩) (bk_cons (st_set 0 (df_cat (ei := D.int) (dlt_own (ei := D.int) (db_of_df (df_cat (ei := D.int) (dlt_own (ei := D.int) (db_of_df (df_cat (ei := D.int) (dlt_own (ei := D.int) (db_of_df (df_slL (ei := D.int) (dl_own (ei := D.int) (db_var (emb := (fun xs : (List Int) => T.lst (xs.map fun x => T.imm (D.int x)))) 0 rfl)) do_none (do_some (dd_var (emb := D.int) 4 rfl))))) (dlt_own (ei := D.int) (db_of_df (df_slL (ei := D.int) (dl_own (ei := D.int) (db_var (emb := (fun xs : (List Int) => T.lst (xs.map fun x => T.imm (D.int x)))) 0 rfl)) (do_some (dd_add (dd_var (emb := D.int) 4 rfl) dd_int)) (do_some (dd_add (dd_var (emb := D.int) 4 rfl) dd_int)))))))) (dlt_own (ei := D.int) (db_of_df (df_slL (ei := D.int) (dl_own (ei := D.int) (db_var (emb := (fun xs : (List Int) => T.lst (xs.map fun x => T.imm (D.int x)))) 0 rfl)) (do_some (dd_var (emb := D.int) 4 rfl)) (do_some (dd_add (dd_var (emb := D.int) 4 rfl) dd_int)))))))) (dlt_own (ei := D.int) (db_of_df (df_slL (ei := D.int) (dl_own (ei := D.int) (db_var (emb := (fun xs : (List Int) => T.lst (xs.map fun x => T.imm (D.int x)))) 0 rfl)) (do_some (dd_add (dd_var (emb := D.int) 4 rfl) dd_int)) do_none)))) trivial rfl sc__law_spoilt.nd) fun stream_11 => bk_nil (o := stream_11) rfl ⟨rfl, rfl, rfl, rfl, rfl, rfl, trivial⟩) trivial) fun j_9 => bk_nil (o := j_9) rfl ⟨rfl, rfl, rfl, rfl, rfl, rfl, trivial⟩) trivial) fun j_7 => bk_nil (o := j_7) rfl ⟨rfl, rfl, rfl, rfl, rfl, rfl, trivial⟩) trivial) fun j_5 => bk_nil (o := j_5) rfl ⟨rfl, rfl, rfl, trivial⟩) ⟨rfl, rfl, rfl, trivial⟩ trivial) fun s_12 => bk_retV (o := s_12) 0 rfl rfl trivial

theorem sc__law_unwritten : FnScope ["octets", "octet", "out", "escaped"] ["octets"] (defScope s__law_unwritten) := ⟨rfl, rfl, rfl, by decide +kernel, rfl, by decide +kernel, by decide +kernel⟩
noncomputable def _law_unwritten (octets : (List Int)) : R (Option (List Int)) :=
  (((R.ok () >>= fun p => .ok ((fun p : Unit => ([] : List Int)) p)) >>= fun p => (R.ok false >>= fun q => .ok (p, q))) >>= fun u_1 => ((R.ok octets >>= fun xs => forX (fun (x_3 : Int) (s_2 : (List Int) × Bool) => ((R.ok s_2.2 >>= fun x => if x then ((R.ok x_3 >>= fun i => ((R.ok (93 : Int) >>= fun x => (R.ok (94 : Int) >>= fun x => R.ok () >>= fun y => .ok (x, y)) >>= fun y => .ok (x, y)) >>= fun p => .ok ((fun p : Int × Int × Unit => ([p.1, p.2.1] : (List Int))) p)) >>= fun xs => .ok (!decide (i ∈ xs))) >>= fun x => if x then ((R.ok () >>= fun x => .ok ((fun _ : Unit => (none : (Option (List Int)))) x)) >>= fun r => .ok (Sum.inr (Lo.ex (r)))) else (((R.ok x_3 >>= fun x => R.ok (32 : Int) >>= fun y => .ok (x + y)) >>= fun x => ofO (appO s_2.1 x)) >>= fun out_5 => (R.ok false >>= fun escaped_6 => R.ok (Sum.inl (out_5, escaped_6))))) else (((R.ok x_3 >>= fun x => R.ok (125 : Int) >>= fun y => .ok (decide (x = y))) >>= fun x => if x then (R.ok true >>= fun escaped_8 => R.ok (s_2.1, escaped_8)) else ((R.ok x_3 >>= fun x => ofO (appO s_2.1 x)) >>= fun out_9 => R.ok (out_9, s_2.2))) >>= fun j_7 : (List Int) × Bool => R.ok (Sum.inl (j_7.1, j_7.2)))) >>= sumK (fun j_4 : (List Int) × Bool => R.ok (Lo.nx (j_4.1, j_4.2))) .ok)) xs (u_1.1, u_1.2)) >>= sumK (fun s_10 : (List Int) × Bool => (R.ok s_10.2 >>= fun x => if x then ((R.ok () >>= fun x => .ok ((fun _ : Unit => (none : (Option (List Int)))) x)) >>= fun r => .ok (r)) else R.ok ((some s_10.1)))) .ok))
theorem ok__law_unwritten (Tx : Tx K mg) : FnOk P w K mg base (L2.CX P w) 1 Tx.a__law_unwritten Tx.d__law_unwritten ["octets"]
    (SpF ⟨K, mg⟩ (fun p : (List Int) × Unit => [D.lst ((p.1).map D.int)]) (fun r : (Option (List Int)) => eOptT (fun xs : (List Int) => T.lst (xs.map fun x => T.imm (D.int x))) (r)) (fun p => _law_unwritten p.1)) := by
  refine fn_pure Tx.F__law_unwritten sc__law_unwritten (fun _ => rfl) fun cdv A outer s H E hr p => ?_
  obtain ⟨octets, _⟩ := p
  exact bk_cons (st_par2 2 3 (by decide) rfl sc__law_unwritten.nd (df_disp (ei := D.int) da_nil (fun p : Unit => ([] : List Int))) (df_of_dd dd_bl) trivial) fun u_1 => bk_consX (Γ1 := fun s_2 : (List Int) × Bool => [.ow (.imm (D.lst ((octets).map D.int))), .un, .ow (.lst ((s_2.1).map fun x => .imm (D.int x))), .ow (.imm (D.bl s_2.2))]) (st_rr (st_for (Γs := fun s_2 : (List Int) × Bool => [.ow (.imm (D.lst ((octets).map D.int))), .un, .ow (.lst ((s_2.1).map fun x => .imm (D.int x))), .ow (.imm (D.bl s_2.2))]) (ei := D.int) (u_1.1, u_1.2) (passes_of rfl) rfl (di_list (ei := D.int) (dd_var (emb := (fun xs : (List Int) => D.lst (xs.map D.int))) 0 rfl)) (fun s_2 x_3 => (dg_name 1 sc__law_unwritten.nd)) (fun s_2 x_3 => bk_consX (Γ1 := fun j_4 : (List Int) × Bool => [.ow (.imm (D.lst ((octets).map D.int))), .ow (.imm (D.int x_3)), .ow (.lst ((j_4.1).map fun x => .imm (D.int x))), .ow (.imm (D.bl j_4.2))]) (st_if (dt_bl (dd_var (emb := D.bl) 3 rfl)) (bk_ifX (dt_ninT (dd_var (emb := D.int) 1 rfl) (dd_tup (et := (fun xs : (List Int) => D.tup (xs.map D.int))) (da_cons dd_int (da_cons dd_int da_nil)) (fun p : Int × Int × Unit => ([p.1, p.2.1] : (List Int))))) (bk_ret (df_co (df_of_dd dd_non) (fun _ : Unit => (none : (Option (List Int))))) (g := fun r => Sum.inr (Lo.ex (r))) (fun _ => rfl) trivial trivial) (bk_cons (st_append (ei := D.int) 2 rfl (dd_add (dd_var (emb := D.int) 1 rfl) dd_int) trivial) fun out_5 => bk_cons (st_set 3 (df_of_dd dd_bl) trivial rfl sc__law_unwritten.nd) fun escaped_6 => bk_nil (o := (Sum.inl (out_5, escaped_6))) rfl ⟨rfl, rfl, rfl, rfl, trivial⟩) trivial) (bk_cons (Γ1 := fun j_7 : (List Int) × Bool => [.ow (.imm (D.lst ((octets).map D.int))), .ow (.imm (D.int x_3)), .ow (.lst ((j_7.1).map fun x => .imm (D.int x))), .ow (.imm (D.bl j_7.2))]) (st_if (dt_eqI (dd_var (emb := D.int) 1 rfl) dd_int) (bk_cons (st_set 3 (df_of_dd dd_bl) trivial rfl sc__law_unwritten.nd) fun escaped_8 => bk_nil (o := (s_2.1, escaped_8)) rfl ⟨rfl, rfl, rfl, rfl, trivial⟩) (bk_cons (st_append (ei := D.int) 2 rfl (dd_var (emb := D.int) 1 rfl) trivial) fun out_9 => bk_nil (o := (out_9, s_2.2)) rfl ⟨rfl, rfl, rfl, rfl, trivial⟩) trivial) fun j_7 => bk_nil (o := (Sum.inl (j_7.1, j_7.2))) rfl ⟨rfl, rfl, rfl, rfl, trivial⟩) trivial) fun j_4 => bk_nil (o := (Lo.nx (j_4.1, j_4.2))) rfl ⟨rfl, rfl, rfl, trivial⟩) ⟨rfl, rfl, rfl, trivial⟩ trivial)) fun s_10 => bk_ifX (dt_bl (dd_var (emb := D.bl) 3 rfl)) (bk_ret (df_co (df_of_dd dd_non) (fun _ : Unit => (none : (Option (List Int))))) (g := fun r => r) (fun _ => rfl) trivial trivial) (bk_retV (o := (some s_10.1)) 2 rfl rfl trivial) trivial

theorem sc__law_mul : FnScope ["a", "b", "product", "k"] ["a", "b"] (defScope s__law_mul) := ⟨rfl, rfl, rfl, by decide +kernel, rfl, by decide +kernel, by decide +kernel⟩
noncomputable def _law_mul (a_q : Int) (b_q : Int) : R Int :=
  (R.ok (0 : Int) >>= fun product_1 => (((R.ok (8 : Int) >>= fun n => ofO (rangeO 0 n)) >>= fun xs => forS (fun (x_3 : Int) (s_2 : Int × Int) => (((((R.ok b_q >>= fun x => (((R.ok (1 : Int) >>= fun x => (R.ok (2 : Int) >>= fun x => (R.ok (4 : Int) >>= fun x => (R.ok (8 : Int) >>= fun x => (R.ok (16 : Int) >>= fun x => (R.ok (32 : Int) >>= fun x => (R.ok (64 : Int) >>= fun x => (R.ok (128 : Int) >>= fun x => R.ok () >>= fun y => .ok (x, y)) >>= fun y => .ok (x, y)) >>= fun y => .ok (x, y)) >>= fun y => .ok (x, y)) >>= fun y => .ok (x, y)) >>= fun y => .ok (x, y)) >>= fun y => .ok (x, y)) >>= fun y => .ok (x, y)) >>= fun p => .ok ((fun p : Int × Int × Int × Int × Int × Int × Int × Int × Unit => ([p.1, p.2.1, p.2.2.1, p.2.2.2.1, p.2.2.2.2.1, p.2.2.2.2.2.1, p.2.2.2.2.2.2.1, p.2.2.2.2.2.2.2.1] : (List Int))) p)) >>= fun xs => R.ok x_3 >>= fun i => ofO (atI xs i)) >>= fun y => ofO (divO x y)) >>= fun x => .ok (x % 2)) >>= fun x => R.ok (1 : Int) >>= fun y => .ok (decide (x = y))) >>= fun x => if x then ((R.ok s_2.2 >>= fun x => R.ok s_2.1 >>= fun y => .ok (Builtin.bitXor x y)) >>= fun product_5 => R.ok product_5) else R.ok s_2.2) >>= fun j_4 : Int => ((R.ok s_2.1 >>= fun x => .ok (x * 2)) >>= fun a_6 => (((R.ok a_6 >>= fun x => R.ok (255 : Int) >>= fun y => .ok (decide (y < x))) >>= fun x => if x then ((R.ok a_6 >>= fun x => R.ok (285 : Int) >>= fun y => .ok (Builtin.bitXor x y)) >>= fun a_8 => R.ok a_8) else R.ok a_6) >>= fun j_7 : Int => R.ok (j_7, j_4))))) xs (a_q, product_1)) >>= fun s_9 : Int × Int => (R.ok s_9.2 >>= fun r => .ok (r))))
theorem ok__law_mul (Tx : Tx K mg) : FnOk P w K mg base (L2.CX P w) 1 Tx.a__law_mul Tx.d__law_mul ["a", "b"]
    (SpF ⟨K, mg⟩ (fun p : Int × Int × Unit => [D.int p.1, D.int p.2.1]) (fun r : Int => .imm (D.int r)) (fun p => _law_mul p.1 p.2.1)) := by
  refine fn_pure Tx.F__law_mul sc__law_mul (fun _ => rfl) fun cdv A outer s H E hr p => ?_
  obtain ⟨a_q, b_q, _⟩ := p
  exact bk_cons (st_set 2 (df_of_dd dd_int) trivial rfl sc__law_mul.nd) fun product_1 => bk_cons (Γ1 := fun s_2 : Int × Int => [.ow (.imm (D.int s_2.1)), .ow (.imm (D.int b_q)), .ow (.imm (D.int s_2.2)), .un]) (st_forS (Γs := fun s_2 : Int × Int => [.ow (.imm (D.int s_2.1)), .ow (.imm (D.int b_q)), .ow (.imm (D.int s_2.2)), .un]) (ei := D.int) (a_q, product_1) (passes_of rfl) rfl (di_range1 dd_int Tx.b_range) (fun s_2 x_3 => (dg_name 3 sc__law_mul.nd)) (fun s_2 x_3 => bk_cons (Γ1 := fun j_4 : Int => [.ow (.imm (D.int s_2.1)), .ow (.imm (D.int b_q)), .ow (.imm (D.int j_4)), .ow (.imm (D.int x_3))]) (st_if (dt_eqI (dd_modC (dd_div (dd_var (emb := D.int) 1 rfl) (dd_ixT (ei := D.int) (dd_tup (et := (fun xs : (List Int) => D.tup (xs.map D.int))) (da_cons dd_int (da_cons dd_int (da_cons dd_int (da_cons dd_int (da_cons dd_int (da_cons dd_int (da_cons dd_int (da_cons dd_int da_nil)))))))) (fun p : Int × Int × Int × Int × Int × Int × Int × Int × Unit => ([p.1, p.2.1, p.2.2.1, p.2.2.2.1, p.2.2.2.2.1, p.2.2.2.2.2.1, p.2.2.2.2.2.2.1, p.2.2.2.2.2.2.2.1] : (List Int)))) (dd_var (emb := D.int) 3 rfl))) dd_int (by decide)) dd_int) (bk_cons (st_set 2 (df_of_dd (dd_xor (dd_var (emb := D.int) 2 rfl) (dd_var (emb := D.int) 0 rfl))) trivial rfl sc__law_mul.nd) fun product_5 => bk_nil (o := product_5) rfl ⟨rfl, rfl, rfl, rfl, trivial⟩) (bk_nil (o := s_2.2) rfl ⟨rfl, rfl, rfl, rfl, trivial⟩) trivial) fun j_4 => bk_cons (st_set 0 (df_of_dd (dd_mulC (dd_var (emb := D.int) 0 rfl) dd_int (by decide))) trivial rfl sc__law_mul.nd) fun a_6 => bk_cons (Γ1 := fun j_7 : Int => [.ow (.imm (D.int j_7)), .ow (.imm (D.int b_q)), .ow (.imm (D.int j_4)), .ow (.imm (D.int x_3))]) (st_if (dt_gt (dd_var (emb := D.int) 0 rfl) dd_int) (bk_cons (st_set 0 (df_of_dd (dd_xor (dd_var (emb := D.int) 0 rfl) dd_int)) trivial rfl sc__law_mul.nd) fun a_8 => bk_nil (o := a_8) rfl ⟨rfl, rfl, rfl, rfl, trivial⟩) (bk_nil (o := a_6) rfl ⟨rfl, rfl, rfl, rfl, trivial⟩) trivial) fun j_7 => bk_nil (o := (j_7, j_4)) rfl ⟨rfl, rfl, rfl, trivial⟩) ⟨rfl, rfl, rfl, trivial⟩ trivial) fun s_9 => bk_ret (df_of_dd (dd_var (emb := D.int) 2 rfl)) (g := fun r => r) (fun _ => rfl) trivial trivial

theorem sc__law_value : FnScope ["octets", "x", "value", "octet"] ["octets", "x"] (defScope s__law_value) := ⟨rfl, rfl, rfl, by decide +kernel, rfl, by decide +kernel, by decide +kernel⟩
noncomputable def _law_value (octets : (List Int)) (x_q : Int) : R Int :=
  (R.ok (0 : Int) >>= fun value_1 => ((R.ok octets >>= fun xs => forS (fun (x_3 : Int) (s_2 : Int) => ((((R.ok s_2 >>= fun x => (R.ok x_q >>= fun x => R.ok () >>= fun y => .ok (x, y)) >>= fun y => .ok (x, y)) >>= fun p : Int × Int × Unit => (_law_mul p.1 p.2.1)) >>= fun x => R.ok x_3 >>= fun y => .ok (Builtin.bitXor x y)) >>= fun value_4 => R.ok value_4)) xs value_1) >>= fun s_5 : Int => (R.ok s_5 >>= fun r => .ok (r))))
theorem ok__law_value (Tx : Tx K mg) : FnOk P w K mg base (L2.CX P w) 2 Tx.a__law_value Tx.d__law_value ["octets", "x"]
    (SpF ⟨K, mg⟩ (fun p : (List Int) × Int × Unit => [D.lst ((p.1).map D.int), D.int p.2.1]) (fun r : Int => .imm (D.int r)) (fun p => _law_value p.1 p.2.1)) := by
  refine fn_pure Tx.F__law_value sc__law_value (fun _ => rfl) fun cdv A outer s H E hr p => ?_
  obtain ⟨octets, x_q, _⟩ := p
  exact bk_cons (st_set 2 (df_of_dd dd_int) trivial rfl sc__law_value.nd) fun value_1 => bk_cons (Γ1 := fun s_2 : Int => [.ow (.imm (D.lst ((octets).map D.int))), .ow (.imm (D.int x_q)), .ow (.imm (D.int s_2)), .un]) (st_forS (Γs := fun s_2 : Int => [.ow (.imm (D.lst ((octets).map D.int))), .ow (.imm (D.int x_q)), .ow (.imm (D.int s_2)), .un]) (ei := D.int) value_1 (passes_of rfl) rfl (di_list (ei := D.int) (dd_var (emb := (fun xs : (List Int) => D.lst (xs.map D.int))) 0 rfl)) (fun s_2 x_3 => (dg_name 3 sc__law_value.nd)) (fun s_2 x_3 => bk_cons (st_set 2 (df_of_dd (dd_xor (dd_imm (df_call (ok__law_mul Tx) (hr.mono (by decide)) Tx.g__law_mul Tx.F__law_mul.kp Tx.b__law_mul (takes_of rfl rfl rfl rfl) (da_cons (dd_var (emb := D.int) 2 rfl) (da_cons (dd_var (emb := D.int) 1 rfl) da_nil)))) (dd_var (emb := D.int) 3 rfl))) trivial rfl sc__law_value.nd) fun value_4 => bk_nil (o := value_4) rfl ⟨rfl, rfl, rfl, trivial⟩) ⟨rfl, rfl, rfl, trivial⟩ trivial) fun s_5 => bk_ret (df_of_dd (dd_var (emb := D.int) 2 rfl)) (g := fun r => r) (fun _ => rfl) trivial trivial

theorem sc__law_mended : FnScope ["octets", "values", "wrong", "place", "found", "x", "k"] ["octets"] (defScope s__law_mended) := ⟨rfl, rfl, rfl, by decide +kernel, rfl, by decide +kernel, by decide +kernel⟩
noncomputable def _law_mended (octets : (List Int)) : R (Option (List Int)) :=
  ((((R.ok octets >>= fun xs => .ok (xs.length : Int)) >>= fun x => R.ok (4 : Int) >>= fun y => .ok (decide (x < y))) >>= fun x => if x then .ok true else ((R.ok octets >>= fun xs => .ok (xs.length : Int)) >>= fun x => R.ok (255 : Int) >>= fun y => .ok (decide (y < x)))) >>= fun x => if x then ((R.ok () >>= fun x => .ok ((fun _ : Unit => (none : (Option (List Int)))) x)) >>= fun r => .ok (r)) else ((((R.ok (1 : Int) >>= fun x => (R.ok (2 : Int) >>= fun x => (R.ok (4 : Int) >>= fun x => (R.ok (8 : Int) >>= fun x => R.ok () >>= fun y => .ok (x, y)) >>= fun y => .ok (x, y)) >>= fun y => .ok (x, y)) >>= fun y => .ok (x, y)) >>= fun p => .ok ((fun p : Int × Int × Int × Int × Unit => ([p.1, p.2.1, p.2.2.1, p.2.2.2.1] : (List Int))) p)) >>= fun xs => compR (fun c_2 : Int => R.ok true) (fun c_2 : Int => ((R.ok octets >>= fun x => (R.ok c_2 >>= fun x => R.ok () >>= fun y => .ok (x, y)) >>= fun y => .ok (x, y)) >>= fun p : (List Int) × Int × Unit => (_law_value p.1 p.2.1))) xs) >>= fun values_1 => ((R.ok values_1 >>= fun x => (((R.ok (0 : Int) >>= fun x => R.ok () >>= fun y => .ok (x, y)) >>= fun p => .ok ((fun p : Int × Unit => ([p.1] : List Int)) p)) >>= fun xs => R.ok (4 : Int) >>= fun k => ofO (repO xs k)) >>= fun y => ofO ((eqO (D.lst ((x).map D.int)) (D.lst ((y).map D.int))).map (false != ·))) >>= fun x => if x then ((R.ok octets >>= fun x => .ok (some x)) >>= fun r => .ok (r)) else (((((R.ok values_1 >>= fun xs => R.ok (0 : Int) >>= fun i => ofO (atI xs i)) >>= fun x => R.ok () >>= fun y => .ok (x, y)) >>= fun p => .ok ((fun p : Int × Unit => ([p.1] : List Int)) p)) >>= fun xs => R.ok (4 : Int) >>= fun k => ofO (repO xs k)) >>= fun wrong_3 => ((((R.ok octets >>= fun xs => .ok (xs.length : Int)) >>= fun n => ofO (rangeO 0 n)) >>= fun xs => forX (fun (x_5 : Int) (s_4 : (List Int)) => (((R.ok s_4 >>= fun x => R.ok values_1 >>= fun y => ofO ((eqO (D.lst ((x).map D.int)) (D.lst ((y).map D.int))).map (false != ·))) >>= fun x => if x then ((R.ok values_1 >>= fun xs => R.ok (0 : Int) >>= fun i => ofO (atI xs i)) >>= fun x => R.ok (0 : Int) >>= fun y => .ok (decide (y < x))) else .ok false) >>= fun x => if x then (R.ok octets >>= fun found_6 => ((((R.ok found_6 >>= fun xs => (((R.ok octets >>= fun xs => .ok (xs.length : Int)) >>= fun x => R.ok (1 : Int) >>= fun y => .ok (x - y)) >>= fun x => R.ok x_5 >>= fun y => .ok (x - y)) >>= fun i => ofO (atI xs i)) >>= fun x => (R.ok values_1 >>= fun xs => R.ok (0 : Int) >>= fun i => ofO (atI xs i)) >>= fun y => .ok (Builtin.bitXor x y)) >>= fun x => (((R.ok octets >>= fun xs => .ok (xs.length : Int)) >>= fun x => R.ok (1 : Int) >>= fun y => .ok (x - y)) >>= fun x => R.ok x_5 >>= fun y => .ok (x - y)) >>= fun k => ofO (setO found_6 k x)) >>= fun found_7 => R.ok (Lo.ex ((some found_7))))) else (((R.ok (4 : Int) >>= fun n => ofO (rangeO 0 n)) >>= fun xs => compR (fun c_9 : Int => R.ok true) (fun c_9 : Int => (((R.ok s_4 >>= fun xs => R.ok c_9 >>= fun i => ofO (atI xs i)) >>= fun x => ((((R.ok (1 : Int) >>= fun x => (R.ok (2 : Int) >>= fun x => (R.ok (4 : Int) >>= fun x => (R.ok (8 : Int) >>= fun x => R.ok () >>= fun y => .ok (x, y)) >>= fun y => .ok (x, y)) >>= fun y => .ok (x, y)) >>= fun y => .ok (x, y)) >>= fun p => .ok ((fun p : Int × Int × Int × Int × Unit => ([p.1, p.2.1, p.2.2.1, p.2.2.2.1] : (List Int))) p)) >>= fun xs => R.ok c_9 >>= fun i => ofO (atI xs i)) >>= fun x => R.ok () >>= fun y => .ok (x, y)) >>= fun y => .ok (x, y)) >>= fun p : Int × Int × Unit => (_law_mul p.1 p.2.1))) xs) >>= fun wrong_8 => R.ok (Lo.nx wrong_8)))) xs wrong_3) >>= sumK (fun s_10 : (List Int) => ((R.ok () >>= fun x => .ok ((fun _ : Unit => (none : (Option (List Int)))) x)) >>= fun r => .ok (r))) .ok)))))
theorem ok__law_mended (Tx : Tx K mg) : FnOk P w K mg base (L2.CX P w) 3 Tx.a__law_mended Tx.d__law_mended ["octets"]
    (SpF ⟨K, mg⟩ (fun p : (List Int) × Unit => [D.lst ((p.1).map D.int)]) (fun r : (Option (List Int)) => eOptT (fun xs : (List Int) => T.lst (xs.map fun x => T.imm (D.int x))) (r)) (fun p => _law_mended p.1)) := by
  refine fn_pure Tx.F__law_mended sc__law_mended (fun _ => rfl) fun cdv A outer s H E hr p => ?_
  obtain ⟨octets, _⟩ := p
  exact bk_ifX (dt_dw (dw_or (dt_lt (dd_lenL (ei := D.int) (dl_imm (ei := D.int) (dd_var (emb := (fun xs : (List Int) => D.lst (xs.map D.int))) 0 rfl)) Tx.b_len) dd_int) (dw_one (dt_gt (dd_lenL (ei := D.int) (dl_imm (ei := D.int) (dd_var (emb := (fun xs : (List Int) => D.lst (xs.map D.int))) 0 rfl)) Tx.b_len) dd_int) (by first | exact .inl rfl | exact .inr rfl)))) (bk_ret (df_co (df_of_dd dd_non) (fun _ : Unit => (none : (Option (List Int))))) (g := fun r => r) (fun _ => rfl) trivial trivial) (bk_as [.ow (.imm (D.lst ((octets).map D.int))), .un, .un, .un, .un, .un, .un] rfl (bk_cons (st_setLc (put := fun c_2 : Int => [.ow (.imm (D.lst ((octets).map D.int))), .un, .un, .un, .un, .ow (.imm (D.int c_2)), .un]) (N' := ["octets", "values", "wrong", "place", "found", "x", "k"]) (sc' := defScope s__law_mended) (ei := D.int) (et := fun y => .imm (D.int y)) 1 [("x", 5)] rfl sc__law_mended.nd (di_tup (ei := D.int) (dd_tup (et := (fun xs : (List Int) => D.tup (xs.map D.int))) (da_cons dd_int (da_cons dd_int (da_cons dd_int (da_cons dd_int da_nil)))) (fun p : Int × Int × Int × Int × Unit => ([p.1, p.2.1, p.2.2.1, p.2.2.2.1] : (List Int))))) (fun _ _ _ _ _ c_2 => (dgc_name 5 sc__law_mended.nd)) (fun _ _ _ _ _ c_2 => dts_nil) (fun _ _ _ _ _ c_2 => df_of_dd (dd_imm (df_call (ok__law_value Tx) (hr.mono (by decide)) Tx.g__law_value Tx.F__law_value.kp Tx.b__law_value takes0 (da_cons (ea := (fun xs : (List Int) => D.lst (xs.map D.int))) (dd_var (emb := (fun xs : (List Int) => D.lst (xs.map D.int))) 0 rfl) (da_cons (dd_var (emb := D.int) 5 rfl) da_nil))))) trivial) fun values_1 => bk_ifX (dt_eq (ea := (fun xs : (List Int) => D.lst (xs.map D.int))) (eb := (fun xs : (List Int) => D.lst (xs.map D.int))) hr.units (de_dl (ei := D.int) (dl_own (ei := D.int) (db_var (emb := (fun xs : (List Int) => T.lst (xs.map fun x => T.imm (D.int x)))) 1 rfl))) (de_dl (ei := D.int) (dl_own (ei := D.int) (db_of_df (df_rep (ei := D.int) (dlt_own (ei := D.int) (db_of_df (df_disp (ei := D.int) (da_cons dd_int da_nil) (fun p : Int × Unit => ([p.1] : List Int))))) dd_int))))) (bk_ret (df_co (df_listL (ei := D.int) (dl_imm (ei := D.int) (dd_var (emb := (fun xs : (List Int) => D.lst (xs.map D.int))) 0 rfl)) Tx.b_list) (fun x : (List Int) => some x)) (g := fun r => r) (fun _ => rfl) trivial trivial) (bk_cons (st_set 2 (df_rep (ei := D.int) (dlt_own (ei := D.int) (db_of_df (df_disp (ei := D.int) (da_cons (dd_ixL (ei := D.int) (dl_own (ei := D.int) (db_var (emb := (fun xs : (List Int) => T.lst (xs.map fun x => T.imm (D.int x)))) 1 rfl)) dd_int) da_nil) (fun p : Int × Unit => ([p.1] : List Int))))) dd_int) trivial rfl sc__law_mended.nd) fun wrong_3 => bk_consX (Γ1 := fun s_4 : (List Int) => [.ow (.imm (D.lst ((octets).map D.int))), .ow (.lst ((values_1).map fun x => .imm (D.int x))), .ow (.lst ((s_4).map fun x => .imm (D.int x))), .un, .un, .un, .un]) (st_rr (st_for (Γs := fun s_4 : (List Int) => [.ow (.imm (D.lst ((octets).map D.int))), .ow (.lst ((values_1).map fun x => .imm (D.int x))), .ow (.lst ((s_4).map fun x => .imm (D.int x))), .un, .un, .un, .un]) (ei := D.int) wrong_3 (passes_of rfl) rfl (di_range1 (dd_lenL (ei := D.int) (dl_imm (ei := D.int) (dd_var (emb := (fun xs : (List Int) => D.lst (xs.map D.int))) 0 rfl)) Tx.b_len) Tx.b_range) (fun s_4 x_5 => (dg_name 3 sc__law_mended.nd)) (fun s_4 x_5 => bk_ifX (dt_dw (dw_and (dt_eq (ea := (fun xs : (List Int) => D.lst (xs.map D.int))) (eb := (fun xs : (List Int) => D.lst (xs.map D.int))) hr.units (de_dl (ei := D.int) (dl_own (ei := D.int) (db_var (emb := (fun xs : (List Int) => T.lst (xs.map fun x => T.imm (D.int x)))) 2 rfl))) (de_dl (ei := D.int) (dl_own (ei := D.int) (db_var (emb := (fun xs : (List Int) => T.lst (xs.map fun x => T.imm (D.int x)))) 1 rfl)))) (dw_one (dt_gt (dd_ixL (ei := D.int) (dl_own (ei := D.int) (db_var (emb := (fun xs : (List Int) => T.lst (xs.map fun x => T.imm (D.int x)))) 1 rfl)) dd_int) dd_int) (by first | exact .inl rfl | exact .inr rfl)))) (bk_cons (st_set 4 (df_listL (ei := D.int) (dl_imm (ei := D.int) (dd_var (emb := (fun xs : (List Int) => D.lst (xs.map D.int))) 0 rfl)) Tx.b_list) trivial rfl sc__law_mended.nd) fun found_6 => bk_cons (st_setix (ei := D.int) 4 rfl (dd_xor (dd_ixL (ei := D.int) (dl_own (ei := D.int) (db_var (emb := (fun xs : (List Int) => T.lst (xs.map fun x => T.imm (D.int x)))) 4 rfl)) (dd_sub (dd_sub (dd_lenL (ei := D.int) (dl_imm (ei := D.int) (dd_var (emb := (fun xs : (List Int) => D.lst (xs.map D.int))) 0 rfl)) Tx.b_len) dd_int) (dd_var (emb := D.int) 3 rfl))) (dd_ixL (ei := D.int) (dl_own (ei := D.int) (db_var (emb := (fun xs : (List Int) => T.lst (xs.map fun x => T.imm (D.int x)))) 1 rfl)) dd_int)) (dd_sub (dd_sub (dd_lenL (ei := D.int) (dl_imm (ei := D.int) (dd_var (emb := (fun xs : (List Int) => D.lst (xs.map D.int))) 0 rfl)) Tx.b_len) dd_int) (dd_var (emb := D.int) 3 rfl)) trivial) fun found_7 => bk_retV (o := Lo.ex ((some found_7))) 4 rfl rfl trivial) (bk_as [.ow (.imm (D.lst ((octets).map D.int))), .ow (.lst ((values_1).map fun x => .imm (D.int x))), .ow (.lst ((s_4).map fun x => .imm (D.int x))), .ow (.imm (D.int x_5)), .un, .un, .un] rfl (bk_cons (st_set 2 (df_lc (put := fun c_9 : Int => [.ow (.imm (D.lst ((octets).map D.int))), .ow (.lst ((values_1).map fun x => .imm (D.int x))), .ow (.lst ((s_4).map fun x => .imm (D.int x))), .ow (.imm (D.int x_5)), .un, .un, .ow (.imm (D.int c_9))]) (N' := ["octets", "values", "wrong", "place", "found", "x", "k"]) (sc' := defScope s__law_mended) (ei := D.int) (et := fun y => .imm (D.int y)) [("k", 6)] rfl sc__law_mended.nd (di_range1 dd_int Tx.b_range) (by exact ⟨rfl, rfl, rfl, rfl, trivial⟩) (fun _ _ _ _ _ c_9 => (dgc_name 6 sc__law_mended.nd)) (fun _ _ _ _ _ c_9 => dts_nil) (fun _ _ _ _ _ c_9 => df_of_dd (dd_imm (df_call (ok__law_mul Tx) (hr.mono (by decide)) Tx.g__law_mul Tx.F__law_mul.kp Tx.b__law_mul takes0 (da_cons (dd_ixL (ei := D.int) (dl_own (ei := D.int) (db_var (emb := (fun xs : (List Int) => T.lst (xs.map fun x => T.imm (D.int x)))) 2 rfl)) (dd_var (emb := D.int) 6 rfl)) (da_cons (dd_ixT (ei := D.int) (dd_tup (et := (fun xs : (List Int) => D.tup (xs.map D.int))) (da_cons dd_int (da_cons dd_int (da_cons dd_int (da_cons dd_int da_nil)))) (fun p : Int × Int × Int × Int × Unit => ([p.1, p.2.1, p.2.2.1, p.2.2.2.1] : (List Int)))) (dd_var (emb := D.int) 6 rfl)) da_nil)))))) trivial rfl sc__law_mended.nd) fun wrong_8 => bk_nil (o := (Lo.nx wrong_8)) rfl ⟨rfl, rfl, rfl, trivial⟩)) trivial) ⟨rfl, rfl, rfl, trivial⟩ trivial)) fun s_10 => bk_ret (df_co (df_of_dd dd_non) (fun _ : Unit => (none : (Option (List Int))))) (g := fun r => r) (fun _ => rfl) trivial trivial) trivial)) trivial

theorem sc__law_packet : FnScope ["octets"] ["octets"] (defScope s__law_packet) := ⟨rfl, rfl, rfl, by decide +kernel, rfl, by decide +kernel, by decide +kernel⟩
noncomputable def _law_packet (octets : (List Int)) : R (Option ((List Int) × Int)) :=
  (((R.ok octets >>= fun xs => .ok (xs.length : Int)) >>= fun x => R.ok (510 : Int) >>= fun y => .ok (decide (y < x))) >>= fun x => if x then ((R.ok () >>= fun p => .ok ((fun _ : Unit => (none : (Option ((List Int) × Int)))) p)) >>= fun r => .ok (r)) else (((R.ok octets >>= fun x => R.ok () >>= fun y => .ok (x, y)) >>= fun p : (List Int) × Unit => (_law_unwritten p.1)) >>= fun octets_1 => (optK octets_1 ((R.ok () >>= fun p => .ok ((fun _ : Unit => (none : (Option ((List Int) × Int)))) p)) >>= fun r => .ok (r)) (fun octets_3 => (((R.ok octets_3 >>= fun xs => .ok (xs.length : Int)) >>= fun x => R.ok (5 : Int) >>= fun y => .ok (decide (x < y))) >>= fun x => if x then .ok true else (((R.ok octets_3 >>= fun x => R.ok () >>= fun y => .ok (x, y)) >>= fun p : (List Int) × Unit => (_law_mended p.1)) >>= fun x => .ok x.isNone)) >>= fun c => if c then ((R.ok () >>= fun p => .ok ((fun _ : Unit => (none : (Option ((List Int) × Int)))) p)) >>= fun r => .ok (r)) else ((((((((R.ok octets_3 >>= fun x => R.ok () >>= fun y => .ok (x, y)) >>= fun p : (List Int) × Unit => (_law_mended p.1)) >>= fun o => optK o .bad .ok) >>= fun xs => R.ok none >>= fun i => ((R.ok (4 : Int) >>= fun x => .ok (-x)) >>= fun i => .ok (some i)) >>= fun j => .ok (cutL xs i j)) >>= fun x => (((((R.ok octets_3 >>= fun x => R.ok () >>= fun y => .ok (x, y)) >>= fun p : (List Int) × Unit => (_law_mended p.1)) >>= fun x => (R.ok octets_3 >>= fun p => .ok (some p)) >>= fun y => ofO ((eqO (eOpt (fun xs : (List Int) => D.lst (xs.map D.int)) (x)) (eOpt (fun xs : (List Int) => D.lst (xs.map D.int)) (y))).map (true != ·))) >>= fun b => .ok (if b then 1 else 0)) >>= fun x => R.ok () >>= fun y => .ok (x, y)) >>= fun y => .ok (x, y)) >>= fun p => .ok ((fun p : (List Int) × Int × Unit => ((p.1, p.2.1) : ((List Int) × Int))) p)) >>= fun p => .ok (some p)) >>= fun r => .ok (r))))))
theorem ok__law_packet (Tx : Tx K mg) : FnOk P w K mg base (L2.CX P w) 4 Tx.a__law_packet Tx.d__law_packet ["octets"]
    (SpF ⟨K, mg⟩ (fun p : (List Int) × Unit => [D.lst ((p.1).map D.int)]) (fun r : (Option ((List Int) × Int)) => .imm (eOpt (fun p : ((List Int) × Int) => D.tup [D.lst ((p.1).map D.int), D.int p.2]) (r))) (fun p => _law_packet p.1)) := by
  refine fn_pure Tx.F__law_packet sc__law_packet (fun _ => rfl) fun cdv A outer s H E hr p => ?_
  obtain ⟨octets, _⟩ := p
  exact bk_ifX (dt_gt (dd_lenL (ei := D.int) (dl_imm (ei := D.int) (dd_var (emb := (fun xs : (List Int) => D.lst (xs.map D.int))) 0 rfl)) Tx.b_len) dd_int) (bk_ret (df_of_dd (dd_co (emb' := (eOpt (fun p : ((List Int) × Int) => D.tup [D.lst ((p.1).map D.int), D.int p.2]))) dd_non (fun _ : Unit => (none : (Option ((List Int) × Int)))))) (g := fun r => r) (fun _ => rfl) trivial trivial) (bk_cons (st_set 0 (df_call (ok__law_unwritten Tx) (hr.mono (by decide)) Tx.g__law_unwritten Tx.F__law_unwritten.kp Tx.b__law_unwritten (takes_of rfl rfl rfl rfl) (da_cons (ea := (fun xs : (List Int) => D.lst (xs.map D.int))) (dd_var (emb := (fun xs : (List Int) => D.lst (xs.map D.int))) 0 rfl) da_nil)) trivial rfl sc__law_packet.nd) fun octets_1 => bk_freeze (d := eOpt (fun xs : (List Int) => D.lst (xs.map D.int)) (octets_1)) 0 rfl ((fun x => fz_opt (fun xs => fz_list xs) x) octets_1) (bk_ifNoneOrX (emb := fun x => .imm ((fun xs : (List Int) => D.lst (xs.map D.int)) x)) (x := octets_1) 0 rfl (congrArg some (opt_imm _ _)) (notN_dlst) (bk_ret (df_of_dd (dd_co (emb' := (eOpt (fun p : ((List Int) × Int) => D.tup [D.lst ((p.1).map D.int), D.int p.2]))) dd_non (fun _ : Unit => (none : (Option ((List Int) × Int)))))) (g := fun r => r) (fun _ => rfl) trivial trivial) (fun octets_3 => [.ow (.imm (D.lst ((octets_3).map D.int)))]) (fun octets_3 => (dw_or (dt_lt (dd_lenL (ei := D.int) (dl_imm (ei := D.int) (dd_var (emb := (fun xs : (List Int) => D.lst (xs.map D.int))) 0 rfl)) Tx.b_len) dd_int) (dw_one (dt_isNT notN_lst (db_of_df (df_call (ok__law_mended Tx) (hr.mono (by decide)) Tx.g__law_mended Tx.F__law_mended.kp Tx.b__law_mended (takes_of rfl rfl rfl rfl) (da_cons (ea := (fun xs : (List Int) => D.lst (xs.map D.int))) (dd_var (emb := (fun xs : (List Int) => D.lst (xs.map D.int))) 0 rfl) da_nil)))) (by first | exact .inl rfl | exact .inr rfl)))) (fun octets_3 => bk_ret (df_of_dd (dd_co (emb' := (eOpt (fun p : ((List Int) × Int) => D.tup [D.lst ((p.1).map D.int), D.int p.2]))) (dd_tup (et := (fun p : ((List Int) × Int) => D.tup [D.lst ((p.1).map D.int), D.int p.2])) (da_cons (dd_list (ε := D.int) (df_slL (ei := D.int) (dl_own (ei := D.int) (db_of_df (df_the (emb := (fun xs : (List Int) => T.lst (xs.map fun x => T.imm (D.int x)))) (df_call (ok__law_mended Tx) (hr.mono (by decide)) Tx.g__law_mended Tx.F__law_mended.kp Tx.b__law_mended (takes_of rfl rfl rfl rfl) (da_cons (ea := (fun xs : (List Int) => D.lst (xs.map D.int))) (dd_var (emb := (fun xs : (List Int) => D.lst (xs.map D.int))) 0 rfl) da_nil))))) do_none (do_some (dd_neg dd_int)))) (da_cons (dd_intB (dd_ne (ea := (eOpt (fun xs : (List Int) => D.lst (xs.map D.int)))) (eb := (eOpt (fun xs : (List Int) => D.lst (xs.map D.int)))) hr.units (de_db (emb' := (eOpt (fun xs : (List Int) => D.lst (xs.map D.int)))) (db_of_df (df_call (ok__law_mended Tx) (hr.mono (by decide)) Tx.g__law_mended Tx.F__law_mended.kp Tx.b__law_mended (takes_of rfl rfl rfl rfl) (da_cons (ea := (fun xs : (List Int) => D.lst (xs.map D.int))) (dd_var (emb := (fun xs : (List Int) => D.lst (xs.map D.int))) 0 rfl) da_nil))) (fun x => fz_opt (fun xs => fz_list xs) x)) (de_dd (dd_co (emb' := (eOpt (fun xs : (List Int) => D.lst (xs.map D.int)))) (dd_var (emb := (fun xs : (List Int) => D.lst (xs.map D.int))) 0 rfl) (fun p : (List Int) => some p)))) Tx.b_int) da_nil)) (fun p : (List Int) × Int × Unit => ((p.1, p.2.1) : ((List Int) × Int)))) (fun p : ((List Int) × Int) => some p))) (g := fun r => r) (fun _ => rfl) trivial trivial) (by intro _ h; rw [h]; rfl) trivial)) trivial

theorem sc__law_read : FnScope ["stream", "octet", "found", "told", "since", "packet"] ["stream"] (defScope s__law_read) := ⟨rfl, rfl, rfl, by decide +kernel, rfl, by decide +kernel, by decide +kernel⟩
noncomputable def _law_read (stream : (List Int)) : R ((List (List Int)) × (List Int) × Int) :=
  (((R.ok () >>= fun p => .ok ((fun p : Unit => ([] : List (List Int))) p)) >>= fun p => (((R.ok (0 : Int) >>= fun x => (R.ok (0 : Int) >>= fun x => (R.ok (0 : Int) >>= fun x => R.ok () >>= fun y => .ok (x, y)) >>= fun y => .ok (x, y)) >>= fun y => .ok (x, y)) >>= fun p => .ok ((fun p : Int × Int × Int × Unit => ([p.1, p.2.1, p.2.2.1] : List Int)) p)) >>= fun q => ((R.ok () >>= fun p => .ok ((fun p : Unit => ([] : List Int)) p)) >>= fun r => .ok (p, q, r)))) >>= fun u_1 => ((R.ok stream >>= fun xs => forS (fun (x_3 : Int) (s_2 : (List (List Int)) × (List Int) × (List Int)) => ((R.ok x_3 >>= fun x => R.ok (126 : Int) >>= fun y => .ok (!decide (x = y))) >>= fun x => if x then ((R.ok x_3 >>= fun x => ofO (appO s_2.2.2 x)) >>= fun since_4 => R.ok (s_2.1, s_2.2.1, since_4)) else ((((R.ok s_2.2.2 >>= fun xs => .ok (xs.length : Int)) >>= fun x => R.ok (0 : Int) >>= fun y => .ok (decide (y < x))) >>= fun x => if x then (((R.ok s_2.2.2 >>= fun x => R.ok () >>= fun y => .ok (x, y)) >>= fun p : (List Int) × Unit => (_law_packet p.1)) >>= fun packet_7 => ((optK packet_7 ((((R.ok s_2.2.1 >>= fun xs => R.ok (2 : Int) >>= fun i => ofO (atI xs i)) >>= fun x => R.ok (1 : Int) >>= fun y => .ok (x + y)) >>= fun x => R.ok (2 : Int) >>= fun k => ofO (setO s_2.2.1 k x)) >>= fun told_11 => R.ok (s_2.1, told_11)) (fun packet_9 => (((R.ok packet_9 >>= fun x => .ok ((fun p : ((List Int) × Int) => p.1) x)) >>= fun x => ofO (appO s_2.1 x)) >>= fun found_12 => (((((R.ok s_2.2.1 >>= fun xs => R.ok (0 : Int) >>= fun i => ofO (atI xs i)) >>= fun x => R.ok (1 : Int) >>= fun y => .ok (x + y)) >>= fun x => (((R.ok s_2.2.1 >>= fun xs => R.ok (1 : Int) >>= fun i => ofO (atI xs i)) >>= fun x => (R.ok packet_9 >>= fun x => .ok ((fun p : ((List Int) × Int) => p.2) x)) >>= fun y => .ok (x + y)) >>= fun x => R.ok () >>= fun y => .ok (x, y)) >>= fun y => .ok (x, y)) >>= fun x : Int × Int × Unit => ofO ((setO s_2.2.1 0 x.1).bind fun t => setO t 1 x.2.1)) >>= fun told_14 => R.ok (found_12, told_14))))) >>= fun j_10 : (List (List Int)) × (List Int) => R.ok (j_10.1, j_10.2))) else R.ok (s_2.1, s_2.2.1)) >>= fun j_5 : (List (List Int)) × (List Int) => ((R.ok () >>= fun p => .ok ((fun p : Unit => ([] : List Int)) p)) >>= fun since_15 => R.ok (j_5.1, j_5.2, since_15))))) xs (u_1.1, u_1.2.1, u_1.2.2)) >>= fun s_16 : (List (List Int)) × (List Int) × (List Int) => (((R.ok s_16.1 >>= fun x => (R.ok s_16.2.1 >>= fun x => ((R.ok (511 : Int) >>= fun x => (R.ok s_16.2.2 >>= fun xs => .ok (xs.length : Int)) >>= fun y => .ok (if y < x then y else x)) >>= fun x => R.ok () >>= fun y => .ok (x, y)) >>= fun y => .ok (x, y)) >>= fun y => .ok (x, y)) >>= fun p => .ok ((fun p : (List (List Int)) × (List Int) × Int × Unit => ((p.1, p.2.1, p.2.2.1) : ((List (List Int)) × (List Int) × Int))) p)) >>= fun r => .ok (r))))
theorem ok__law_read (Tx : Tx K mg) : FnOk P w K mg base (L2.CX P w) 5 Tx.a__law_read Tx.d__law_read ["stream"]
    (SpF ⟨K, mg⟩ (fun p : (List Int) × Unit => [D.lst ((p.1).map D.int)]) (fun r : ((List (List Int)) × (List Int) × Int) => .imm (D.tup [D.lst ((r.1).map (fun xs : (List Int) => D.lst (xs.map D.int))), D.tup ((r.2.1).map D.int), D.int r.2.2])) (fun p => _law_read p.1)) := by
  refine fn_pure Tx.F__law_read sc__law_read (fun _ => rfl) fun cdv A outer s H E hr p => ?_
  obtain ⟨stream, _⟩ := p
  exact bk_cons (st_par3 2 3 4 (by decide) (by decide) (by decide) rfl sc__law_read.nd (df_disp (ei := (fun xs : (List Int) => D.lst (xs.map D.int))) da_nil (fun p : Unit => ([] : List (List Int)))) (df_disp (ei := D.int) (da_cons dd_int (da_cons dd_int (da_cons dd_int da_nil))) (fun p : Int × Int × Int × Unit => ([p.1, p.2.1, p.2.2.1] : List Int))) (df_disp (ei := D.int) da_nil (fun p : Unit => ([] : List Int))) trivial) fun u_1 => bk_cons (Γ1 := fun s_2 : (List (List Int)) × (List Int) × (List Int) => [.ow (.imm (D.lst ((stream).map D.int))), .un, .ow (.lst ((s_2.1).map fun x => .imm ((fun xs : (List Int) => D.lst (xs.map D.int)) x))), .ow (.lst ((s_2.2.1).map fun x => .imm (D.int x))), .ow (.lst ((s_2.2.2).map fun x => .imm (D.int x))), .un]) (st_forS (Γs := fun s_2 : (List (List Int)) × (List Int) × (List Int) => [.ow (.imm (D.lst ((stream).map D.int))), .un, .ow (.lst ((s_2.1).map fun x => .imm ((fun xs : (List Int) => D.lst (xs.map D.int)) x))), .ow (.lst ((s_2.2.1).map fun x => .imm (D.int x))), .ow (.lst ((s_2.2.2).map fun x => .imm (D.int x))), .un]) (ei := D.int) (u_1.1, u_1.2.1, u_1.2.2) (passes_of rfl) rfl (di_list (ei := D.int) (dd_var (emb := (fun xs : (List Int) => D.lst (xs.map D.int))) 0 rfl)) (fun s_2 x_3 => (dg_name 1 sc__law_read.nd)) (fun s_2 x_3 => bk_ifX (dt_neI (dd_var (emb := D.int) 1 rfl) dd_int) (bk_cons (st_append (ei := D.int) 4 rfl (dd_var (emb := D.int) 1 rfl) trivial) fun since_4 => bk_cont (o := (s_2.1, s_2.2.1, since_4)) rfl ⟨rfl, rfl, rfl, rfl, trivial⟩) (bk_cons (Γ1 := fun j_5 : (List (List Int)) × (List Int) => [.ow (.imm (D.lst ((stream).map D.int))), .ow (.imm (D.int x_3)), .ow (.lst ((j_5.1).map fun x => .imm ((fun xs : (List Int) => D.lst (xs.map D.int)) x))), .ow (.lst ((j_5.2).map fun x => .imm (D.int x))), .un, .un]) (st_if (dt_gt (dd_lenL (ei := D.int) (dl_own (ei := D.int) (db_var (emb := (fun xs : (List Int) => T.lst (xs.map fun x => T.imm (D.int x)))) 4 rfl)) Tx.b_len) dd_int) (bk_freezeL (ei := D.int) 4 rfl (bk_cons (st_set 5 (df_of_dd (dd_imm (df_call (ok__law_packet Tx) (hr.mono (by decide)) Tx.g__law_packet Tx.F__law_packet.kp Tx.b__law_packet (takes_of rfl rfl rfl rfl) (da_cons (ea := (fun xs : (List Int) => D.lst (xs.map D.int))) (dd_var (emb := (fun xs : (List Int) => D.lst (xs.map D.int))) 4 rfl) da_nil)))) trivial rfl sc__law_read.nd) fun packet_7 => bk_cons (Γ1 := fun j_10 : (List (List Int)) × (List Int) => [.ow (.imm (D.lst ((stream).map D.int))), .ow (.imm (D.int x_3)), .ow (.lst ((j_10.1).map fun x => .imm ((fun xs : (List Int) => D.lst (xs.map D.int)) x))), .ow (.lst ((j_10.2).map fun x => .imm (D.int x))), .ow (.imm (D.lst ((s_2.2.2).map D.int))), .un]) (st_ifNone (emb := fun x => .imm ((fun p : ((List Int) × Int) => D.tup [D.lst ((p.1).map D.int), D.int p.2]) x)) (x := packet_7) 5 rfl (congrArg some (opt_imm _ _)) (notN_tup) (bk_cons (st_setix (ei := D.int) 3 rfl (dd_add (dd_ixL (ei := D.int) (dl_own (ei := D.int) (db_var (emb := (fun xs : (List Int) => T.lst (xs.map fun x => T.imm (D.int x)))) 3 rfl)) dd_int) dd_int) dd_int trivial) fun told_11 => bk_nil (o := (s_2.1, told_11)) rfl ⟨rfl, rfl, rfl, rfl, rfl, trivial⟩) (fun packet_9 => [.ow (.imm (D.lst ((stream).map D.int))), .ow (.imm (D.int x_3)), .ow (.lst ((s_2.1).map fun x => .imm ((fun xs : (List Int) => D.lst (xs.map D.int)) x))), .ow (.lst ((s_2.2.1).map fun x => .imm (D.int x))), .ow (.imm (D.lst ((s_2.2.2).map D.int))), .ow (.imm (D.tup [D.lst ((packet_9.1).map D.int), D.int packet_9.2]))]) (fun packet_9 => bk_cons (st_append (ei := (fun xs : (List Int) => D.lst (xs.map D.int))) 2 rfl (dd_ixP (ei := (fun xs : (List Int) => D.lst (xs.map D.int))) (dd_var (emb := (fun p : ((List Int) × Int) => D.tup [D.lst ((p.1).map D.int), D.int p.2])) 5 rfl) (fun p : ((List Int) × Int) => [D.lst ((p.1).map D.int), D.int p.2]) (fun p : ((List Int) × Int) => p.1)) trivial) fun found_12 => bk_cons (st_tupC (put := fun told_14 : (List Int) => [.ow (.imm (D.lst ((stream).map D.int))), .ow (.imm (D.int x_3)), .ow (.lst ((found_12).map fun x => .imm ((fun xs : (List Int) => D.lst (xs.map D.int)) x))), .ow (.lst ((told_14).map fun x => .imm (D.int x))), .ow (.imm (D.lst ((s_2.2.2).map D.int))), .ow (.imm (D.tup [D.lst ((packet_9.1).map D.int), D.int packet_9.2]))]) (ets := fun x : Int × Int × Unit => [.imm (.int x.1), .imm (.int x.2.1)]) (ck := fun x : Int × Int × Unit => (setO s_2.2.1 0 x.1).bind fun t => setO t 1 x.2.1) rfl (daf_cons (df_of_dd (dd_add (dd_ixL (ei := D.int) (dl_own (ei := D.int) (db_var (emb := (fun xs : (List Int) => T.lst (xs.map fun x => T.imm (D.int x)))) 3 rfl)) dd_int) dd_int)) (daf_cons (df_of_dd (dd_add (dd_ixL (ei := D.int) (dl_own (ei := D.int) (db_var (emb := (fun xs : (List Int) => T.lst (xs.map fun x => T.imm (D.int x)))) 3 rfl)) dd_int) (dd_ixP (ei := D.int) (dd_var (emb := (fun p : ((List Int) × Int) => D.tup [D.lst ((p.1).map D.int), D.int p.2])) 5 rfl) (fun p : ((List Int) × Int) => [D.lst ((p.1).map D.int), D.int p.2]) (fun p : ((List Int) × Int) => p.2)))) daf_nil)) (fun x z hz => by obtain ⟨t1, hz, h1⟩ := Option.bind_eq_some_iff.mp hz; have h0 := hz; exact (dgxs_cons (dgx_ixc 3 rfl h0) (dgxs_cons (dgx_ixc 3 rfl h1) dgxs_nil))) trivial) fun told_14 => bk_nil (o := (found_12, told_14)) rfl ⟨rfl, rfl, rfl, rfl, rfl, trivial⟩) (by intro _ h; rw [h]; rfl) trivial) fun j_10 => bk_nil (o := (j_10.1, j_10.2)) rfl ⟨rfl, rfl, rfl, rfl, trivial⟩)) (bk_nil (o := (s_2.1, s_2.2.1)) rfl ⟨rfl, rfl, rfl, rfl, trivial⟩) trivial) fun j_5 => bk_cons (st_set 4 (df_disp (ei := D.int) da_nil (fun p : Unit => ([] : List Int))) trivial rfl sc__law_read.nd) fun since_15 => bk_nil (o := (j_5.1, j_5.2, since_15)) rfl ⟨rfl, rfl, rfl, rfl, trivial⟩) trivial) ⟨rfl, rfl, rfl, rfl, trivial⟩ trivial) fun s_16 => bk_freezeL (ei := (fun xs : (List Int) => D.lst (xs.map D.int))) 2 rfl (bk_ret (df_of_dd (dd_tup (et := (fun p : ((List (List Int)) × (List Int) × Int) => D.tup [D.lst ((p.1).map (fun xs : (List Int) => D.lst (xs.map D.int))), D.tup ((p.2.1).map D.int), D.int p.2.2])) (da_cons (dd_var (emb := (fun xs : (List (List Int)) => D.lst (xs.map (fun xs : (List Int) => D.lst (xs.map D.int))))) 2 rfl) (da_cons (dd_tupleL (ei := D.int) (dl_own (ei := D.int) (db_var (emb := (fun xs : (List Int) => T.lst (xs.map fun x => T.imm (D.int x)))) 3 rfl)) Tx.b_tuple) (da_cons (dd_two_ints (f := fun x y => if y < x then y else x) (call_min2 rfl) dd_int (dd_lenL (ei := D.int) (dl_own (ei := D.int) (db_var (emb := (fun xs : (List Int) => T.lst (xs.map fun x => T.imm (D.int x)))) 4 rfl)) Tx.b_len) Tx.b_min (by decide +kernel)) da_nil))) (fun p : (List (List Int)) × (List Int) × Int × Unit => ((p.1, p.2.1, p.2.2.1) : ((List (List Int)) × (List Int) × Int))))) (g := fun r => r) (fun _ => rfl) trivial trivial)

theorem sc_mul : FnScope ["a", "b", "product"] ["a", "b"] (defScope s_mul) := ⟨rfl, rfl, rfl, by decide +kernel, rfl, by decide +kernel, by decide +kernel⟩
noncomputable def mul (a_q : Int) (b_q : Int) : R Int :=
  (R.ok (0 : Int) >>= fun product_1 => (whileS (fun s_2 : Int × Int × Int => (R.ok s_2.2.1 >>= fun x => .ok (x != 0))) (fun s_2 : Int × Int × Int => ((((R.ok s_2.2.1 >>= fun x => R.ok (1 : Int) >>= fun y => .ok (Builtin.bitAnd x y)) >>= fun x => .ok (x != 0)) >>= fun x => if x then ((R.ok s_2.2.2 >>= fun x => R.ok s_2.1 >>= fun y => .ok (Builtin.bitXor x y)) >>= fun product_4 => R.ok product_4) else R.ok s_2.2.2) >>= fun j_3 : Int => ((R.ok s_2.1 >>= fun x => R.ok (1 : Int) >>= fun y => ofO (shlO x y)) >>= fun a_5 => ((((R.ok a_5 >>= fun x => R.ok (256 : Int) >>= fun y => .ok (Builtin.bitAnd x y)) >>= fun x => .ok (x != 0)) >>= fun x => if x then ((R.ok a_5 >>= fun x => R.ok (285 : Int) >>= fun y => .ok (Builtin.bitXor x y)) >>= fun a_7 => R.ok a_7) else R.ok a_5) >>= fun j_6 : Int => ((R.ok s_2.2.1 >>= fun x => .ok (x / 2 ^ (1 : Int).toNat)) >>= fun b_8 => R.ok (j_6, b_8, j_3)))))) (a_q, b_q, product_1) >>= fun s_9 : Int × Int × Int => (R.ok s_9.2.2 >>= fun r => .ok (r))))
theorem ok_mul (Tx : Tx K mg) : FnOk P w K mg base (L2.CX P w) 1 Tx.a_mul Tx.d_mul ["a", "b"]
    (SpF ⟨K, mg⟩ (fun p : Int × Int × Unit => [D.int p.1, D.int p.2.1]) (fun r : Int => .imm (D.int r)) (fun p => mul p.1 p.2.1)) := by
  refine fn_pure Tx.F_mul sc_mul (fun _ => rfl) fun cdv A outer s H E hr p => ?_
  obtain ⟨a_q, b_q, _⟩ := p
  exact bk_cons (st_set 2 (df_of_dd dd_int) trivial rfl sc_mul.nd) fun product_1 => bk_cons (Γ1 := fun s_2 : Int × Int × Int => [.ow (.imm (D.int s_2.1)), .ow (.imm (D.int s_2.2.1)), .ow (.imm (D.int s_2.2.2))]) (st_whileS (Γs := fun s_2 : Int × Int × Int => [.ow (.imm (D.int s_2.1)), .ow (.imm (D.int s_2.2.1)), .ow (.imm (D.int s_2.2.2))]) (a_q, b_q, product_1) (passes_of rfl) (fun s_2 => (dt_int (dd_var (emb := D.int) 1 rfl))) (fun s_2 => bk_cons (Γ1 := fun j_3 : Int => [.ow (.imm (D.int s_2.1)), .ow (.imm (D.int s_2.2.1)), .ow (.imm (D.int j_3))]) (st_if (dt_int (dd_and (dd_var (emb := D.int) 1 rfl) dd_int)) (bk_cons (st_set 2 (df_of_dd (dd_xor (dd_var (emb := D.int) 2 rfl) (dd_var (emb := D.int) 0 rfl))) trivial rfl sc_mul.nd) fun product_4 => bk_nil (o := product_4) rfl ⟨rfl, rfl, rfl, trivial⟩) (bk_nil (o := s_2.2.2) rfl ⟨rfl, rfl, rfl, trivial⟩) trivial) fun j_3 => bk_cons (st_set 0 (df_of_dd (dd_shl (dd_var (emb := D.int) 0 rfl) dd_int)) trivial rfl sc_mul.nd) fun a_5 => bk_cons (Γ1 := fun j_6 : Int => [.ow (.imm (D.int j_6)), .ow (.imm (D.int s_2.2.1)), .ow (.imm (D.int j_3))]) (st_if (dt_int (dd_and (dd_var (emb := D.int) 0 rfl) dd_int)) (bk_cons (st_set 0 (df_of_dd (dd_xor (dd_var (emb := D.int) 0 rfl) dd_int)) trivial rfl sc_mul.nd) fun a_7 => bk_nil (o := a_7) rfl ⟨rfl, rfl, rfl, trivial⟩) (bk_nil (o := a_5) rfl ⟨rfl, rfl, rfl, trivial⟩) trivial) fun j_6 => bk_cons (st_set 1 (df_of_dd (dd_shrC (dd_var (emb := D.int) 1 rfl) dd_int (by decide))) trivial rfl sc_mul.nd) fun b_8 => bk_nil (o := (j_6, b_8, j_3)) rfl ⟨rfl, rfl, rfl, trivial⟩) ⟨rfl, rfl, rfl, trivial⟩ (fun _ => trivial)) fun s_9 => bk_ret (df_of_dd (dd_var (emb := D.int) 2 rfl)) (g := fun r => r) (fun _ => rfl) trivial trivial

theorem sc_checked : FnScope ["octets", "rest", "octet", "first", "k"] ["octets"] (defScope s_checked) := ⟨rfl, rfl, rfl, by decide +kernel, rfl, by decide +kernel, by decide +kernel⟩
noncomputable def checked (octets : (List Int)) : R (List Int) :=
  (((R.ok octets >>= fun xs => .ok (xs.length : Int)) >>= fun x => R.ok (251 : Int) >>= fun y => .ok (decide (y < x))) >>= fun x => if x then R.err ("BadFrame" : Str) else ((((R.ok (0 : Int) >>= fun x => R.ok () >>= fun y => .ok (x, y)) >>= fun p => .ok ((fun p : Int × Unit => ([p.1] : List Int)) p)) >>= fun xs => R.ok (4 : Int) >>= fun k => ofO (repO xs k)) >>= fun rest_1 => ((R.ok octets >>= fun xs => forS (fun (x_3 : Int) (s_2 : (List Int)) => (((R.ok s_2 >>= fun xs => R.ok (0 : Int) >>= fun i => ofO (atI xs i)) >>= fun x => R.ok x_3 >>= fun y => .ok (Builtin.bitXor x y)) >>= fun first_4 => (((R.ok s_2 >>= fun xs => (R.ok (1 : Int) >>= fun i => .ok (some i)) >>= fun i => R.ok none >>= fun j => .ok (cutL xs i j)) >>= fun xs => ((R.ok (0 : Int) >>= fun x => R.ok () >>= fun y => .ok (x, y)) >>= fun p => .ok ((fun p : Int × Unit => ([p.1] : List Int)) p)) >>= fun ys => ofO (catO xs ys)) >>= fun rest_5 => (((R.ok (4 : Int) >>= fun n => ofO (rangeO 0 n)) >>= fun xs => compR (fun c_7 : Int => R.ok true) (fun c_7 : Int => ((R.ok rest_5 >>= fun xs => R.ok c_7 >>= fun i => ofO (atI xs i)) >>= fun x => ((R.ok first_4 >>= fun x => ((R.ok ([15, 54, 120, 64] : List Int) >>= fun xs => R.ok c_7 >>= fun i => ofO (atI xs i)) >>= fun x => R.ok () >>= fun y => .ok (x, y)) >>= fun y => .ok (x, y)) >>= fun p : Int × Int × Unit => (mul p.1 p.2.1)) >>= fun y => .ok (Builtin.bitXor x y))) xs) >>= fun rest_6 => R.ok rest_6)))) xs rest_1) >>= fun s_8 : (List Int) => ((R.ok octets >>= fun xs => R.ok s_8 >>= fun ys => ofO (catO xs ys)) >>= fun r => .ok (r)))))
theorem ok_checked (Tx : Tx K mg) : FnOk P w K mg base (L2.CX P w) 2 Tx.a_checked Tx.d_checked ["octets"]
    (SpF ⟨K, mg⟩ (fun p : (List Int) × Unit => [D.lst ((p.1).map D.int)]) (fun r : (List Int) => .lst ((r).map fun x => .imm (D.int x))) (fun p => checked p.1)) := by
  refine fn_pure Tx.F_checked sc_checked (fun _ => rfl) fun cdv A outer s H E hr p => ?_
  obtain ⟨octets, _⟩ := p
  exact bk_ifX (dt_gt (dd_lenL (ei := D.int) (dl_imm (ei := D.int) (dd_var (emb := (fun xs : (List Int) => D.lst (xs.map D.int))) 0 rfl)) Tx.b_len) (dd_gint Tx.c_LONGEST_PACKET)) (bk_raise Tx.x_BadFrame rfl (takes_of rfl rfl rfl rfl) trivial) (bk_cons (st_set 1 (df_rep (ei := D.int) (dlt_own (ei := D.int) (db_of_df (df_disp (ei := D.int) (da_cons dd_int da_nil) (fun p : Int × Unit => ([p.1] : List Int))))) (dd_gint Tx.c_CHECKS)) trivial rfl sc_checked.nd) fun rest_1 => bk_cons (Γ1 := fun s_2 : (List Int) => [.ow (.imm (D.lst ((octets).map D.int))), .ow (.lst ((s_2).map fun x => .imm (D.int x))), .un, .un, .un]) (st_forS (Γs := fun s_2 : (List Int) => [.ow (.imm (D.lst ((octets).map D.int))), .ow (.lst ((s_2).map fun x => .imm (D.int x))), .un, .un, .un]) (ei := D.int) rest_1 (passes_of rfl) rfl (di_list (ei := D.int) (dd_var (emb := (fun xs : (List Int) => D.lst (xs.map D.int))) 0 rfl)) (fun s_2 x_3 => (dg_name 2 sc_checked.nd)) (fun s_2 x_3 => bk_cons (st_set 3 (df_of_dd (dd_xor (dd_ixL (ei := D.int) (dl_own (ei := D.int) (db_var (emb := (fun xs : (List Int) => T.lst (xs.map fun x => T.imm (D.int x)))) 1 rfl)) dd_int) (dd_var (emb := D.int) 2 rfl))) trivial rfl sc_checked.nd) fun first_4 => bk_cons (st_set 1 (df_cat (ei := D.int) (dlt_own (ei := D.int) (db_of_df (df_slL (ei := D.int) (dl_own (ei := D.int) (db_var (emb := (fun xs : (List Int) => T.lst (xs.map fun x => T.imm (D.int x)))) 1 rfl)) (do_some dd_int) do_none))) (dlt_own (ei := D.int) (db_of_df (df_disp (ei := D.int) (da_cons dd_int da_nil) (fun p : Int × Unit => ([p.1] : List Int)))))) trivial rfl sc_checked.nd) fun rest_5 => bk_as [.ow (.imm (D.lst ((octets).map D.int))), .ow (.lst ((rest_5).map fun x => .imm (D.int x))), .ow (.imm (D.int x_3)), .ow (.imm (D.int first_4)), .un] rfl (bk_cons (st_set 1 (df_lc (put := fun c_7 : Int => [.ow (.imm (D.lst ((octets).map D.int))), .ow (.lst ((rest_5).map fun x => .imm (D.int x))), .ow (.imm (D.int x_3)), .ow (.imm (D.int first_4)), .ow (.imm (D.int c_7))]) (N' := ["octets", "rest", "octet", "first", "k"]) (sc' := defScope s_checked) (ei := D.int) (et := fun y => .imm (D.int y)) [("k", 4)] rfl sc_checked.nd (di_range1 (dd_gint Tx.c_CHECKS) Tx.b_range) (by exact ⟨rfl, rfl, rfl, rfl, trivial⟩) (fun _ _ _ _ _ c_7 => (dgc_name 4 sc_checked.nd)) (fun _ _ _ _ _ c_7 => dts_nil) (fun _ _ _ _ _ c_7 => df_of_dd (dd_xor (dd_ixL (ei := D.int) (dl_own (ei := D.int) (db_var (emb := (fun xs : (List Int) => T.lst (xs.map fun x => T.imm (D.int x)))) 1 rfl)) (dd_var (emb := D.int) 4 rfl)) (dd_imm (df_call (ok_mul Tx) (hr.mono (by decide)) Tx.g_mul Tx.F_mul.kp Tx.b_mul takes0 (da_cons (dd_var (emb := D.int) 3 rfl) (da_cons (dd_ixT (ei := D.int) (dd_gtup Tx.gt_DIVISOR Tx.gv_DIVISOR) (dd_var (emb := D.int) 4 rfl)) da_nil))))))) trivial rfl sc_checked.nd) fun rest_6 => bk_nil (o := rest_6) rfl ⟨rfl, rfl, trivial⟩)) ⟨rfl, rfl, trivial⟩ trivial) fun s_8 => bk_ret (df_cat (ei := D.int) (dlt_own (ei := D.int) (db_of_df (df_listL (ei := D.int) (dl_imm (ei := D.int) (dd_var (emb := (fun xs : (List Int) => D.lst (xs.map D.int))) 0 rfl)) Tx.b_list))) (dlt_own (ei := D.int) (db_var (emb := (fun xs : (List Int) => T.lst (xs.map fun x => T.imm (D.int x)))) 1 rfl))) (g := fun r => r) (fun _ => rfl) trivial trivial) trivial

theorem sc_frame : FnScope ["packet", "out", "octet"] ["packet"] (defScope s_frame) := ⟨rfl, rfl, rfl, by decide +kernel, rfl, by decide +kernel, by decide +kernel⟩
noncomputable def frame (packet : (List Int)) : R (List Int) :=
  (((R.ok packet >>= fun x => ofO (tru (.imm (D.lst ((x).map D.int))))) >>= fun x => .ok !x) >>= fun x => if x then R.err ("BadFrame" : Str) else ((R.ok () >>= fun p => .ok ((fun p : Unit => ([] : List Int)) p)) >>= fun out_1 => ((((R.ok packet >>= fun x => R.ok () >>= fun y => .ok (x, y)) >>= fun p : (List Int) × Unit => (checked p.1)) >>= fun xs => forS (fun (x_3 : Int) (s_2 : (List Int)) => ((((R.ok x_3 >>= fun i => .ok ((([(125, 93), (126, 94)] : List (Int × Int)).lookup i).isSome)) >>= fun x => if x then ((R.ok (125 : Int) >>= fun x => ((R.ok x_3 >>= fun i => ofO (([(125, 93), (126, 94)] : List (Int × Int)).lookup i)) >>= fun x => R.ok () >>= fun y => .ok (x, y)) >>= fun y => .ok (x, y)) >>= fun p => .ok ((fun p : Int × Int × Unit => ([p.1, p.2.1] : List Int)) p)) else ((R.ok x_3 >>= fun x => R.ok () >>= fun y => .ok (x, y)) >>= fun p => .ok ((fun p : Int × Unit => ([p.1] : List Int)) p))) >>= fun x => ofO (extO s_2 x)) >>= fun out_4 => R.ok out_4)) xs out_1) >>= fun s_5 : (List Int) => ((R.ok s_5 >>= fun xs => ((R.ok (126 : Int) >>= fun x => R.ok () >>= fun y => .ok (x, y)) >>= fun p => .ok ((fun p : Int × Unit => ([p.1] : List Int)) p)) >>= fun ys => ofO (catO xs ys)) >>= fun r => .ok (r)))))
theorem ok_frame (Tx : Tx K mg) : FnOk P w K mg base (L2.CX P w) 3 Tx.a_frame Tx.d_frame ["packet"]
    (SpF ⟨K, mg⟩ (fun p : (List Int) × Unit => [D.lst ((p.1).map D.int)]) (fun r : (List Int) => .lst ((r).map fun x => .imm (D.int x))) (fun p => frame p.1)) := by
  refine fn_pure Tx.F_frame sc_frame (fun _ => rfl) fun cdv A outer s H E hr p => ?_
  obtain ⟨packet, _⟩ := p
  exact bk_ifX (dt_not (dt_tru (emb := fun x => .imm ((fun xs : (List Int) => D.lst (xs.map D.int)) x)) (db_of_dd (dd_var (emb := (fun xs : (List Int) => D.lst (xs.map D.int))) 0 rfl)))) (bk_raise Tx.x_BadFrame rfl (takes_of rfl rfl rfl rfl) trivial) (bk_cons (st_set 1 (df_disp (ei := D.int) da_nil (fun p : Unit => ([] : List Int))) trivial rfl sc_frame.nd) fun out_1 => bk_cons (Γ1 := fun s_2 : (List Int) => [.ow (.imm (D.lst ((packet).map D.int))), .ow (.lst ((s_2).map fun x => .imm (D.int x))), .un]) (st_forS (Γs := fun s_2 : (List Int) => [.ow (.imm (D.lst ((packet).map D.int))), .ow (.lst ((s_2).map fun x => .imm (D.int x))), .un]) (ei := D.int) out_1 (passes_of rfl) rfl (di_list (ei := D.int) (dd_list (ε := D.int) (df_call (ok_checked Tx) (hr.mono (by decide)) Tx.g_checked Tx.F_checked.kp Tx.b_checked (takes_of rfl rfl rfl rfl) (da_cons (ea := (fun xs : (List Int) => D.lst (xs.map D.int))) (dd_var (emb := (fun xs : (List Int) => D.lst (xs.map D.int))) 0 rfl) da_nil)))) (fun s_2 x_3 => (dg_name 2 sc_frame.nd)) (fun s_2 x_3 => bk_cons (st_extend (ei := D.int) 1 rfl (dlt_own (ei := D.int) (db_of_df (df_if (dt_gdin Tx.gdm_ESCAPED Tx.gdv_ESCAPED (dd_var (emb := D.int) 2 rfl)) (df_disp (ei := D.int) (da_cons (dd_gint Tx.c_ESCAPE) (da_cons (dd_gdget Tx.gdm_ESCAPED Tx.gdv_ESCAPED (dd_var (emb := D.int) 2 rfl)) da_nil)) (fun p : Int × Int × Unit => ([p.1, p.2.1] : List Int))) (df_disp (ei := D.int) (da_cons (dd_var (emb := D.int) 2 rfl) da_nil) (fun p : Int × Unit => ([p.1] : List Int)))))) trivial) fun out_4 => bk_nil (o := out_4) rfl ⟨rfl, rfl, trivial⟩) ⟨rfl, rfl, trivial⟩ trivial) fun s_5 => bk_ret (df_cat (ei := D.int) (dlt_own (ei := D.int) (db_var (emb := (fun xs : (List Int) => T.lst (xs.map fun x => T.imm (D.int x)))) 1 rfl)) (dlt_own (ei := D.int) (db_of_df (df_disp (ei := D.int) (da_cons (dd_gint Tx.c_END) da_nil) (fun p : Int × Unit => ([p.1] : List Int)))))) (g := fun r => r) (fun _ => rfl) trivial trivial) trivial

theorem sc__law_octets : FnScope ["draws", "many", "found", "k", "draw"] ["draws", "many"] (defScope s__law_octets) := ⟨rfl, rfl, rfl, by decide +kernel, rfl, by decide +kernel, by decide +kernel⟩
noncomputable def _law_octets (draws : (List Int)) (many : Int) : R (List Int) :=
  ((R.ok () >>= fun p => .ok ((fun p : Unit => ([] : List Int)) p)) >>= fun found_1 => (((R.ok many >>= fun n => ofO (rangeO 0 n)) >>= fun xs => forS (fun (x_3 : Int) (s_2 : (List Int)) => (((R.ok draws >>= fun xs => (((R.ok (7 : Int) >>= fun x => R.ok x_3 >>= fun y => ofO (mulO x y)) >>= fun x => (R.ok x_3 >>= fun x => (R.ok draws >>= fun xs => .ok (xs.length : Int)) >>= fun y => ofO (divO x y)) >>= fun y => .ok (x + y)) >>= fun x => (R.ok draws >>= fun xs => .ok (xs.length : Int)) >>= fun y => ofO (modO x y)) >>= fun i => ofO (atI xs i)) >>= fun x => (R.ok (1 : Int) >>= fun x => (R.ok x_3 >>= fun x => .ok (x % 11)) >>= fun y => .ok (x + y)) >>= fun y => ofO (divO x y)) >>= fun draw_4 => ((((((R.ok draw_4 >>= fun x => .ok (x % 256)) >>= fun x => (R.ok (125 : Int) >>= fun x => (R.ok (126 : Int) >>= fun x => ((R.ok (93 : Int) >>= fun x => (R.ok draw_4 >>= fun x => .ok (x % 2)) >>= fun y => .ok (x + y)) >>= fun x => ((R.ok draw_4 >>= fun x => .ok (x % 256)) >>= fun x => R.ok () >>= fun y => .ok (x, y)) >>= fun y => .ok (x, y)) >>= fun y => .ok (x, y)) >>= fun y => .ok (x, y)) >>= fun y => .ok (x, y)) >>= fun p => .ok ((fun p : Int × Int × Int × Int × Int × Unit => ([p.1, p.2.1, p.2.2.1, p.2.2.2.1, p.2.2.2.2.1] : List Int)) p)) >>= fun xs => ((R.ok draw_4 >>= fun x => .ok (x / 256)) >>= fun x => .ok (x % 5)) >>= fun i => ofO (atI xs i)) >>= fun x => ofO (appO s_2 x)) >>= fun found_5 => R.ok found_5))) xs found_1) >>= fun s_6 : (List Int) => R.ok (s_6)))
theorem ok__law_octets (Tx : Tx K mg) : FnOk P w K mg base (L2.CX P w) 1 Tx.a__law_octets Tx.d__law_octets ["draws", "many"]
    (SpF ⟨K, mg⟩ (fun p : (List Int) × Int × Unit => [D.lst ((p.1).map D.int), D.int p.2.1]) (fun r : (List Int) => .lst ((r).map fun x => .imm (D.int x))) (fun p => _law_octets p.1 p.2.1)) := by
  refine fn_pure Tx.F__law_octets sc__law_octets (fun _ => rfl) fun cdv A outer s H E hr p => ?_
  obtain ⟨draws, many, _⟩ := p
  exact bk_cons (st_set 2 (df_disp (ei := D.int) da_nil (fun p : Unit => ([] : List Int))) trivial rfl sc__law_octets.nd) fun found_1 => bk_cons (Γ1 := fun s_2 : (List Int) => [.ow (.imm (D.lst ((draws).map D.int))), .ow (.imm (D.int many)), .ow (.lst ((s_2).map fun x => .imm (D.int x))), .un, .un]) (st_forS (Γs := fun s_2 : (List Int) => [.ow (.imm (D.lst ((draws).map D.int))), .ow (.imm (D.int many)), .ow (.lst ((s_2).map fun x => .imm (D.int x))), .un, .un]) (ei := D.int) found_1 (passes_of rfl) rfl (di_range1 (dd_var (emb := D.int) 1 rfl) Tx.b_range) (fun s_2 x_3 => (dg_name 3 sc__law_octets.nd)) (fun s_2 x_3 => bk_cons (st_set 4 (df_of_dd (dd_div (dd_intI (dd_ixL (ei := D.int) (dl_imm (ei := D.int) (dd_var (emb := (fun xs : (List Int) => D.lst (xs.map D.int))) 0 rfl)) (dd_mod (dd_add (dd_mul dd_int (dd_var (emb := D.int) 3 rfl)) (dd_div (dd_var (emb := D.int) 3 rfl) (dd_lenL (ei := D.int) (dl_imm (ei := D.int) (dd_var (emb := (fun xs : (List Int) => D.lst (xs.map D.int))) 0 rfl)) Tx.b_len))) (dd_lenL (ei := D.int) (dl_imm (ei := D.int) (dd_var (emb := (fun xs : (List Int) => D.lst (xs.map D.int))) 0 rfl)) Tx.b_len))) Tx.b_int) (dd_add dd_int (dd_modC (dd_var (emb := D.int) 3 rfl) dd_int (by decide))))) trivial rfl sc__law_octets.nd) fun draw_4 => bk_cons (st_append (ei := D.int) 2 rfl (dd_ixL (ei := D.int) (dl_own (ei := D.int) (db_of_df (df_disp (ei := D.int) (da_cons (dd_modC (dd_var (emb := D.int) 4 rfl) dd_int (by decide)) (da_cons dd_int (da_cons dd_int (da_cons (dd_add dd_int (dd_modC (dd_var (emb := D.int) 4 rfl) dd_int (by decide))) (da_cons (dd_modC (dd_var (emb := D.int) 4 rfl) dd_int (by decide)) da_nil))))) (fun p : Int × Int × Int × Int × Int × Unit => ([p.1, p.2.1, p.2.2.1, p.2.2.2.1, p.2.2.2.2.1] : List Int))))) (dd_modC (dd_divC (dd_var (emb := D.int) 4 rfl) dd_int (by decide)) dd_int (by decide))) trivial) fun found_5 => bk_nil (o := found_5) rfl ⟨rfl, rfl, rfl, trivial⟩) ⟨rfl, rfl, rfl, trivial⟩ trivial) fun s_6 => bk_retV (o := s_6) 2 rfl rfl trivial

theorem sc_Sieve____init__ : FnScope ["self"] ["self"] (defScope s_Sieve____init__) := ⟨rfl, rfl, rfl, by decide +kernel, rfl, by decide +kernel, by decide +kernel⟩
noncomputable def Sieve____init___b (_ : Unit) : R OSieve :=
  ((R.ok () >>= fun p => .ok ((fun p : Unit => ([] : List Int)) p)) >>= fun f_1 => (R.ok (0 : Int) >>= fun f_2 => (((R.ok (0 : Int) >>= fun x => (R.ok (0 : Int) >>= fun x => (R.ok (0 : Int) >>= fun x => R.ok () >>= fun y => .ok (x, y)) >>= fun y => .ok (x, y)) >>= fun y => .ok (x, y)) >>= fun p => .ok ((fun p : Int × Int × Int × Unit => ([p.1, p.2.1, p.2.2.1] : List Int)) p)) >>= fun f_3 => R.ok (f_1, f_2, f_3))))
noncomputable def Sieve____init__ (_ : Unit) : R OSieve := noErr (Sieve____init___b ())
theorem ok_Sieve____init__ (Tx : Tx K mg) : FnOk P w K mg base (L2.CX P w) 1 Tx.a_Sieve____init__ Tx.d_Sieve____init__ ["self"]
    (SpG ⟨K, mg⟩ (fun p : Unit => [.tr (.obj "Sieve" [] [])]) (fun _ => .imm .non) (fun r : OSieve => [eSieve r]) (fun p => Sieve____init__ ())) := by
  refine fn_genN (fun (p : Unit) vs (r : OSieve) => { nx := some (slotsR [.tr (.obj "Sieve" [] [])] vs ((fun r : OSieve => [eSieve r]) r) ++ List.replicate 0 .un), rt := some ((fun _ => .imm .non) r, slotsR [.tr (.obj "Sieve" [] [])] vs ((fun r : OSieve => [eSieve r]) r) ++ List.replicate 0 .un) }) Tx.F_Sieve____init__ sc_Sieve____init__ (fun _ => rfl) (fun cdv A outer s H E hr p vs hv => ?_) (fun p vs r => ⟨.inr ⟨rfl, rfl⟩, .inr rfl, rfl, rfl⟩)
  obtain ⟨⟩ := p
  match vs, hv with
  | [v0], _ =>
  exact bk_cons (st_fldN 0 (dx_df (df_disp (ei := D.int) da_nil (fun p : Unit => ([] : List Int)))) (fun _ => rfl) (fun _ => rfl) ⟨Tx.gc_Sieve, Tx.cl_Sieve⟩ Tx.na_Sieve__octets trivial) fun f_1 => bk_as [.pn v0 (.obj "Sieve" ["_octets"] [.lst ((f_1).map fun x => .imm (D.int x))])] rfl (bk_cons (st_fldN 0 (dx_df (df_of_dd dd_int)) (fun _ => rfl) (fun _ => rfl) ⟨Tx.gc_Sieve, Tx.cl_Sieve⟩ Tx.na_Sieve__count trivial) fun f_2 => bk_as [.pn v0 (.obj "Sieve" ["_octets", "_count"] [.lst ((f_1).map fun x => .imm (D.int x)), .imm (D.int f_2)])] rfl (bk_cons (st_fldN 0 (dx_df (df_disp (ei := D.int) (da_cons dd_int (da_cons dd_int (da_cons dd_int da_nil))) (fun p : Int × Int × Int × Unit => ([p.1, p.2.1, p.2.2.1] : List Int)))) (fun _ => rfl) (fun _ => rfl) ⟨Tx.gc_Sieve, Tx.cl_Sieve⟩ Tx.na_Sieve__told trivial) fun f_3 => bk_as [.pn v0 (eSieve (f_1, f_2, f_3))] rfl (bk_nil (o := (f_1, f_2, f_3)) rfl ⟨rfl, rfl, trivial⟩)))

theorem sc__unwritten : FnScope ["octets", "out", "at", "octet"] ["octets"] (defScope s__unwritten) := ⟨rfl, rfl, rfl, by decide +kernel, rfl, by decide +kernel, by decide +kernel⟩
noncomputable def _unwritten (octets : (List Int)) : R (Option (List Int)) :=
  (((R.ok () >>= fun p => .ok ((fun p : Unit => ([] : List Int)) p)) >>= fun p => (R.ok (0 : Int) >>= fun q => .ok (p, q))) >>= fun u_1 => (whileX (fun s_2 : (List Int) × Int => (R.ok s_2.2 >>= fun x => (R.ok octets >>= fun xs => .ok (xs.length : Int)) >>= fun y => .ok (decide (x < y)))) (fun s_2 : (List Int) × Int => ((R.ok octets >>= fun xs => R.ok s_2.2 >>= fun i => ofO (atI xs i)) >>= fun octet_3 => (((R.ok octet_3 >>= fun x => R.ok (125 : Int) >>= fun y => .ok (decide (x = y))) >>= fun x => if x then ((R.ok (1 : Int) >>= fun y => ofO ((fun x y => some (x + y)) s_2.2 y)) >>= fun at_5 => (((R.ok at_5 >>= fun x => (R.ok octets >>= fun xs => .ok (xs.length : Int)) >>= fun y => .ok (decide (x = y))) >>= fun x => if x then .ok true else ((R.ok octets >>= fun xs => R.ok at_5 >>= fun i => ofO (atI xs i)) >>= fun i => .ok (!(([(93, 125), (94, 126)] : List (Int × Int)).lookup i).isSome))) >>= fun x => if x then ((R.ok () >>= fun x => .ok ((fun _ : Unit => (none : (Option (List Int)))) x)) >>= fun r => .ok (Sum.inr (Lo.ex (r)))) else (((R.ok octets >>= fun xs => R.ok at_5 >>= fun i => ofO (atI xs i)) >>= fun i => ofO (([(93, 125), (94, 126)] : List (Int × Int)).lookup i)) >>= fun octet_6 => R.ok (Sum.inl (at_5, octet_6))))) else R.ok (Sum.inl (s_2.2, octet_3))) >>= sumK (fun j_4 : Int × Int => ((R.ok j_4.2 >>= fun x => ofO (appO s_2.1 x)) >>= fun out_7 => ((R.ok (1 : Int) >>= fun y => ofO ((fun x y => some (x + y)) j_4.1 y)) >>= fun at_8 => R.ok (Lo.nx (out_7, at_8))))) .ok))) (u_1.1, u_1.2) >>= sumK (fun s_9 : (List Int) × Int => R.ok ((some s_9.1))) .ok))
theorem ok__unwritten (Tx : Tx K mg) : FnOk P w K mg base (L2.CX P w) 1 Tx.a__unwritten Tx.d__unwritten ["octets"]
    (SpL ⟨K, mg⟩ (fun p : (List Int) × Unit => [.tr (.lst ((p.1).map fun x => .imm (D.int x)))]) (fun r : (Option (List Int)) => eOptT (fun xs : (List Int) => T.lst (xs.map fun x => T.imm (D.int x))) (r)) (fun p => _unwritten p.1)) := by
  refine fn_look Tx.F__unwritten sc__unwritten (fun _ => rfl) fun cdv A outer s H E hr p => ?_
  obtain ⟨octets, _⟩ := p
  exact bk_cons (st_par2 1 2 (by decide) rfl sc__unwritten.nd (df_disp (ei := D.int) da_nil (fun p : Unit => ([] : List Int))) (df_of_dd dd_int) trivial) fun u_1 => bk_consX (Γ1 := fun s_2 : (List Int) × Int => [.lk (.lst ((octets).map fun x => .imm (D.int x))), .ow (.lst ((s_2.1).map fun x => .imm (D.int x))), .ow (.imm (D.int s_2.2)), .un]) (st_rr (st_while (Γs := fun s_2 : (List Int) × Int => [.lk (.lst ((octets).map fun x => .imm (D.int x))), .ow (.lst ((s_2.1).map fun x => .imm (D.int x))), .ow (.imm (D.int s_2.2)), .un]) (u_1.1, u_1.2) (passes_of rfl) (fun s_2 => (dt_lt (dd_var (emb := D.int) 2 rfl) (dd_lenL (ei := D.int) (dl_own (ei := D.int) (db_see (emb := (fun xs : (List Int) => T.lst (xs.map fun x => T.imm (D.int x)))) (x := octets) 0 rfl rfl)) Tx.b_len))) (fun s_2 => bk_cons (st_set 3 (df_of_dd (dd_ixL (ei := D.int) (dl_own (ei := D.int) (db_see (emb := (fun xs : (List Int) => T.lst (xs.map fun x => T.imm (D.int x)))) (x := octets) 0 rfl rfl)) (dd_var (emb := D.int) 2 rfl))) trivial rfl sc__unwritten.nd) fun octet_3 => bk_consX (Γ1 := fun j_4 : Int × Int => [.lk (.lst ((octets).map fun x => .imm (D.int x))), .ow (.lst ((s_2.1).map fun x => .imm (D.int x))), .ow (.imm (D.int j_4.1)), .ow (.imm (D.int j_4.2))]) (st_if (dt_eqI (dd_var (emb := D.int) 3 rfl) (dd_gint Tx.c_ESCAPE)) (bk_cons (st_aug aug_add 2 rfl dd_int trivial sc__unwritten.nd) fun at_5 => bk_ifX (dt_dw (dw_or (dt_eqI (dd_var (emb := D.int) 2 rfl) (dd_lenL (ei := D.int) (dl_own (ei := D.int) (db_see (emb := (fun xs : (List Int) => T.lst (xs.map fun x => T.imm (D.int x)))) (x := octets) 0 rfl rfl)) Tx.b_len)) (dw_one (dt_gdnin Tx.gdm_MEANT Tx.gdv_MEANT (dd_ixL (ei := D.int) (dl_own (ei := D.int) (db_see (emb := (fun xs : (List Int) => T.lst (xs.map fun x => T.imm (D.int x)))) (x := octets) 0 rfl rfl)) (dd_var (emb := D.int) 2 rfl))) (by first | exact .inl rfl | exact .inr rfl)))) (bk_ret (df_co (df_of_dd dd_non) (fun _ : Unit => (none : (Option (List Int))))) (g := fun r => Sum.inr (Lo.ex (r))) (fun _ => rfl) trivial trivial) (bk_cons (st_set 3 (df_of_dd (dd_gdget Tx.gdm_MEANT Tx.gdv_MEANT (dd_ixL (ei := D.int) (dl_own (ei := D.int) (db_see (emb := (fun xs : (List Int) => T.lst (xs.map fun x => T.imm (D.int x)))) (x := octets) 0 rfl rfl)) (dd_var (emb := D.int) 2 rfl)))) trivial rfl sc__unwritten.nd) fun octet_6 => bk_nil (o := (Sum.inl (at_5, octet_6))) rfl ⟨rfl, rfl, rfl, rfl, trivial⟩) trivial) (bk_nil (o := (Sum.inl (s_2.2, octet_3))) rfl ⟨rfl, rfl, rfl, rfl, trivial⟩) trivial) fun j_4 => bk_cons (st_append (ei := D.int) 1 rfl (dd_var (emb := D.int) 3 rfl) trivial) fun out_7 => bk_cons (st_aug aug_add 2 rfl dd_int trivial sc__unwritten.nd) fun at_8 => bk_nil (o := (Lo.nx (out_7, at_8))) rfl ⟨rfl, rfl, rfl, trivial⟩) ⟨rfl, rfl, rfl, trivial⟩ (fun _ => trivial))) fun s_9 => bk_retV (o := (some s_9.1)) 1 rfl rfl trivial

theorem sc_value_at : FnScope ["octets", "x", "value", "octet"] ["octets", "x"] (defScope s_value_at) := ⟨rfl, rfl, rfl, by decide +kernel, rfl, by decide +kernel, by decide +kernel⟩
noncomputable def value_at (octets : (List Int)) (x_q : Int) : R Int :=
  (R.ok (0 : Int) >>= fun value_1 => ((R.ok octets >>= fun xs => forS (fun (x_3 : Int) (s_2 : Int) => ((((R.ok s_2 >>= fun x => (R.ok x_q >>= fun x => R.ok () >>= fun y => .ok (x, y)) >>= fun y => .ok (x, y)) >>= fun p : Int × Int × Unit => (mul p.1 p.2.1)) >>= fun x => R.ok x_3 >>= fun y => .ok (Builtin.bitXor x y)) >>= fun value_4 => R.ok value_4)) xs value_1) >>= fun s_5 : Int => (R.ok s_5 >>= fun r => .ok (r))))
theorem ok_value_at (Tx : Tx K mg) : FnOk P w K mg base (L2.CX P w) 2 Tx.a_value_at Tx.d_value_at ["octets", "x"]
    (SpF ⟨K, mg⟩ (fun p : (List Int) × Int × Unit => [D.lst ((p.1).map D.int), D.int p.2.1]) (fun r : Int => .imm (D.int r)) (fun p => value_at p.1 p.2.1)) := by
  refine fn_pure Tx.F_value_at sc_value_at (fun _ => rfl) fun cdv A outer s H E hr p => ?_
  obtain ⟨octets, x_q, _⟩ := p
  exact bk_cons (st_set 2 (df_of_dd dd_int) trivial rfl sc_value_at.nd) fun value_1 => bk_cons (Γ1 := fun s_2 : Int => [.ow (.imm (D.lst ((octets).map D.int))), .ow (.imm (D.int x_q)), .ow (.imm (D.int s_2)), .un]) (st_forS (Γs := fun s_2 : Int => [.ow (.imm (D.lst ((octets).map D.int))), .ow (.imm (D.int x_q)), .ow (.imm (D.int s_2)), .un]) (ei := D.int) value_1 (passes_of rfl) rfl (di_list (ei := D.int) (dd_var (emb := (fun xs : (List Int) => D.lst (xs.map D.int))) 0 rfl)) (fun s_2 x_3 => (dg_name 3 sc_value_at.nd)) (fun s_2 x_3 => bk_cons (st_set 2 (df_of_dd (dd_xor (dd_imm (df_call (ok_mul Tx) (hr.mono (by decide)) Tx.g_mul Tx.F_mul.kp Tx.b_mul (takes_of rfl rfl rfl rfl) (da_cons (dd_var (emb := D.int) 2 rfl) (da_cons (dd_var (emb := D.int) 1 rfl) da_nil)))) (dd_var (emb := D.int) 3 rfl))) trivial rfl sc_value_at.nd) fun value_4 => bk_nil (o := value_4) rfl ⟨rfl, rfl, rfl, trivial⟩) ⟨rfl, rfl, rfl, trivial⟩ trivial) fun s_5 => bk_ret (df_of_dd (dd_var (emb := D.int) 2 rfl)) (g := fun r => r) (fun _ => rfl) trivial trivial

theorem sc__values : FnScope ["octets", "point"] ["octets"] (defScope s__values) := ⟨rfl, rfl, rfl, by decide +kernel, rfl, by decide +kernel, by decide +kernel⟩
noncomputable def _values (octets : (List Int)) : R (List Int) :=
  ((R.ok ([1, 2, 4, 8] : List Int) >>= fun xs => compR (fun c_1 : Int => R.ok true) (fun c_1 : Int => ((R.ok octets >>= fun x => (R.ok c_1 >>= fun x => R.ok () >>= fun y => .ok (x, y)) >>= fun y => .ok (x, y)) >>= fun p : (List Int) × Int × Unit => (value_at p.1 p.2.1))) xs) >>= fun r => .ok (r))
theorem ok__values (Tx : Tx K mg) : FnOk P w K mg base (L2.CX P w) 3 Tx.a__values Tx.d__values ["octets"]
    (SpF ⟨K, mg⟩ (fun p : (List Int) × Unit => [D.lst ((p.1).map D.int)]) (fun r : (List Int) => .lst ((r).map fun x => .imm (D.int x))) (fun p => _values p.1)) := by
  refine fn_pure Tx.F__values sc__values (fun _ => rfl) fun cdv A outer s H E hr p => ?_
  obtain ⟨octets, _⟩ := p
  exact bk_as [.ow (.imm (D.lst ((octets).map D.int))), .un] rfl (bk_ret (df_lc (put := fun c_1 : Int => [.ow (.imm (D.lst ((octets).map D.int))), .ow (.imm (D.int c_1))]) (N' := ["octets", "point"]) (sc' := defScope s__values) (ei := D.int) (et := fun y => .imm (D.int y)) [("point", 1)] rfl sc__values.nd (di_tup (ei := D.int) (dd_gtup Tx.gt_POINTS Tx.gv_POINTS)) (by exact ⟨rfl, trivial⟩) (fun _ _ _ _ _ c_1 => (dgc_name 1 sc__values.nd)) (fun _ _ _ _ _ c_1 => dts_nil) (fun _ _ _ _ _ c_1 => df_of_dd (dd_imm (df_call (ok_value_at Tx) (hr.mono (by decide)) Tx.g_value_at Tx.F_value_at.kp Tx.b_value_at takes0 (da_cons (ea := (fun xs : (List Int) => D.lst (xs.map D.int))) (dd_var (emb := (fun xs : (List Int) => D.lst (xs.map D.int))) 0 rfl) (da_cons (dd_var (emb := D.int) 1 rfl) da_nil)))))) (g := fun r => r) (fun _ => rfl) trivial trivial)

theorem sc__power_of : FnScope ["octet", "found", "n"] ["octet"] (defScope s__power_of) := ⟨rfl, rfl, rfl, by decide +kernel, rfl, by decide +kernel, by decide +kernel⟩
noncomputable def _power_of (octet : Int) : R Int :=
  ((R.ok (1 : Int) >>= fun x => (R.ok (0 : Int) >>= fun x => R.ok () >>= fun y => .ok (x, y)) >>= fun y => .ok (x, y)) >>= fun u_1 => (whileS (fun s_2 : Int × Int => (R.ok s_2.1 >>= fun x => R.ok octet >>= fun y => .ok (!decide (x = y)))) (fun s_2 : Int × Int => (((R.ok s_2.1 >>= fun x => (R.ok (2 : Int) >>= fun x => R.ok () >>= fun y => .ok (x, y)) >>= fun y => .ok (x, y)) >>= fun p : Int × Int × Unit => (mul p.1 p.2.1)) >>= fun found_3 => ((R.ok (1 : Int) >>= fun y => ofO ((fun x y => some (x + y)) s_2.2 y)) >>= fun n_4 => R.ok (found_3, n_4)))) (u_1.1, u_1.2.1) >>= fun s_5 : Int × Int => (R.ok s_5.2 >>= fun r => .ok (r))))
theorem ok__power_of (Tx : Tx K mg) : FnOk P w K mg base (L2.CX P w) 2 Tx.a__power_of Tx.d__power_of ["octet"]
    (SpF ⟨K, mg⟩ (fun p : Int × Unit => [D.int p.1]) (fun r : Int => .imm (D.int r)) (fun p => _power_of p.1)) := by
  refine fn_pure Tx.F__power_of sc__power_of (fun _ => rfl) fun cdv A outer s H E hr p => ?_
  obtain ⟨octet, _⟩ := p
  exact bk_cons (st_tupX rfl (daf_cons (df_of_dd dd_int) (daf_cons (df_of_dd dd_int) daf_nil)) (fun u_1 => (dgxs_cons (dgx_name 1 sc__power_of.nd) (dgxs_cons (dgx_name 2 sc__power_of.nd) dgxs_nil))) trivial) fun u_1 => bk_cons (Γ1 := fun s_2 : Int × Int => [.ow (.imm (D.int octet)), .ow (.imm (D.int s_2.1)), .ow (.imm (D.int s_2.2))]) (st_whileS (Γs := fun s_2 : Int × Int => [.ow (.imm (D.int octet)), .ow (.imm (D.int s_2.1)), .ow (.imm (D.int s_2.2))]) (u_1.1, u_1.2.1) (passes_of rfl) (fun s_2 => (dt_neI (dd_var (emb := D.int) 1 rfl) (dd_var (emb := D.int) 0 rfl))) (fun s_2 => bk_cons (st_set 1 (df_of_dd (dd_imm (df_call (ok_mul Tx) (hr.mono (by decide)) Tx.g_mul Tx.F_mul.kp Tx.b_mul (takes_of rfl rfl rfl rfl) (da_cons (dd_var (emb := D.int) 1 rfl) (da_cons dd_int da_nil))))) trivial rfl sc__power_of.nd) fun found_3 => bk_cons (st_aug aug_add 2 rfl dd_int trivial sc__power_of.nd) fun n_4 => bk_nil (o := (found_3, n_4)) rfl ⟨rfl, rfl, rfl, trivial⟩) ⟨rfl, rfl, rfl, trivial⟩ (fun _ => trivial)) fun s_5 => bk_ret (df_of_dd (dd_var (emb := D.int) 2 rfl)) (g := fun r => r) (fun _ => rfl) trivial trivial

theorem sc_power : FnScope ["a", "n", "product"] ["a", "n"] (defScope s_power) := ⟨rfl, rfl, rfl, by decide +kernel, rfl, by decide +kernel, by decide +kernel⟩
noncomputable def power (a_q : Int) (n_q : Int) : R Int :=
  (R.ok (1 : Int) >>= fun product_1 => (whileS (fun s_2 : Int × Int × Int => (R.ok s_2.2.1 >>= fun x => .ok (x != 0))) (fun s_2 : Int × Int × Int => ((((R.ok s_2.2.1 >>= fun x => R.ok (1 : Int) >>= fun y => .ok (Builtin.bitAnd x y)) >>= fun x => .ok (x != 0)) >>= fun x => if x then (((R.ok s_2.2.2 >>= fun x => (R.ok s_2.1 >>= fun x => R.ok () >>= fun y => .ok (x, y)) >>= fun y => .ok (x, y)) >>= fun p : Int × Int × Unit => (mul p.1 p.2.1)) >>= fun product_4 => R.ok product_4) else R.ok s_2.2.2) >>= fun j_3 : Int => (((R.ok s_2.1 >>= fun x => (R.ok s_2.1 >>= fun x => R.ok () >>= fun y => .ok (x, y)) >>= fun y => .ok (x, y)) >>= fun p : Int × Int × Unit => (mul p.1 p.2.1)) >>= fun a_5 => ((R.ok s_2.2.1 >>= fun x => .ok (x / 2 ^ (1 : Int).toNat)) >>= fun n_6 => R.ok (a_5, n_6, j_3))))) (a_q, n_q, product_1) >>= fun s_7 : Int × Int × Int => (R.ok s_7.2.2 >>= fun r => .ok (r))))
theorem ok_power (Tx : Tx K mg) : FnOk P w K mg base (L2.CX P w) 2 Tx.a_power Tx.d_power ["a", "n"]
    (SpF ⟨K, mg⟩ (fun p : Int × Int × Unit => [D.int p.1, D.int p.2.1]) (fun r : Int => .imm (D.int r)) (fun p => power p.1 p.2.1)) := by
  refine fn_pure Tx.F_power sc_power (fun _ => rfl) fun cdv A outer s H E hr p => ?_
  obtain ⟨a_q, n_q, _⟩ := p
  exact bk_cons (st_set 2 (df_of_dd dd_int) trivial rfl sc_power.nd) fun product_1 => bk_cons (Γ1 := fun s_2 : Int × Int × Int => [.ow (.imm (D.int s_2.1)), .ow (.imm (D.int s_2.2.1)), .ow (.imm (D.int s_2.2.2))]) (st_whileS (Γs := fun s_2 : Int × Int × Int => [.ow (.imm (D.int s_2.1)), .ow (.imm (D.int s_2.2.1)), .ow (.imm (D.int s_2.2.2))]) (a_q, n_q, product_1) (passes_of rfl) (fun s_2 => (dt_int (dd_var (emb := D.int) 1 rfl))) (fun s_2 => bk_cons (Γ1 := fun j_3 : Int => [.ow (.imm (D.int s_2.1)), .ow (.imm (D.int s_2.2.1)), .ow (.imm (D.int j_3))]) (st_if (dt_int (dd_and (dd_var (emb := D.int) 1 rfl) dd_int)) (bk_cons (st_set 2 (df_of_dd (dd_imm (df_call (ok_mul Tx) (hr.mono (by decide)) Tx.g_mul Tx.F_mul.kp Tx.b_mul (takes_of rfl rfl rfl rfl) (da_cons (dd_var (emb := D.int) 2 rfl) (da_cons (dd_var (emb := D.int) 0 rfl) da_nil))))) trivial rfl sc_power.nd) fun product_4 => bk_nil (o := product_4) rfl ⟨rfl, rfl, rfl, trivial⟩) (bk_nil (o := s_2.2.2) rfl ⟨rfl, rfl, rfl, trivial⟩) trivial) fun j_3 => bk_cons (st_set 0 (df_of_dd (dd_imm (df_call (ok_mul Tx) (hr.mono (by decide)) Tx.g_mul Tx.F_mul.kp Tx.b_mul (takes_of rfl rfl rfl rfl) (da_cons (dd_var (emb := D.int) 0 rfl) (da_cons (dd_var (emb := D.int) 0 rfl) da_nil))))) trivial rfl sc_power.nd) fun a_5 => bk_cons (st_set 1 (df_of_dd (dd_shrC (dd_var (emb := D.int) 1 rfl) dd_int (by decide))) trivial rfl sc_power.nd) fun n_6 => bk_nil (o := (a_5, n_6, j_3)) rfl ⟨rfl, rfl, rfl, trivial⟩) ⟨rfl, rfl, rfl, trivial⟩ (fun _ => trivial)) fun s_7 => bk_ret (df_of_dd (dd_var (emb := D.int) 2 rfl)) (g := fun r => r) (fun _ => rfl) trivial trivial

theorem sc_inv : FnScope ["a"] ["a"] (defScope s_inv) := ⟨rfl, rfl, rfl, by decide +kernel, rfl, by decide +kernel, by decide +kernel⟩
noncomputable def inv (a_q : Int) : R Int :=
  ((R.ok a_q >>= fun x => R.ok (0 : Int) >>= fun y => .ok (decide (x = y))) >>= fun x => if x then R.err ("ZeroElement" : Str) else (((R.ok a_q >>= fun x => (R.ok (254 : Int) >>= fun x => R.ok () >>= fun y => .ok (x, y)) >>= fun y => .ok (x, y)) >>= fun p : Int × Int × Unit => (power p.1 p.2.1)) >>= fun r => .ok (r)))
theorem ok_inv (Tx : Tx K mg) : FnOk P w K mg base (L2.CX P w) 3 Tx.a_inv Tx.d_inv ["a"]
    (SpF ⟨K, mg⟩ (fun p : Int × Unit => [D.int p.1]) (fun r : Int => .imm (D.int r)) (fun p => inv p.1)) := by
  refine fn_pure Tx.F_inv sc_inv (fun _ => rfl) fun cdv A outer s H E hr p => ?_
  obtain ⟨a_q, _⟩ := p
  exact bk_ifX (dt_eqI (dd_var (emb := D.int) 0 rfl) dd_int) (bk_raise Tx.x_ZeroElement rfl (takes_of rfl rfl rfl rfl) trivial) (bk_ret (df_of_dd (dd_imm (df_call (ok_power Tx) (hr.mono (by decide)) Tx.g_power Tx.F_power.kp Tx.b_power (takes_of rfl rfl rfl rfl) (da_cons (dd_var (emb := D.int) 0 rfl) (da_cons dd_int da_nil))))) (g := fun r => r) (fun _ => rfl) trivial trivial) trivial

theorem sc_div : FnScope ["a", "b"] ["a", "b"] (defScope s_div) := ⟨rfl, rfl, rfl, by decide +kernel, rfl, by decide +kernel, by decide +kernel⟩
noncomputable def div (a_q : Int) (b_q : Int) : R Int :=
  (((R.ok a_q >>= fun x => (((R.ok b_q >>= fun x => R.ok () >>= fun y => .ok (x, y)) >>= fun p : Int × Unit => (inv p.1)) >>= fun x => R.ok () >>= fun y => .ok (x, y)) >>= fun y => .ok (x, y)) >>= fun p : Int × Int × Unit => (mul p.1 p.2.1)) >>= fun r => .ok (r))
theorem ok_div (Tx : Tx K mg) : FnOk P w K mg base (L2.CX P w) 4 Tx.a_div Tx.d_div ["a", "b"]
    (SpF ⟨K, mg⟩ (fun p : Int × Int × Unit => [D.int p.1, D.int p.2.1]) (fun r : Int => .imm (D.int r)) (fun p => div p.1 p.2.1)) := by
  refine fn_pure Tx.F_div sc_div (fun _ => rfl) fun cdv A outer s H E hr p => ?_
  obtain ⟨a_q, b_q, _⟩ := p
  exact bk_ret (df_of_dd (dd_imm (df_call (ok_mul Tx) (hr.mono (by decide)) Tx.g_mul Tx.F_mul.kp Tx.b_mul (takes_of rfl rfl rfl rfl) (da_cons (dd_var (emb := D.int) 0 rfl) (da_cons (dd_imm (df_call (ok_inv Tx) (hr.mono (by decide)) Tx.g_inv Tx.F_inv.kp Tx.b_inv (takes_of rfl rfl rfl rfl) (da_cons (dd_var (emb := D.int) 1 rfl) da_nil))) da_nil))))) (g := fun r => r) (fun _ => rfl) trivial trivial

theorem sc_mended : FnScope ["octets", "place", "found", "first", "second", "third", "fourth"] ["octets"] (defScope s_mended) := ⟨rfl, rfl, rfl, by decide +kernel, rfl, by decide +kernel, by decide +kernel⟩
noncomputable def mended (octets : (List Int)) : R (Option (List Int)) :=
  (((R.ok (4 : Int) >>= fun x => (R.ok octets >>= fun xs => .ok (xs.length : Int)) >>= fun y => if (fun x y : Int => decide (x ≤ y)) x y then R.ok (255 : Int) >>= fun z => .ok ((fun x y : Int => decide (x ≤ y)) y z) else .ok false) >>= fun x => .ok !x) >>= fun x => if x then ((R.ok () >>= fun x => .ok ((fun _ : Unit => (none : (Option (List Int)))) x)) >>= fun r => .ok (r)) else ((((R.ok octets >>= fun x => R.ok () >>= fun y => .ok (x, y)) >>= fun p : (List Int) × Unit => (_values p.1)) >>= fun xs => ofO (unp4 xs)) >>= fun u_1 => ((((R.ok u_1.1 >>= fun x => (R.ok u_1.2.1 >>= fun x => (R.ok u_1.2.2.1 >>= fun x => (R.ok u_1.2.2.2 >>= fun x => R.ok () >>= fun y => .ok (x, y)) >>= fun y => .ok (x, y)) >>= fun y => .ok (x, y)) >>= fun y => .ok (x, y)) >>= fun p => .ok ((fun p : Int × Int × Int × Int × Unit => ([p.1, p.2.1, p.2.2.1, p.2.2.2.1] : List Int)) p)) >>= fun x => (((R.ok (0 : Int) >>= fun x => R.ok () >>= fun y => .ok (x, y)) >>= fun p => .ok ((fun p : Int × Unit => ([p.1] : List Int)) p)) >>= fun xs => R.ok (4 : Int) >>= fun k => ofO (repO xs k)) >>= fun y => ofO ((eqO (D.lst ((x).map D.int)) (D.lst ((y).map D.int))).map (false != ·))) >>= fun x => if x then ((R.ok octets >>= fun x => .ok (some x)) >>= fun r => .ok (r)) else (((R.ok u_1.1 >>= fun x => R.ok (0 : Int) >>= fun y => .ok (decide (x = y))) >>= fun x => if x then .ok true else (R.ok u_1.2.1 >>= fun x => R.ok (0 : Int) >>= fun y => .ok (decide (x = y)))) >>= fun x => if x then ((R.ok () >>= fun x => .ok ((fun _ : Unit => (none : (Option (List Int)))) x)) >>= fun r => .ok (r)) else (((((R.ok u_1.2.1 >>= fun x => (R.ok u_1.1 >>= fun x => R.ok () >>= fun y => .ok (x, y)) >>= fun y => .ok (x, y)) >>= fun p : Int × Int × Unit => (div p.1 p.2.1)) >>= fun x => R.ok () >>= fun y => .ok (x, y)) >>= fun p : Int × Unit => (_power_of p.1)) >>= fun place_2 => ((R.ok place_2 >>= fun x => (R.ok octets >>= fun xs => .ok (xs.length : Int)) >>= fun y => .ok (decide (y ≤ x))) >>= fun x => if x then ((R.ok () >>= fun x => .ok ((fun _ : Unit => (none : (Option (List Int)))) x)) >>= fun r => .ok (r)) else (((R.ok u_1.2.2.1 >>= fun x => ((R.ok u_1.1 >>= fun x => (((R.ok (4 : Int) >>= fun x => (R.ok place_2 >>= fun x => R.ok () >>= fun y => .ok (x, y)) >>= fun y => .ok (x, y)) >>= fun p : Int × Int × Unit => (power p.1 p.2.1)) >>= fun x => R.ok () >>= fun y => .ok (x, y)) >>= fun y => .ok (x, y)) >>= fun p : Int × Int × Unit => (mul p.1 p.2.1)) >>= fun y => .ok (!decide (x = y))) >>= fun x => if x then .ok true else (R.ok u_1.2.2.2 >>= fun x => ((R.ok u_1.1 >>= fun x => (((R.ok (8 : Int) >>= fun x => (R.ok place_2 >>= fun x => R.ok () >>= fun y => .ok (x, y)) >>= fun y => .ok (x, y)) >>= fun p : Int × Int × Unit => (power p.1 p.2.1)) >>= fun x => R.ok () >>= fun y => .ok (x, y)) >>= fun y => .ok (x, y)) >>= fun p : Int × Int × Unit => (mul p.1 p.2.1)) >>= fun y => .ok (!decide (x = y)))) >>= fun x => if x then ((R.ok () >>= fun x => .ok ((fun _ : Unit => (none : (Option (List Int)))) x)) >>= fun r => .ok (r)) else (R.ok octets >>= fun found_3 => ((R.ok () >>= fun _ => (((R.ok octets >>= fun xs => .ok (xs.length : Int)) >>= fun x => R.ok (1 : Int) >>= fun y => .ok (x - y)) >>= fun x => R.ok place_2 >>= fun y => .ok (x - y)) >>= fun j => ofO (atI found_3 j) >>= fun y => R.ok u_1.1 >>= fun z => ofO ((fun x y => some (Builtin.bitXor x y)) y z) >>= fun y => ofO (setO found_3 j y) >>= fun ys => .ok ys) >>= fun found_4 => R.ok ((some found_4)))))))))))
theorem ok_mended (Tx : Tx K mg) : FnOk P w K mg base (L2.CX P w) 5 Tx.a_mended Tx.d_mended ["octets"]
    (SpF ⟨K, mg⟩ (fun p : (List Int) × Unit => [D.lst ((p.1).map D.int)]) (fun r : (Option (List Int)) => eOptT (fun xs : (List Int) => T.lst (xs.map fun x => T.imm (D.int x))) (r)) (fun p => mended p.1)) := by
  refine fn_pure Tx.F_mended sc_mended (fun _ => rfl) fun cdv A outer s H E hr p => ?_
  obtain ⟨octets, _⟩ := p
  exact bk_ifX (dt_not (dt_chain (f := (fun x y : Int => decide (x ≤ y))) (g := (fun x y : Int => decide (x ≤ y))) op_le op_le (dd_gint Tx.c_CHECKS) (dd_lenL (ei := D.int) (dl_imm (ei := D.int) (dd_var (emb := (fun xs : (List Int) => D.lst (xs.map D.int))) 0 rfl)) Tx.b_len) (dd_gint Tx.c_LONGEST))) (bk_ret (df_co (df_of_dd dd_non) (fun _ : Unit => (none : (Option (List Int))))) (g := fun r => r) (fun _ => rfl) trivial trivial) (bk_cons (st_asg (dd_unp4L (ei := D.int) (dd_list (ε := D.int) (df_call (ok__values Tx) (hr.mono (by decide)) Tx.g__values Tx.F__values.kp Tx.b__values (takes_of rfl rfl rfl rfl) (da_cons (ea := (fun xs : (List Int) => D.lst (xs.map D.int))) (dd_var (emb := (fun xs : (List Int) => D.lst (xs.map D.int))) 0 rfl) da_nil)))) (fun u_1 => dg_unl rfl (dgs_cons (dg_name 3 sc_mended.nd) (dgs_cons (dg_name 4 sc_mended.nd) (dgs_cons (dg_name 5 sc_mended.nd) (dgs_cons (dg_name 6 sc_mended.nd) dgs_nil))))) trivial) fun u_1 => bk_ifX (dt_eq (ea := (fun xs : (List Int) => D.lst (xs.map D.int))) (eb := (fun xs : (List Int) => D.lst (xs.map D.int))) hr.units (de_dl (ei := D.int) (dl_own (ei := D.int) (db_of_df (df_disp (ei := D.int) (da_cons (dd_var (emb := D.int) 3 rfl) (da_cons (dd_var (emb := D.int) 4 rfl) (da_cons (dd_var (emb := D.int) 5 rfl) (da_cons (dd_var (emb := D.int) 6 rfl) da_nil)))) (fun p : Int × Int × Int × Int × Unit => ([p.1, p.2.1, p.2.2.1, p.2.2.2.1] : List Int)))))) (de_dl (ei := D.int) (dl_own (ei := D.int) (db_of_df (df_rep (ei := D.int) (dlt_own (ei := D.int) (db_of_df (df_disp (ei := D.int) (da_cons dd_int da_nil) (fun p : Int × Unit => ([p.1] : List Int))))) (dd_gint Tx.c_CHECKS)))))) (bk_ret (df_co (df_listL (ei := D.int) (dl_imm (ei := D.int) (dd_var (emb := (fun xs : (List Int) => D.lst (xs.map D.int))) 0 rfl)) Tx.b_list) (fun x : (List Int) => some x)) (g := fun r => r) (fun _ => rfl) trivial trivial) (bk_ifX (dt_dw (dw_or (dt_eqI (dd_var (emb := D.int) 3 rfl) dd_int) (dw_one (dt_eqI (dd_var (emb := D.int) 4 rfl) dd_int) (by first | exact .inl rfl | exact .inr rfl)))) (bk_ret (df_co (df_of_dd dd_non) (fun _ : Unit => (none : (Option (List Int))))) (g := fun r => r) (fun _ => rfl) trivial trivial) (bk_cons (st_set 1 (df_of_dd (dd_imm (df_call (ok__power_of Tx) (hr.mono (by decide)) Tx.g__power_of Tx.F__power_of.kp Tx.b__power_of (takes_of rfl rfl rfl rfl) (da_cons (dd_imm (df_call (ok_div Tx) (hr.mono (by decide)) Tx.g_div Tx.F_div.kp Tx.b_div (takes_of rfl rfl rfl rfl) (da_cons (dd_var (emb := D.int) 4 rfl) (da_cons (dd_var (emb := D.int) 3 rfl) da_nil)))) da_nil)))) trivial rfl sc_mended.nd) fun place_2 => bk_ifX (dt_ge (dd_var (emb := D.int) 1 rfl) (dd_lenL (ei := D.int) (dl_imm (ei := D.int) (dd_var (emb := (fun xs : (List Int) => D.lst (xs.map D.int))) 0 rfl)) Tx.b_len)) (bk_ret (df_co (df_of_dd dd_non) (fun _ : Unit => (none : (Option (List Int))))) (g := fun r => r) (fun _ => rfl) trivial trivial) (bk_ifX (dt_dw (dw_or (dt_neI (dd_var (emb := D.int) 5 rfl) (dd_imm (df_call (ok_mul Tx) (hr.mono (by decide)) Tx.g_mul Tx.F_mul.kp Tx.b_mul (takes_of rfl rfl rfl rfl) (da_cons (dd_var (emb := D.int) 3 rfl) (da_cons (dd_imm (df_call (ok_power Tx) (hr.mono (by decide)) Tx.g_power Tx.F_power.kp Tx.b_power (takes_of rfl rfl rfl rfl) (da_cons dd_int (da_cons (dd_var (emb := D.int) 1 rfl) da_nil)))) da_nil))))) (dw_one (dt_neI (dd_var (emb := D.int) 6 rfl) (dd_imm (df_call (ok_mul Tx) (hr.mono (by decide)) Tx.g_mul Tx.F_mul.kp Tx.b_mul (takes_of rfl rfl rfl rfl) (da_cons (dd_var (emb := D.int) 3 rfl) (da_cons (dd_imm (df_call (ok_power Tx) (hr.mono (by decide)) Tx.g_power Tx.F_power.kp Tx.b_power (takes_of rfl rfl rfl rfl) (da_cons dd_int (da_cons (dd_var (emb := D.int) 1 rfl) da_nil)))) da_nil))))) (by first | exact .inl rfl | exact .inr rfl)))) (bk_ret (df_co (df_of_dd dd_non) (fun _ : Unit => (none : (Option (List Int))))) (g := fun r => r) (fun _ => rfl) trivial trivial) (bk_cons (st_set 2 (df_listL (ei := D.int) (dl_imm (ei := D.int) (dd_var (emb := (fun xs : (List Int) => D.lst (xs.map D.int))) 0 rfl)) Tx.b_list) trivial rfl sc_mended.nd) fun found_3 => bk_cons (st_augix aug_xor (dp_var (ea := (fun xs : (List Int) => T.lst (xs.map fun x => T.imm (D.int x)))) (x0 := found_3) 2 rfl rfl) rfl rfl (dd_sub (dd_sub (dd_lenL (ei := D.int) (dl_imm (ei := D.int) (dd_var (emb := (fun xs : (List Int) => D.lst (xs.map D.int))) 0 rfl)) Tx.b_len) dd_int) (dd_var (emb := D.int) 1 rfl)) (dd_var (emb := D.int) 3 rfl) trivial) fun found_4 => bk_retV (o := (some found_4)) 2 rfl rfl trivial) trivial) trivial) trivial) trivial) trivial

theorem sc_Sieve___look : FnScope ["self", "octets", "right"] ["self"] (defScope s_Sieve___look) := ⟨rfl, rfl, rfl, by decide +kernel, rfl, by decide +kernel, by decide +kernel⟩
noncomputable def Sieve___look_b (self : OSieve) : R ((Option (List Int)) × OSieve) :=
  (((R.ok self >>= fun y => .ok ((fun y : OSieve => y.2.1) y)) >>= fun x => R.ok (510 : Int) >>= fun y => .ok (decide (y < x))) >>= fun x => if x then ((R.ok () >>= fun x => .ok ((fun _ : Unit => (none : (Option (List Int)))) x)) >>= fun r => .ok ((r, self))) else ((((R.ok self >>= fun y => .ok ((fun y : OSieve => y.1) y)) >>= fun x => R.ok () >>= fun y => .ok (x, y)) >>= fun p : (List Int) × Unit => (_unwritten p.1)) >>= fun octets_1 => (optK octets_1 ((R.ok () >>= fun x => .ok ((fun _ : Unit => (none : (Option (List Int)))) x)) >>= fun r => .ok ((r, self))) (fun octets_2 => ((R.ok (4 : Int) >>= fun x => (R.ok octets_2 >>= fun xs => .ok (xs.length : Int)) >>= fun y => if (fun x y : Int => decide (x < y)) x y then R.ok (255 : Int) >>= fun z => .ok ((fun x y : Int => decide (x ≤ y)) y z) else .ok false) >>= fun x => .ok !x) >>= fun c => if c then ((R.ok () >>= fun x => .ok ((fun _ : Unit => (none : (Option (List Int)))) x)) >>= fun r => .ok ((r, self))) else (((R.ok octets_2 >>= fun x => R.ok () >>= fun y => .ok (x, y)) >>= fun p : (List Int) × Unit => (mended p.1)) >>= fun right_4 => (optK right_4 ((R.ok () >>= fun x => .ok ((fun _ : Unit => (none : (Option (List Int)))) x)) >>= fun r => .ok ((r, self))) (fun right_5 => ((R.ok () >>= fun _ => R.ok (0 : Int) >>= fun j => ofO (atI self.2.2 j) >>= fun y => R.ok (1 : Int) >>= fun z => ofO ((fun x y => some (x + y)) y z) >>= fun y => ofO (setO self.2.2 j y) >>= fun ys => .ok ((self.1, self.2.1, ys) : OSieve)) >>= fun self_6 => ((R.ok () >>= fun _ => R.ok (1 : Int) >>= fun j => ofO (atI self_6.2.2 j) >>= fun y => ((R.ok right_5 >>= fun x => R.ok octets_2 >>= fun y => ofO ((eqO (D.lst ((x).map D.int)) (D.lst ((y).map D.int))).map (false != ·))) >>= fun x => if x then R.ok (0 : Int) else R.ok (1 : Int)) >>= fun z => ofO ((fun x y => some (x + y)) y z) >>= fun y => ofO (setO self_6.2.2 j y) >>= fun ys => .ok ((self_6.1, self_6.2.1, ys) : OSieve)) >>= fun self_7 => (((R.ok right_5 >>= fun xs => R.ok none >>= fun i => ((R.ok (4 : Int) >>= fun x => .ok (-x)) >>= fun i => .ok (some i)) >>= fun j => .ok (cutL xs i j)) >>= fun x => .ok (some x)) >>= fun r => .ok ((r, self_7))))))))))))
noncomputable def Sieve___look (self : OSieve) : R ((Option (List Int)) × OSieve) := noErr (Sieve___look_b self)
theorem ok_Sieve___look (Tx : Tx K mg) : FnOk P w K mg base (L2.CX P w) 6 Tx.a_Sieve___look Tx.d_Sieve___look ["self"]
    (SpG ⟨K, mg⟩ (fun p : OSieve × Unit => [.tr (eSieve p.1)]) (fun r : ((Option (List Int)) × OSieve) => eOptT (fun xs : (List Int) => T.lst (xs.map fun x => T.imm (D.int x))) (r.1)) (fun r : ((Option (List Int)) × OSieve) => [eSieve r.2]) (fun p => Sieve___look p.1)) := by
  refine fn_genN (fun (p : OSieve × Unit) vs (r : ((Option (List Int)) × OSieve)) => { rt := some ((fun r : ((Option (List Int)) × OSieve) => eOptT (fun xs : (List Int) => T.lst (xs.map fun x => T.imm (D.int x))) (r.1)) r, slotsR [.tr (eSieve p.1)] vs ((fun r : ((Option (List Int)) × OSieve) => [eSieve r.2]) r) ++ List.replicate 2 .un) }) Tx.F_Sieve___look sc_Sieve___look (fun _ => rfl) (fun cdv A outer s H E hr p vs hv => ?_) (fun p vs r => ⟨.inl rfl, .inr rfl, rfl, rfl⟩)
  obtain ⟨self, _⟩ := p
  match vs, hv with
  | [v0], _ =>
  exact bk_ifX (dt_gt (dd_db (emb := D.int) (db_fld (ec := (fun x : Int => T.imm (D.int x))) 1 (fun y : OSieve => y.2.1) (db_see (emb := eSieve) (x := self) 0 rfl rfl) ⟨Tx.gc_Sieve, Tx.cl_Sieve⟩ Tx.na_Sieve__count)) (dd_gint Tx.c_MOST_HELD)) (bk_ret (Γr := [.pn v0 (eSieve self), .un, .un]) (df_co (emb' := (eOptT (fun xs : (List Int) => T.lst (xs.map fun x => T.imm (D.int x))))) (df_of_dd dd_non) (fun _ : Unit => (none : (Option (List Int))))) (g := fun r => (r, self)) (fun _ => rfl) ⟨rfl, rfl, trivial⟩ trivial) (bk_cons (st_set 1 (df_callL (ok__unwritten Tx) (hr.mono (by decide)) Tx.g__unwritten Tx.F__unwritten.kp Tx.b__unwritten (takes_of rfl rfl rfl rfl) (dal_db (db_fld (ec := (fun xs : (List Int) => T.lst (xs.map fun x => T.imm (D.int x)))) 0 (fun y : OSieve => y.1) (db_see (emb := eSieve) (x := self) 0 rfl rfl) ⟨Tx.gc_Sieve, Tx.cl_Sieve⟩ Tx.na_Sieve__octets) dal_nil)) trivial rfl sc_Sieve___look.nd) fun octets_1 => bk_ifNoneOrX (emb := (fun xs : (List Int) => T.lst (xs.map fun x => T.imm (D.int x)))) (x := octets_1) 1 rfl rfl notN_lst (bk_ret (Γr := [.pn v0 (eSieve self), .un, .un]) (df_co (emb' := (eOptT (fun xs : (List Int) => T.lst (xs.map fun x => T.imm (D.int x))))) (df_of_dd dd_non) (fun _ : Unit => (none : (Option (List Int))))) (g := fun r => (r, self)) (fun _ => rfl) ⟨rfl, rfl, trivial⟩ trivial) (fun octets_2 => [.pn v0 (eSieve self), .ow (.lst ((octets_2).map fun x => .imm (D.int x))), .un]) (fun octets_2 => (dw_one (dt_not (dt_chain (f := (fun x y : Int => decide (x < y))) (g := (fun x y : Int => decide (x ≤ y))) op_lt op_le (dd_gint Tx.c_CHECKS) (dd_lenL (ei := D.int) (dl_own (ei := D.int) (db_var (emb := (fun xs : (List Int) => T.lst (xs.map fun x => T.imm (D.int x)))) 1 rfl)) Tx.b_len) (dd_gint Tx.c_LONGEST))) (by first | exact .inl rfl | exact .inr rfl))) (fun octets_2 => bk_freezeL (ei := D.int) 1 rfl (bk_cons (st_set 2 (df_call (ok_mended Tx) (hr.mono (by decide)) Tx.g_mended Tx.F_mended.kp Tx.b_mended (takes_of rfl rfl rfl rfl) (da_cons (ea := (fun xs : (List Int) => D.lst (xs.map D.int))) (dd_var (emb := (fun xs : (List Int) => D.lst (xs.map D.int))) 1 rfl) da_nil)) trivial rfl sc_Sieve___look.nd) fun right_4 => bk_ifNoneX (emb := (fun xs : (List Int) => T.lst (xs.map fun x => T.imm (D.int x)))) (x := right_4) 2 rfl rfl notN_lst (bk_ret (Γr := [.pn v0 (eSieve self), .un, .un]) (df_co (emb' := (eOptT (fun xs : (List Int) => T.lst (xs.map fun x => T.imm (D.int x))))) (df_of_dd dd_non) (fun _ : Unit => (none : (Option (List Int))))) (g := fun r => (r, self)) (fun _ => rfl) ⟨rfl, rfl, trivial⟩ trivial) (fun right_5 => [.pn v0 (eSieve self), .ow (.imm (D.lst ((octets_2).map D.int))), .ow (.lst ((right_5).map fun x => .imm (D.int x)))]) (fun right_5 => bk_cons (st_augix aug_add (dp_fld (ec := (fun xs : (List Int) => T.lst (xs.map fun x => T.imm (D.int x)))) 2 (fun y : OSieve => y.2.2) (fun (y : OSieve) z => (y.1, y.2.1, z)) (dp_var (ea := eSieve) (x0 := self) 0 rfl rfl) rfl rfl ⟨Tx.gc_Sieve, Tx.cl_Sieve⟩ Tx.na_Sieve__told) rfl rfl dd_int dd_int trivial) fun self_6 => bk_cons (st_augix aug_add (dp_fld (ec := (fun xs : (List Int) => T.lst (xs.map fun x => T.imm (D.int x)))) 2 (fun y : OSieve => y.2.2) (fun (y : OSieve) z => (y.1, y.2.1, z)) (dp_var (ea := eSieve) (x0 := self_6) 0 rfl rfl) rfl rfl ⟨Tx.gc_Sieve, Tx.cl_Sieve⟩ Tx.na_Sieve__told) rfl rfl dd_int (dd_if (dt_eq (ea := (fun xs : (List Int) => D.lst (xs.map D.int))) (eb := (fun xs : (List Int) => D.lst (xs.map D.int))) hr.units (de_dl (ei := D.int) (dl_own (ei := D.int) (db_var (emb := (fun xs : (List Int) => T.lst (xs.map fun x => T.imm (D.int x)))) 2 rfl))) (de_dl (ei := D.int) (dl_imm (ei := D.int) (dd_var (emb := (fun xs : (List Int) => D.lst (xs.map D.int))) 1 rfl)))) dd_int dd_int) trivial) fun self_7 => bk_ret (Γr := [.pn v0 (eSieve self_7), .un, .un]) (df_co (emb' := (eOptT (fun xs : (List Int) => T.lst (xs.map fun x => T.imm (D.int x))))) (df_slL (ei := D.int) (dl_own (ei := D.int) (db_var (emb := (fun xs : (List Int) => T.lst (xs.map fun x => T.imm (D.int x)))) 2 rfl)) do_none (do_some (dd_neg (dd_gint Tx.c_CHECKS)))) (fun x : (List Int) => some x)) (g := fun r => (r, self_7)) (fun _ => rfl) ⟨rfl, rfl, trivial⟩ trivial) (by intro _ h; rw [h]; rfl) trivial)) (by intro _ h; rw [h]; rfl) trivial) trivial

theorem sc_Sieve__take : FnScope ["self", "octets", "found", "octet", "packet"] ["self", "octets"] (defScope s_Sieve__take) := ⟨rfl, rfl, rfl, by decide +kernel, rfl, by decide +kernel, by decide +kernel⟩
noncomputable def Sieve__take_b (self : OSieve) (octets : (List Int)) : R ((List (List Int)) × OSieve) :=
  ((R.ok () >>= fun p => .ok ((fun p : Unit => ([] : List (List Int))) p)) >>= fun found_1 => ((R.ok octets >>= fun xs => forS (fun (x_3 : Int) (s_2 : OSieve × (List (List Int))) => ((R.ok x_3 >>= fun x => R.ok (126 : Int) >>= fun y => .ok (!decide (x = y))) >>= fun x => if x then ((R.ok () >>= fun _ => R.ok (1 : Int) >>= fun z => ofO (some (s_2.1.2.1 + z)) >>= fun y => .ok ((s_2.1.1, y, s_2.1.2.2) : OSieve)) >>= fun self_4 => ((((R.ok self_4 >>= fun y => .ok ((fun y : OSieve => y.2.1) y)) >>= fun x => R.ok (510 : Int) >>= fun y => .ok (decide (x ≤ y))) >>= fun x => if x then ((R.ok () >>= fun _ => R.ok x_3 >>= fun z => ofO (appO self_4.1 z) >>= fun ys => .ok ((ys, self_4.2.1, self_4.2.2) : OSieve)) >>= fun self_6 => R.ok self_6) else (((R.ok () >>= fun p => .ok ((fun p : Unit => ([] : List Int)) p)) >>= fun z => R.ok () >>= fun _ => .ok (z, ((z, self_4.2.1, self_4.2.2) : OSieve))) >>= fun self_7 => R.ok self_7.2)) >>= fun j_5 : OSieve => R.ok (j_5, s_2.2))) else ((((R.ok s_2.1 >>= fun y => .ok ((fun y : OSieve => y.2.1) y)) >>= fun x => R.ok (0 : Int) >>= fun y => .ok (decide (y < x))) >>= fun x => if x then ((R.ok () >>= fun k => (Sieve___look s_2.1) >>= fun r => .ok (k, r)) >>= fun packet_9 => ((optK packet_9.2.1 ((R.ok () >>= fun _ => R.ok (2 : Int) >>= fun j => ofO (atI packet_9.2.2.2.2 j) >>= fun y => R.ok (1 : Int) >>= fun z => ofO ((fun x y => some (x + y)) y z) >>= fun y => ofO (setO packet_9.2.2.2.2 j y) >>= fun ys => .ok ((packet_9.2.2.1, packet_9.2.2.2.1, ys) : OSieve)) >>= fun self_13 => R.ok (self_13, s_2.2)) (fun packet_11 => ((R.ok packet_11 >>= fun x => ofO (appO s_2.2 x)) >>= fun found_15 => R.ok (packet_9.2.2, found_15)))) >>= fun j_12 : OSieve × (List (List Int)) => R.ok (j_12.1, j_12.2))) else R.ok (s_2.1, s_2.2)) >>= fun j_8 : OSieve × (List (List Int)) => (((R.ok () >>= fun p => .ok ((fun p : Unit => ([] : List Int)) p)) >>= fun x => (R.ok (0 : Int) >>= fun x => R.ok () >>= fun y => .ok (x, y)) >>= fun y => .ok (x, y)) >>= fun u_16 => R.ok ((u_16.1, u_16.2.1, j_8.1.2.2), j_8.2))))) xs (self, found_1)) >>= fun s_17 : OSieve × (List (List Int)) => R.ok ((s_17.2, s_17.1))))
noncomputable def Sieve__take (self : OSieve) (octets : (List Int)) : R ((List (List Int)) × OSieve) := noErr (Sieve__take_b self octets)
theorem ok_Sieve__take (Tx : Tx K mg) : FnOk P w K mg base (L2.CX P w) 7 Tx.a_Sieve__take Tx.d_Sieve__take ["self", "octets"]
    (SpG ⟨K, mg⟩ (fun p : OSieve × (List Int) × Unit => [.tr (eSieve p.1), .dt (D.lst ((p.2.1).map D.int))]) (fun r : ((List (List Int)) × OSieve) => .lst ((r.1).map fun x => .imm ((fun xs : (List Int) => D.lst (xs.map D.int)) x))) (fun r : ((List (List Int)) × OSieve) => [eSieve r.2]) (fun p => Sieve__take p.1 p.2.1)) := by
  refine fn_genN (fun (p : OSieve × (List Int) × Unit) vs (r : ((List (List Int)) × OSieve)) => { rt := some ((fun r : ((List (List Int)) × OSieve) => .lst ((r.1).map fun x => .imm ((fun xs : (List Int) => D.lst (xs.map D.int)) x))) r, slotsR [.tr (eSieve p.1), .dt (D.lst ((p.2.1).map D.int))] vs ((fun r : ((List (List Int)) × OSieve) => [eSieve r.2]) r) ++ List.replicate 3 .un) }) Tx.F_Sieve__take sc_Sieve__take (fun _ => rfl) (fun cdv A outer s H E hr p vs hv => ?_) (fun p vs r => ⟨.inl rfl, .inr rfl, rfl, rfl⟩)
  obtain ⟨self, octets, _⟩ := p
  match vs, hv with
  | [v0, v1], _ =>
  exact bk_cons (st_set 2 (df_disp (ei := (fun xs : (List Int) => D.lst (xs.map D.int))) da_nil (fun p : Unit => ([] : List (List Int)))) trivial rfl sc_Sieve__take.nd) fun found_1 => bk_cons (Γ1 := fun s_2 : OSieve × (List (List Int)) => [.pn v0 (eSieve s_2.1), .ow (.imm (D.lst ((octets).map D.int))), .ow (.lst ((s_2.2).map fun x => .imm ((fun xs : (List Int) => D.lst (xs.map D.int)) x))), .un, .un]) (st_forS (Γs := fun s_2 : OSieve × (List (List Int)) => [.pn v0 (eSieve s_2.1), .ow (.imm (D.lst ((octets).map D.int))), .ow (.lst ((s_2.2).map fun x => .imm ((fun xs : (List Int) => D.lst (xs.map D.int)) x))), .un, .un]) (ei := D.int) (self, found_1) (passes_of rfl) rfl (di_list (ei := D.int) (dd_var (emb := (fun xs : (List Int) => D.lst (xs.map D.int))) 1 rfl)) (fun s_2 x_3 => (dg_name 3 sc_Sieve__take.nd)) (fun s_2 x_3 => bk_ifX (dt_neI (dd_var (emb := D.int) 3 rfl) (dd_gint Tx.c_END)) (bk_cons (st_fldaug 1 (fun y : OSieve => y.2.1) (fun (y : OSieve) z => (y.1, z, y.2.2)) iop_add (iop_i (f := fun x y => x + y)) (dp_var (ea := eSieve) (x0 := s_2.1) 0 rfl rfl) rfl rfl dd_int ⟨Tx.gc_Sieve, Tx.cl_Sieve⟩ Tx.na_Sieve__count trivial) fun self_4 => bk_cons (Γ1 := fun j_5 : OSieve => [.pn v0 (eSieve j_5), .ow (.imm (D.lst ((octets).map D.int))), .ow (.lst ((s_2.2).map fun x => .imm ((fun xs : (List Int) => D.lst (xs.map D.int)) x))), .ow (.imm (D.int x_3)), .un]) (st_if (dt_le (dd_db (emb := D.int) (db_fld (ec := (fun x : Int => T.imm (D.int x))) 1 (fun y : OSieve => y.2.1) (db_see (emb := eSieve) (x := self_4) 0 rfl rfl) ⟨Tx.gc_Sieve, Tx.cl_Sieve⟩ Tx.na_Sieve__count)) (dd_gint Tx.c_MOST_HELD)) (bk_cons (st_appendP (dp_fld (ec := (fun xs : (List Int) => T.lst (xs.map fun x => T.imm (D.int x)))) 0 (fun y : OSieve => y.1) (fun (y : OSieve) z => (z, y.2.1, y.2.2)) (dp_var (ea := eSieve) (x0 := self_4) 0 rfl rfl) rfl rfl ⟨Tx.gc_Sieve, Tx.cl_Sieve⟩ Tx.na_Sieve__octets) rfl rfl (df_of_dd (dd_var (emb := D.int) 3 rfl)) trivial) fun self_6 => bk_nil (o := self_6) rfl ⟨rfl, rfl, rfl, rfl, rfl, trivial⟩) (bk_cons (st_fldX 0 (fun z (y : OSieve) => (z, y.2.1, y.2.2)) (dx_df (df_disp (ei := D.int) da_nil (fun p : Unit => ([] : List Int)))) (fun _ => dp_var (ea := eSieve) (x0 := self_4) 0 rfl rfl) (fun _ => rfl) (fun _ => rfl) ⟨Tx.gc_Sieve, Tx.cl_Sieve⟩ Tx.na_Sieve__octets trivial (fun _ => trivial)) fun self_7 => bk_nil (o := self_7.2) rfl ⟨rfl, rfl, rfl, rfl, rfl, trivial⟩) trivial) fun j_5 => bk_cont (o := (j_5, s_2.2)) rfl ⟨rfl, rfl, rfl, rfl, trivial⟩) (bk_cons (Γ1 := fun j_8 : OSieve × (List (List Int)) => [.pn v0 (eSieve j_8.1), .ow (.imm (D.lst ((octets).map D.int))), .ow (.lst ((j_8.2).map fun x => .imm ((fun xs : (List Int) => D.lst (xs.map D.int)) x))), .ow (.imm (D.int x_3)), .un]) (st_if (dt_gt (dd_db (emb := D.int) (db_fld (ec := (fun x : Int => T.imm (D.int x))) 1 (fun y : OSieve => y.2.1) (db_see (emb := eSieve) (x := s_2.1) 0 rfl rfl) ⟨Tx.gc_Sieve, Tx.cl_Sieve⟩ Tx.na_Sieve__count)) dd_int) (bk_cons (st_setX 4 (dx_methG0 (g := fun p : OSieve × Unit => Sieve___look p.1) (fun _ => (s_2.1, ())) (fun r : Unit × ((Option (List Int)) × OSieve) => [.pn v0 (eSieve r.2.2), .ow (.imm (D.lst ((octets).map D.int))), .ow (.lst ((s_2.2).map fun x => .imm ((fun xs : (List Int) => D.lst (xs.map D.int)) x))), .ow (.imm (D.int x_3)), .un]) (ok_Sieve___look Tx) (hr.mono (by decide)) ⟨Tx.gc_Sieve, Tx.cl_Sieve⟩ Tx.h_Sieve___look Tx.b_Sieve___look (takes_of rfl rfl rfl rfl) (dp_var (ea := eSieve) (x0 := s_2.1) 0 rfl rfl) rfl rfl (fun _ => rfl) (fun _ _ _ => rfl) (fun _ => rfl) (by decide) _) trivial (fun _ => rfl) sc_Sieve__take.nd) fun packet_9 => bk_as [.pn v0 (eSieve packet_9.2.2), .ow (.imm (D.lst ((octets).map D.int))), .ow (.lst ((s_2.2).map fun x => .imm ((fun xs : (List Int) => D.lst (xs.map D.int)) x))), .ow (.imm (D.int x_3)), .ow (eOptT (fun xs : (List Int) => T.lst (xs.map fun x => T.imm (D.int x))) (packet_9.2.1))] rfl (bk_cons (Γ1 := fun j_12 : OSieve × (List (List Int)) => [.pn v0 (eSieve j_12.1), .ow (.imm (D.lst ((octets).map D.int))), .ow (.lst ((j_12.2).map fun x => .imm ((fun xs : (List Int) => D.lst (xs.map D.int)) x))), .ow (.imm (D.int x_3)), .un]) (st_ifNone (emb := (fun xs : (List Int) => T.lst (xs.map fun x => T.imm (D.int x)))) (x := packet_9.2.1) 4 rfl rfl notN_lst (bk_cons (st_augix aug_add (dp_fld (ec := (fun xs : (List Int) => T.lst (xs.map fun x => T.imm (D.int x)))) 2 (fun y : OSieve => y.2.2) (fun (y : OSieve) z => (y.1, y.2.1, z)) (dp_var (ea := eSieve) (x0 := packet_9.2.2) 0 rfl rfl) rfl rfl ⟨Tx.gc_Sieve, Tx.cl_Sieve⟩ Tx.na_Sieve__told) rfl rfl dd_int dd_int trivial) fun self_13 => bk_nil (o := (self_13, s_2.2)) rfl ⟨rfl, rfl, rfl, rfl, rfl, trivial⟩) (fun packet_11 => [.pn v0 (eSieve packet_9.2.2), .ow (.imm (D.lst ((octets).map D.int))), .ow (.lst ((s_2.2).map fun x => .imm ((fun xs : (List Int) => D.lst (xs.map D.int)) x))), .ow (.imm (D.int x_3)), .ow (.lst ((packet_11).map fun x => .imm (D.int x)))]) (fun packet_11 => bk_freezeL (ei := D.int) 4 rfl (bk_cons (st_append (ei := (fun xs : (List Int) => D.lst (xs.map D.int))) 2 rfl (dd_var (emb := (fun xs : (List Int) => D.lst (xs.map D.int))) 4 rfl) trivial) fun found_15 => bk_nil (o := (packet_9.2.2, found_15)) rfl ⟨rfl, rfl, rfl, rfl, rfl, trivial⟩)) (by intro _ h; rw [h]; rfl) trivial) fun j_12 => bk_nil (o := (j_12.1, j_12.2)) rfl ⟨rfl, rfl, rfl, rfl, rfl, trivial⟩)) (bk_nil (o := (s_2.1, s_2.2)) rfl ⟨rfl, rfl, rfl, rfl, rfl, trivial⟩) trivial) fun j_8 => bk_cons (st_tupX rfl (daf_cons (df_disp (ei := D.int) da_nil (fun p : Unit => ([] : List Int))) (daf_cons (df_of_dd dd_int) daf_nil)) (fun u_16 => (dgxs_cons (dgx_fld 0 0 rfl rfl ⟨Tx.gc_Sieve, Tx.cl_Sieve⟩ Tx.na_Sieve__octets) (dgxs_cons (dgx_fld 0 1 rfl rfl ⟨Tx.gc_Sieve, Tx.cl_Sieve⟩ Tx.na_Sieve__count) dgxs_nil))) trivial) fun u_16 => bk_as [.pn v0 (eSieve (u_16.1, u_16.2.1, j_8.1.2.2)), .ow (.imm (D.lst ((octets).map D.int))), .ow (.lst ((j_8.2).map fun x => .imm ((fun xs : (List Int) => D.lst (xs.map D.int)) x))), .ow (.imm (D.int x_3)), .un] rfl (bk_nil (o := ((u_16.1, u_16.2.1, j_8.1.2.2), j_8.2)) rfl ⟨rfl, rfl, rfl, rfl, trivial⟩)) trivial) ⟨rfl, rfl, rfl, rfl, trivial⟩ trivial) fun s_17 => bk_retV (Γr := [.pn v0 (eSieve s_17.1), .un, .un, .un, .un]) (o := (s_17.2, s_17.1)) 2 rfl rfl ⟨rfl, rfl, trivial⟩

theorem sc_Sieve__told : FnScope ["self"] ["self"] (defScope s_Sieve__told) := ⟨rfl, rfl, rfl, by decide +kernel, rfl, by decide +kernel, by decide +kernel⟩
noncomputable def Sieve__told (self : OSieve) : R (Int × Int × Int) :=
  (((((R.ok self >>= fun y => .ok ((fun y : OSieve => y.2.2) y)) >>= fun xs => R.ok (0 : Int) >>= fun i => ofO (atI xs i)) >>= fun x => (((R.ok self >>= fun y => .ok ((fun y : OSieve => y.2.2) y)) >>= fun xs => R.ok (1 : Int) >>= fun i => ofO (atI xs i)) >>= fun x => (((R.ok self >>= fun y => .ok ((fun y : OSieve => y.2.2) y)) >>= fun xs => R.ok (2 : Int) >>= fun i => ofO (atI xs i)) >>= fun x => R.ok () >>= fun y => .ok (x, y)) >>= fun y => .ok (x, y)) >>= fun y => .ok (x, y)) >>= fun p => .ok ((fun p : Int × Int × Int × Unit => ((p.1, p.2.1, p.2.2.1) : (Int × Int × Int))) p)) >>= fun r => .ok (r))
theorem ok_Sieve__told (Tx : Tx K mg) : FnOk P w K mg base (L2.CX P w) 1 Tx.a_Sieve__told Tx.d_Sieve__told ["self"]
    (SpL ⟨K, mg⟩ (fun p : OSieve × Unit => [.tr (eSieve p.1)]) (fun r : (Int × Int × Int) => .imm (D.tup [D.int r.1, D.int r.2.1, D.int r.2.2])) (fun p => Sieve__told p.1)) := by
  refine fn_look Tx.F_Sieve__told sc_Sieve__told (fun _ => rfl) fun cdv A outer s H E hr p => ?_
  obtain ⟨self, _⟩ := p
  exact bk_ret (df_of_dd (dd_tup (et := (fun p : (Int × Int × Int) => D.tup [D.int p.1, D.int p.2.1, D.int p.2.2])) (da_cons (dd_ixL (ei := D.int) (dl_own (ei := D.int) (db_fld (ec := (fun xs : (List Int) => T.lst (xs.map fun x => T.imm (D.int x)))) 2 (fun y : OSieve => y.2.2) (db_see (emb := eSieve) (x := self) 0 rfl rfl) ⟨Tx.gc_Sieve, Tx.cl_Sieve⟩ Tx.na_Sieve__told)) dd_int) (da_cons (dd_ixL (ei := D.int) (dl_own (ei := D.int) (db_fld (ec := (fun xs : (List Int) => T.lst (xs.map fun x => T.imm (D.int x)))) 2 (fun y : OSieve => y.2.2) (db_see (emb := eSieve) (x := self) 0 rfl rfl) ⟨Tx.gc_Sieve, Tx.cl_Sieve⟩ Tx.na_Sieve__told)) dd_int) (da_cons (dd_ixL (ei := D.int) (dl_own (ei := D.int) (db_fld (ec := (fun xs : (List Int) => T.lst (xs.map fun x => T.imm (D.int x)))) 2 (fun y : OSieve => y.2.2) (db_see (emb := eSieve) (x := self) 0 rfl rfl) ⟨Tx.gc_Sieve, Tx.cl_Sieve⟩ Tx.na_Sieve__told)) dd_int) da_nil))) (fun p : Int × Int × Int × Unit => ((p.1, p.2.1, p.2.2.1) : (Int × Int × Int))))) (g := fun r => r) (fun _ => rfl) trivial trivial

theorem sc_Sieve__held : FnScope ["self"] ["self"] (defScope s_Sieve__held) := ⟨rfl, rfl, rfl, by decide +kernel, rfl, by decide +kernel, by decide +kernel⟩
noncomputable def Sieve__held (self : OSieve) : R Int :=
  (((R.ok self >>= fun y => .ok ((fun y : OSieve => y.2.1) y)) >>= fun x => (R.ok (510 : Int) >>= fun x => R.ok (1 : Int) >>= fun y => .ok (x + y)) >>= fun y => .ok (if y < x then y else x)) >>= fun r => .ok (r))
theorem ok_Sieve__held (Tx : Tx K mg) : FnOk P w K mg base (L2.CX P w) 1 Tx.a_Sieve__held Tx.d_Sieve__held ["self"]
    (SpL ⟨K, mg⟩ (fun p : OSieve × Unit => [.tr (eSieve p.1)]) (fun r : Int => .imm (D.int r)) (fun p => Sieve__held p.1)) := by
  refine fn_look Tx.F_Sieve__held sc_Sieve__held (fun _ => rfl) fun cdv A outer s H E hr p => ?_
  obtain ⟨self, _⟩ := p
  exact bk_ret (df_of_dd (dd_two_ints (f := fun x y => if y < x then y else x) (call_min2 rfl) (dd_db (emb := D.int) (db_fld (ec := (fun x : Int => T.imm (D.int x))) 1 (fun y : OSieve => y.2.1) (db_see (emb := eSieve) (x := self) 0 rfl rfl) ⟨Tx.gc_Sieve, Tx.cl_Sieve⟩ Tx.na_Sieve__count)) (dd_add (dd_gint Tx.c_MOST_HELD) dd_int) Tx.b_min (by decide +kernel))) (g := fun r => r) (fun _ => rfl) trivial trivial

theorem sc_law : FnScope ["script", "draws", "stream", "k", "at", "read", "packet", "octets", "last", "foreign", "found", "told", "held", "one", "other", "step", "value", "octet"] ["script"] (defScope s_law) := ⟨rfl, rfl, rfl, by decide +kernel, rfl, by decide +kernel, by decide +kernel⟩
noncomputable def law (script : (List Int)) : R Bool :=
  (((R.ok script >>= fun x => (R.ok (90 : Int) >>= fun x => R.ok () >>= fun y => .ok (x, y)) >>= fun y => .ok (x, y)) >>= fun p : (List Int) × Int × Unit => (_law_draws p.1 p.2.1)) >>= fun draws_1 => ((R.ok () >>= fun p => .ok ((fun p : Unit => ([] : List Int)) p)) >>= fun stream_2 => ((((R.ok (1 : Int) >>= fun x => ((R.ok draws_1 >>= fun xs => R.ok (0 : Int) >>= fun i => ofO (atI xs i)) >>= fun x => .ok (x % 7)) >>= fun y => .ok (x + y)) >>= fun n => ofO (rangeO 0 n)) >>= fun xs => forS (fun (x_4 : Int) (s_3 : (List Int)) => ((R.ok s_3 >>= fun xs => (((((R.ok draws_1 >>= fun xs => ((R.ok (10 : Int) >>= fun x => (R.ok (5 : Int) >>= fun x => R.ok x_4 >>= fun y => ofO (mulO x y)) >>= fun y => .ok (x + y)) >>= fun i => .ok (some i)) >>= fun i => ((R.ok (40 : Int) >>= fun x => (R.ok (5 : Int) >>= fun x => R.ok x_4 >>= fun y => ofO (mulO x y)) >>= fun y => .ok (x + y)) >>= fun i => .ok (some i)) >>= fun j => .ok (cutL xs i j)) >>= fun x => ((R.ok (1 : Int) >>= fun x => ((R.ok draws_1 >>= fun xs => (R.ok (1 : Int) >>= fun x => R.ok x_4 >>= fun y => .ok (x + y)) >>= fun i => ofO (atI xs i)) >>= fun x => .ok (x % 30)) >>= fun y => .ok (x + y)) >>= fun x => R.ok () >>= fun y => .ok (x, y)) >>= fun y => .ok (x, y)) >>= fun p : (List Int) × Int × Unit => (_law_octets p.1 p.2.1)) >>= fun x => R.ok () >>= fun y => .ok (x, y)) >>= fun p : (List Int) × Unit => (frame p.1)) >>= fun ys => ofO (catO xs ys)) >>= fun stream_5 => ((((((R.ok draws_1 >>= fun xs => (R.ok (1 : Int) >>= fun x => R.ok x_4 >>= fun y => .ok (x + y)) >>= fun i => ofO (atI xs i)) >>= fun x => .ok (x / 30)) >>= fun x => .ok (x % 5)) >>= fun x => R.ok (0 : Int) >>= fun y => .ok (decide (x = y))) >>= fun x => if x then ((R.ok stream_5 >>= fun xs => (((R.ok draws_1 >>= fun xs => ((R.ok (20 : Int) >>= fun x => R.ok x_4 >>= fun y => .ok (x + y)) >>= fun i => .ok (some i)) >>= fun i => ((R.ok (50 : Int) >>= fun x => R.ok x_4 >>= fun y => .ok (x + y)) >>= fun i => .ok (some i)) >>= fun j => .ok (cutL xs i j)) >>= fun x => (((R.ok draws_1 >>= fun xs => (R.ok (2 : Int) >>= fun x => R.ok x_4 >>= fun y => .ok (x + y)) >>= fun i => ofO (atI xs i)) >>= fun x => .ok (x % 9)) >>= fun x => R.ok () >>= fun y => .ok (x, y)) >>= fun y => .ok (x, y)) >>= fun p : (List Int) × Int × Unit => (_law_octets p.1 p.2.1)) >>= fun ys => ofO (catO xs ys)) >>= fun stream_7 => R.ok stream_7) else R.ok stream_5) >>= fun j_6 : (List Int) => R.ok j_6))) xs stream_2) >>= fun s_8 : (List Int) => (((((R.ok draws_1 >>= fun xs => R.ok (8 : Int) >>= fun i => ofO (atI xs i)) >>= fun x => .ok (x % 4)) >>= fun x => R.ok (0 : Int) >>= fun y => .ok (decide (x = y))) >>= fun x => if x then (((((R.ok draws_1 >>= fun xs => (R.ok (30 : Int) >>= fun i => .ok (some i)) >>= fun i => (R.ok (60 : Int) >>= fun i => .ok (some i)) >>= fun j => .ok (cutL xs i j)) >>= fun x => ((R.ok (100 : Int) >>= fun x => ((R.ok draws_1 >>= fun xs => R.ok (9 : Int) >>= fun i => ofO (atI xs i)) >>= fun x => .ok (x % 1900)) >>= fun y => .ok (x + y)) >>= fun x => R.ok () >>= fun y => .ok (x, y)) >>= fun y => .ok (x, y)) >>= fun p : (List Int) × Int × Unit => (_law_octets p.1 p.2.1)) >>= fun xs => compR (fun c_11 : Int => (R.ok c_11 >>= fun x => R.ok (126 : Int) >>= fun y => .ok (!decide (x = y)))) (fun c_11 : Int => R.ok c_11) xs) >>= fun foreign_10 => (((R.ok draws_1 >>= fun xs => R.ok (60 : Int) >>= fun i => ofO (atI xs i)) >>= fun x => ((R.ok s_8 >>= fun xs => .ok (xs.length : Int)) >>= fun x => R.ok (1 : Int) >>= fun y => .ok (x + y)) >>= fun y => ofO (modO x y)) >>= fun at_12 => ((((R.ok s_8 >>= fun xs => R.ok none >>= fun i => (R.ok at_12 >>= fun i => .ok (some i)) >>= fun j => .ok (cutL xs i j)) >>= fun xs => R.ok foreign_10 >>= fun ys => ofO (catO xs ys)) >>= fun xs => (R.ok s_8 >>= fun xs => (R.ok at_12 >>= fun i => .ok (some i)) >>= fun i => R.ok none >>= fun j => .ok (cutL xs i j)) >>= fun ys => ofO (catO xs ys)) >>= fun stream_13 => R.ok stream_13))) else R.ok s_8) >>= fun j_9 : (List Int) => (((R.ok j_9 >>= fun x => ((R.ok draws_1 >>= fun xs => (R.ok (61 : Int) >>= fun i => .ok (some i)) >>= fun i => (R.ok (81 : Int) >>= fun i => .ok (some i)) >>= fun j => .ok (cutL xs i j)) >>= fun x => (((R.ok draws_1 >>= fun xs => R.ok (81 : Int) >>= fun i => ofO (atI xs i)) >>= fun x => .ok (x % 11)) >>= fun x => R.ok () >>= fun y => .ok (x, y)) >>= fun y => .ok (x, y)) >>= fun y => .ok (x, y)) >>= fun p : (List Int) × (List Int) × Int × Unit => (_law_spoilt p.1 p.2.1 p.2.2.1)) >>= fun stream_15 => (((((R.ok draws_1 >>= fun xs => R.ok (82 : Int) >>= fun i => ofO (atI xs i)) >>= fun x => .ok (x % 4)) >>= fun x => R.ok (0 : Int) >>= fun y => .ok (decide (x = y))) >>= fun x => if x then (((R.ok stream_15 >>= fun xs => ((R.ok (126 : Int) >>= fun x => R.ok () >>= fun y => .ok (x, y)) >>= fun p => .ok ((fun p : Int × Unit => ([p.1] : List Int)) p)) >>= fun ys => ofO (catO xs ys)) >>= fun xs => (((R.ok (1 : Int) >>= fun x => R.ok () >>= fun y => .ok (x, y)) >>= fun p => .ok ((fun p : Int × Unit => ([p.1] : List Int)) p)) >>= fun xs => (R.ok (509 : Int) >>= fun x => ((R.ok draws_1 >>= fun xs => R.ok (83 : Int) >>= fun i => ofO (atI xs i)) >>= fun x => .ok (x % 4)) >>= fun y => .ok (x + y)) >>= fun k => ofO (repO xs k)) >>= fun ys => ofO (catO xs ys)) >>= fun stream_17 => R.ok stream_17) else R.ok stream_15) >>= fun j_16 : (List Int) => (((R.ok j_16 >>= fun x => R.ok () >>= fun y => .ok (x, y)) >>= fun p : (List Int) × Unit => (_law_read p.1)) >>= fun u_19 => (((Sieve____init__ ()) >>= fun p => ((Sieve____init__ ()) >>= fun q => ((R.ok () >>= fun p => .ok ((fun p : Unit => ([] : List (List Int))) p)) >>= fun r => .ok (p, q, r)))) >>= fun u_20 => ((((R.ok () >>= fun k => (R.ok j_16 >>= fun x => R.ok () >>= fun y => .ok (x, y)) >>= fun y : (List Int) × Unit => (Sieve__take u_20.1 y.1) >>= fun r => .ok ((k, y), r)) >>= fun x => ofO ((eqO (D.lst ((x.2.1).map (fun xs : (List Int) => D.lst (xs.map D.int)))) (D.lst ((u_19.1).map (fun xs : (List Int) => D.lst (xs.map D.int))))).map (true != ·)) >>= fun c => .ok (c, x)) >>= fun p : Bool × ((Unit × (List Int) × Unit) × ((List (List Int)) × OSieve)) => if p.1 then .ok (true, p.2) else noErr ((fun c_21 : (Unit × (List Int) × Unit) × ((List (List Int)) × OSieve) => ((((R.ok c_21.2.2 >>= fun y => (Sieve__told y)) >>= fun p => .ok ((fun p : (Int × Int × Int) => [p.1, p.2.1, p.2.2]) p)) >>= fun x => R.ok u_19.2.1 >>= fun y => ofO ((eqO (D.tup ((x).map D.int)) (D.tup ((y).map D.int))).map (true != ·))) >>= fun x => if x then .ok true else ((R.ok c_21.2.2 >>= fun y => (Sieve__held y)) >>= fun x => R.ok u_19.2.2 >>= fun y => .ok (!decide (x = y))))) p.2) >>= fun c => .ok (c, p.2)) >>= fun p => if p.1 then (fun c_21 : (Unit × (List Int) × Unit) × ((List (List Int)) × OSieve) => (R.ok false >>= fun r => .ok (r))) p.2 else (fun c_21 : (Unit × (List Int) × Unit) × ((List (List Int)) × OSieve) => (R.ok (0 : Int) >>= fun at_22 => (((R.ok (40 : Int) >>= fun n => ofO (rangeO 0 n)) >>= fun xs => forX (fun (x_24 : Int) (s_23 : Int × (List (List Int)) × OSieve) => (((R.ok draws_1 >>= fun xs => (R.ok (84 : Int) >>= fun x => (R.ok x_24 >>= fun x => .ok (x % 6)) >>= fun y => .ok (x + y)) >>= fun i => ofO (atI xs i)) >>= fun x => .ok (x % 70)) >>= fun step_25 => ((R.ok s_23.2.1 >>= fun xs => (R.ok () >>= fun k => ((R.ok j_16 >>= fun xs => (R.ok s_23.1 >>= fun i => .ok (some i)) >>= fun i => ((R.ok s_23.1 >>= fun x => R.ok step_25 >>= fun y => .ok (x + y)) >>= fun i => .ok (some i)) >>= fun j => .ok (cutL xs i j)) >>= fun x => R.ok () >>= fun y => .ok (x, y)) >>= fun y : (List Int) × Unit => (Sieve__take s_23.2.2 y.1) >>= fun r => .ok ((k, y), r)) >>= fun y => ofO (catO xs (y.2.1)) >>= fun zs => .ok (y, zs)) >>= fun read_26 => (((R.ok j_16 >>= fun xs => .ok (xs.length : Int)) >>= fun x => (R.ok s_23.1 >>= fun x => R.ok step_25 >>= fun y => .ok (x + y)) >>= fun y => .ok (if y < x then y else x)) >>= fun at_27 => (((R.ok read_26.1.2.2 >>= fun y => (Sieve__held y)) >>= fun x => R.ok (511 : Int) >>= fun y => .ok (decide (y < x))) >>= fun x => if x then (R.ok false >>= fun r => .ok (Lo.ex (r))) else R.ok (Lo.nx (at_27, read_26.2, read_26.1.2.2))))))) xs (at_22, u_20.2.2, u_20.2.1)) >>= sumK (fun s_28 : Int × (List (List Int)) × OSieve => ((R.ok s_28.2.1 >>= fun xs => (R.ok () >>= fun k => ((R.ok j_16 >>= fun xs => (R.ok s_28.1 >>= fun i => .ok (some i)) >>= fun i => R.ok none >>= fun j => .ok (cutL xs i j)) >>= fun x => R.ok () >>= fun y => .ok (x, y)) >>= fun y : (List Int) × Unit => (Sieve__take s_28.2.2 y.1) >>= fun r => .ok ((k, y), r)) >>= fun y => ofO (catO xs (y.2.1)) >>= fun zs => .ok (y, zs)) >>= fun read_29 => (((R.ok read_29.2 >>= fun x => R.ok u_19.1 >>= fun y => ofO ((eqO (D.lst ((x).map (fun xs : (List Int) => D.lst (xs.map D.int)))) (D.lst ((y).map (fun xs : (List Int) => D.lst (xs.map D.int))))).map (true != ·))) >>= fun x => if x then .ok true else ((((R.ok read_29.1.2.2 >>= fun y => (Sieve__told y)) >>= fun p => .ok ((fun p : (Int × Int × Int) => [p.1, p.2.1, p.2.2]) p)) >>= fun x => R.ok u_19.2.1 >>= fun y => ofO ((eqO (D.tup ((x).map D.int)) (D.tup ((y).map D.int))).map (true != ·))) >>= fun x => if x then .ok true else ((R.ok read_29.1.2.2 >>= fun y => (Sieve__held y)) >>= fun x => R.ok u_19.2.2 >>= fun y => .ok (!decide (x = y))))) >>= fun x => if x then (R.ok false >>= fun r => .ok (r)) else ((((((R.ok draws_1 >>= fun xs => (R.ok (40 : Int) >>= fun i => .ok (some i)) >>= fun i => (R.ok (70 : Int) >>= fun i => .ok (some i)) >>= fun j => .ok (cutL xs i j)) >>= fun x => ((R.ok (1 : Int) >>= fun x => ((R.ok draws_1 >>= fun xs => R.ok (84 : Int) >>= fun i => ofO (atI xs i)) >>= fun x => .ok (x % 60)) >>= fun y => .ok (x + y)) >>= fun x => R.ok () >>= fun y => .ok (x, y)) >>= fun y => .ok (x, y)) >>= fun p : (List Int) × Int × Unit => (_law_octets p.1 p.2.1)) >>= fun xs => compR (fun c_31 : Int => (R.ok c_31 >>= fun i => ((R.ok (125 : Int) >>= fun x => (R.ok (126 : Int) >>= fun x => R.ok () >>= fun y => .ok (x, y)) >>= fun y => .ok (x, y)) >>= fun p => .ok ((fun p : Int × Int × Unit => ([p.1, p.2.1] : (List Int))) p)) >>= fun xs => .ok (!decide (i ∈ xs)))) (fun c_31 : Int => R.ok c_31) xs) >>= fun xs => ((R.ok (1 : Int) >>= fun x => R.ok () >>= fun y => .ok (x, y)) >>= fun p => .ok ((fun p : Int × Unit => ([p.1] : List Int)) p)) >>= fun ys => ofO (catO xs ys)) >>= fun packet_30 => (((R.ok packet_30 >>= fun x => R.ok () >>= fun y => .ok (x, y)) >>= fun p : (List Int) × Unit => (frame p.1)) >>= fun octets_33 => ((((R.ok draws_1 >>= fun xs => R.ok (85 : Int) >>= fun i => ofO (atI xs i)) >>= fun x => (R.ok packet_30 >>= fun xs => .ok (xs.length : Int)) >>= fun y => ofO (modO x y)) >>= fun p => (((R.ok draws_1 >>= fun xs => R.ok (86 : Int) >>= fun i => ofO (atI xs i)) >>= fun x => .ok (x % 125)) >>= fun q => .ok (p, q))) >>= fun u_34 => ((((R.ok octets_33 >>= fun xs => R.ok none >>= fun i => (R.ok u_34.1 >>= fun i => .ok (some i)) >>= fun j => .ok (cutL xs i j)) >>= fun xs => ((R.ok u_34.2 >>= fun x => R.ok () >>= fun y => .ok (x, y)) >>= fun p => .ok ((fun p : Int × Unit => ([p.1] : List Int)) p)) >>= fun ys => ofO (catO xs ys)) >>= fun xs => (R.ok octets_33 >>= fun xs => ((R.ok u_34.1 >>= fun x => R.ok (1 : Int) >>= fun y => .ok (x + y)) >>= fun i => .ok (some i)) >>= fun i => R.ok none >>= fun j => .ok (cutL xs i j)) >>= fun ys => ofO (catO xs ys)) >>= fun octets_35 => ((Sieve____init__ ()) >>= fun last_36 => ((((R.ok () >>= fun k => (R.ok octets_35 >>= fun x => R.ok () >>= fun y => .ok (x, y)) >>= fun y : (List Int) × Unit => (Sieve__take last_36 y.1) >>= fun r => .ok ((k, y), r)) >>= fun x => ofO ((eqO (D.lst ((x.2.1).map (fun xs : (List Int) => D.lst (xs.map D.int)))) (D.lst (([packet_30]).map (fun xs : (List Int) => D.lst (xs.map D.int))))).map (false != ·)) >>= fun c => .ok (x, c)) >>= fun r : ((Unit × (List Int) × Unit) × ((List (List Int)) × OSieve)) × Bool => (if r.2 then noErr ((fun c_37 : (Unit × (List Int) × Unit) × ((List (List Int)) × OSieve) => ((R.ok c_37.2.2 >>= fun y => (Sieve__told y)) >>= fun x => ((R.ok (1 : Int) >>= fun x => (((R.ok u_34.2 >>= fun x => (R.ok packet_30 >>= fun xs => R.ok u_34.1 >>= fun i => ofO (atI xs i)) >>= fun y => .ok (!decide (x = y))) >>= fun b => .ok (if b then 1 else 0)) >>= fun x => (R.ok (0 : Int) >>= fun x => R.ok () >>= fun y => .ok (x, y)) >>= fun y => .ok (x, y)) >>= fun y => .ok (x, y)) >>= fun p => .ok ((fun p : Int × Int × Int × Unit => ((p.1, p.2.1, p.2.2.1) : (Int × Int × Int))) p)) >>= fun y => ofO ((eqO (D.tup [D.int x.1, D.int x.2.1, D.int x.2.2]) (D.tup [D.int y.1, D.int y.2.1, D.int y.2.2])).map (false != ·)))) r.1) else .ok false) >>= fun c => .ok (r.1, c)) >>= fun x => .ok (x.2)))))))))) .ok))) p.2)))))))))
theorem ok_law (Tx : Tx K mg) : FnOk P w K mg base (L2.CX P w) 8 Tx.a_law Tx.d_law ["script"]
    (SpF ⟨K, mg⟩ (fun p : (List Int) × Unit => [D.frl ((p.1).map D.int)]) (fun r : Bool => .imm (D.bl r)) (fun p => law p.1)) := by
  refine fn_pure Tx.F_law sc_law (fun _ => rfl) fun cdv A outer s H E hr p => ?_
  obtain ⟨script, _⟩ := p
  exact bk_cons (st_set 1 (df_call (ok__law_draws Tx) (hr.mono (by decide)) Tx.g__law_draws Tx.F__law_draws.kp Tx.b__law_draws (takes_of rfl rfl rfl rfl) (da_cons (ea := (fun xs : (List Int) => D.frl (xs.map D.int))) (dd_var (emb := (fun xs : (List Int) => D.frl (xs.map D.int))) 0 rfl) (da_cons dd_int da_nil))) trivial rfl sc_law.nd) fun draws_1 => bk_cons (st_set 2 (df_disp (ei := D.int) da_nil (fun p : Unit => ([] : List Int))) trivial rfl sc_law.nd) fun stream_2 => bk_cons (Γ1 := fun s_3 : (List Int) => [.ow (.imm (D.frl ((script).map D.int))), .ow (.lst ((draws_1).map fun x => .imm (D.int x))), .ow (.lst ((s_3).map fun x => .imm (D.int x))), .un, .un, .un, .un, .un, .un, .un, .un, .un, .un, .un, .un, .un, .un, .un]) (st_forS (Γs := fun s_3 : (List Int) => [.ow (.imm (D.frl ((script).map D.int))), .ow (.lst ((draws_1).map fun x => .imm (D.int x))), .ow (.lst ((s_3).map fun x => .imm (D.int x))), .un, .un, .un, .un, .un, .un, .un, .un, .un, .un, .un, .un, .un, .un, .un]) (ei := D.int) stream_2 (passes_of rfl) rfl (di_range1 (dd_add dd_int (dd_modC (dd_intI (dd_ixL (ei := D.int) (dl_own (ei := D.int) (db_var (emb := (fun xs : (List Int) => T.lst (xs.map fun x => T.imm (D.int x)))) 1 rfl)) dd_int) Tx.b_int) dd_int (by decide))) Tx.b_range) (fun s_3 x_4 => (dg_name 3 sc_law.nd)) (fun s_3 x_4 => bk_cons (st_set 2 (df_cat (ei := D.int) (dlt_own (ei := D.int) (db_var (emb := (fun xs : (List Int) => T.lst (xs.map fun x => T.imm (D.int x)))) 2 rfl)) (dlt_own (ei := D.int) (db_of_df (df_call (ok_frame Tx) (hr.mono (by decide)) Tx.g_frame Tx.F_frame.kp Tx.b_frame (takes_of rfl rfl rfl rfl) (da_cons (ea := (fun xs : (List Int) => D.lst (xs.map D.int))) (dd_list (ε := D.int) (df_call (ok__law_octets Tx) (hr.mono (by decide)) Tx.g__law_octets Tx.F__law_octets.kp Tx.b__law_octets (takes_of rfl rfl rfl rfl) (da_cons (ea := (fun xs : (List Int) => D.lst (xs.map D.int))) (dd_list (ε := D.int) (df_slL (ei := D.int) (dl_own (ei := D.int) (db_var (emb := (fun xs : (List Int) => T.lst (xs.map fun x => T.imm (D.int x)))) 1 rfl)) (do_some (dd_add dd_int (dd_mul dd_int (dd_var (emb := D.int) 3 rfl)))) (do_some (dd_add dd_int (dd_mul dd_int (dd_var (emb := D.int) 3 rfl)))))) (da_cons (dd_add dd_int (dd_modC (dd_intI (dd_ixL (ei := D.int) (dl_own (ei := D.int) (db_var (emb := (fun xs : (List Int) => T.lst (xs.map fun x => T.imm (D.int x)))) 1 rfl)) (dd_add dd_int (dd_var (emb := D.int) 3 rfl))) Tx.b_int) dd_int (by decide))) da_nil)))) da_nil))))) trivial rfl sc_law.nd) fun stream_5 => bk_cons (Γ1 := fun j_6 : (List Int) => [.ow (.imm (D.frl ((script).map D.int))), .ow (.lst ((draws_1).map fun x => .imm (D.int x))), .ow (.lst ((j_6).map fun x => .imm (D.int x))), .ow (.imm (D.int x_4)), .un, .un, .un, .un, .un, .un, .un, .un, .un, .un, .un, .un, .un, .un]) (st_if (dt_eqI (dd_modC (dd_divC (dd_intI (dd_ixL (ei := D.int) (dl_own (ei := D.int) (db_var (emb := (fun xs : (List Int) => T.lst (xs.map fun x => T.imm (D.int x)))) 1 rfl)) (dd_add dd_int (dd_var (emb := D.int) 3 rfl))) Tx.b_int) dd_int (by decide)) dd_int (by decide)) dd_int) (bk_cons (st_set 2 (df_cat (ei := D.int) (dlt_own (ei := D.int) (db_var (emb := (fun xs : (List Int) => T.lst (xs.map fun x => T.imm (D.int x)))) 2 rfl)) (dlt_own (ei := D.int) (db_of_df (df_call (ok__law_octets Tx) (hr.mono (by decide)) Tx.g__law_octets Tx.F__law_octets.kp Tx.b__law_octets (takes_of rfl rfl rfl rfl) (da_cons (ea := (fun xs : (List Int) => D.lst (xs.map D.int))) (dd_list (ε := D.int) (df_slL (ei := D.int) (dl_own (ei := D.int) (db_var (emb := (fun xs : (List Int) => T.lst (xs.map fun x => T.imm (D.int x)))) 1 rfl)) (do_some (dd_add dd_int (dd_var (emb := D.int) 3 rfl))) (do_some (dd_add dd_int (dd_var (emb := D.int) 3 rfl))))) (da_cons (dd_modC (dd_intI (dd_ixL (ei := D.int) (dl_own (ei := D.int) (db_var (emb := (fun xs : (List Int) => T.lst (xs.map fun x => T.imm (D.int x)))) 1 rfl)) (dd_add dd_int (dd_var (emb := D.int) 3 rfl))) Tx.b_int) dd_int (by decide)) da_nil)))))) trivial rfl sc_law.nd) fun stream_7 => bk_nil (o := stream_7) rfl ⟨rfl, rfl, rfl, rfl, trivial⟩) (bk_nil (o := stream_5) rfl ⟨rfl, rfl, rfl, rfl, trivial⟩) trivial) fun j_6 => bk_nil (o := j_6) rfl ⟨rfl, rfl, rfl, trivial⟩) ⟨rfl, rfl, rfl, trivial⟩ trivial) fun s_8 => bk_cons (Γ1 := fun j_9 : (List Int) => [.ow (.imm (D.frl ((script).map D.int))), .ow (.lst ((draws_1).map fun x => .imm (D.int x))), .ow (.lst ((j_9).map fun x => .imm (D.int x))), .un, .un, .un, .un, .un, .un, .un, .un, .un, .un, .un, .un, .un, .un, .un]) (st_if (dt_eqI (dd_modC (dd_intI (dd_ixL (ei := D.int) (dl_own (ei := D.int) (db_var (emb := (fun xs : (List Int) => T.lst (xs.map fun x => T.imm (D.int x)))) 1 rfl)) dd_int) Tx.b_int) dd_int (by decide)) dd_int) (bk_as [.ow (.imm (D.frl ((script).map D.int))), .ow (.lst ((draws_1).map fun x => .imm (D.int x))), .ow (.lst ((s_8).map fun x => .imm (D.int x))), .un, .un, .un, .un, .un, .un, .un, .un, .un, .un, .un, .un, .un, .un, .un] rfl (bk_cons (st_setLc (put := fun c_11 : Int => [.ow (.imm (D.frl ((script).map D.int))), .ow (.lst ((draws_1).map fun x => .imm (D.int x))), .ow (.lst ((s_8).map fun x => .imm (D.int x))), .un, .un, .un, .un, .un, .un, .un, .un, .un, .un, .un, .un, .un, .un, .ow (.imm (D.int c_11))]) (N' := ["script", "draws", "stream", "k", "at", "read", "packet", "octets", "last", "foreign", "found", "told", "held", "one", "other", "step", "value", "octet"]) (sc' := defScope s_law) (ei := D.int) (et := fun y => .imm (D.int y)) 9 [("octet", 17)] rfl sc_law.nd (di_list (ei := D.int) (dd_list (ε := D.int) (df_call (ok__law_octets Tx) (hr.mono (by decide)) Tx.g__law_octets Tx.F__law_octets.kp Tx.b__law_octets (takes_of rfl rfl rfl rfl) (da_cons (ea := (fun xs : (List Int) => D.lst (xs.map D.int))) (dd_list (ε := D.int) (df_slL (ei := D.int) (dl_own (ei := D.int) (db_var (emb := (fun xs : (List Int) => T.lst (xs.map fun x => T.imm (D.int x)))) 1 rfl)) (do_some dd_int) (do_some dd_int))) (da_cons (dd_add dd_int (dd_modC (dd_intI (dd_ixL (ei := D.int) (dl_own (ei := D.int) (db_var (emb := (fun xs : (List Int) => T.lst (xs.map fun x => T.imm (D.int x)))) 1 rfl)) dd_int) Tx.b_int) dd_int (by decide))) da_nil))))) (fun _ _ _ _ _ c_11 => (dgc_name 17 sc_law.nd)) (fun _ _ _ _ _ c_11 => (dts_one (dt_neI (dd_var (emb := D.int) 17 rfl) dd_int))) (fun _ _ _ _ _ c_11 => df_of_dd (dd_var (emb := D.int) 17 rfl)) trivial) fun foreign_10 => bk_cons (st_set 4 (df_of_dd (dd_mod (dd_intI (dd_ixL (ei := D.int) (dl_own (ei := D.int) (db_var (emb := (fun xs : (List Int) => T.lst (xs.map fun x => T.imm (D.int x)))) 1 rfl)) dd_int) Tx.b_int) (dd_add (dd_lenL (ei := D.int) (dl_own (ei := D.int) (db_var (emb := (fun xs : (List Int) => T.lst (xs.map fun x => T.imm (D.int x)))) 2 rfl)) Tx.b_len) dd_int))) trivial rfl sc_law.nd) fun at_12 => bk_cons (st_set 2 (df_cat (ei := D.int) (dlt_own (ei := D.int) (db_of_df (df_cat (ei := D.int) (dlt_own (ei := D.int) (db_of_df (df_slL (ei := D.int) (dl_own (ei := D.int) (db_var (emb := (fun xs : (List Int) => T.lst (xs.map fun x => T.imm (D.int x)))) 2 rfl)) do_none (do_some (dd_var (emb := D.int) 4 rfl))))) (dlt_own (ei := D.int) (db_var (emb := (fun xs : (List Int) => T.lst (xs.map fun x => T.imm (D.int x)))) 9 rfl))))) (dlt_own (ei := D.int) (db_of_df (df_slL (ei := D.int) (dl_own (ei := D.int) (db_var (emb := (fun xs : (List Int) => T.lst (xs.map fun x => T.imm (D.int x)))) 2 rfl)) (do_some (dd_var (emb := D.int) 4 rfl)) do_none)))) trivial rfl sc_law.nd) fun stream_13 => bk_nil (o := stream_13) rfl ⟨rfl, rfl, rfl, trivial⟩)) (bk_nil (o := s_8) rfl ⟨rfl, rfl, rfl, trivial⟩) trivial) fun j_9 => bk_freezeL (ei := D.int) 2 rfl (bk_cons (st_set 2 (df_call (ok__law_spoilt Tx) (hr.mono (by decide)) Tx.g__law_spoilt Tx.F__law_spoilt.kp Tx.b__law_spoilt (takes_of rfl rfl rfl rfl) (da_cons (ea := (fun xs : (List Int) => D.lst (xs.map D.int))) (dd_var (emb := (fun xs : (List Int) => D.lst (xs.map D.int))) 2 rfl) (da_cons (ea := (fun xs : (List Int) => D.lst (xs.map D.int))) (dd_list (ε := D.int) (df_slL (ei := D.int) (dl_own (ei := D.int) (db_var (emb := (fun xs : (List Int) => T.lst (xs.map fun x => T.imm (D.int x)))) 1 rfl)) (do_some dd_int) (do_some dd_int))) (da_cons (dd_modC (dd_intI (dd_ixL (ei := D.int) (dl_own (ei := D.int) (db_var (emb := (fun xs : (List Int) => T.lst (xs.map fun x => T.imm (D.int x)))) 1 rfl)) dd_int) Tx.b_int) dd_int (by decide)) da_nil)))) trivial rfl sc_law.nd) fun stream_15 => bk_cons (Γ1 := fun j_16 : (List Int) => [.ow (.imm (D.frl ((script).map D.int))), .ow (.lst ((draws_1).map fun x => .imm (D.int x))), .ow (.lst ((j_16).map fun x => .imm (D.int x))), .un, .un, .un, .un, .un, .un, .un, .un, .un, .un, .un, .un, .un, .un, .un]) (st_if (dt_eqI (dd_modC (dd_intI (dd_ixL (ei := D.int) (dl_own (ei := D.int) (db_var (emb := (fun xs : (List Int) => T.lst (xs.map fun x => T.imm (D.int x)))) 1 rfl)) dd_int) Tx.b_int) dd_int (by decide)) dd_int) (bk_cons (st_set 2 (df_cat (ei := D.int) (dlt_own (ei := D.int) (db_of_df (df_cat (ei := D.int) (dlt_own (ei := D.int) (db_var (emb := (fun xs : (List Int) => T.lst (xs.map fun x => T.imm (D.int x)))) 2 rfl)) (dlt_own (ei := D.int) (db_of_df (df_disp (ei := D.int) (da_cons dd_int da_nil) (fun p : Int × Unit => ([p.1] : List Int)))))))) (dlt_own (ei := D.int) (db_of_df (df_rep (ei := D.int) (dlt_own (ei := D.int) (db_of_df (df_disp (ei := D.int) (da_cons dd_int da_nil) (fun p : Int × Unit => ([p.1] : List Int))))) (dd_add dd_int (dd_modC (dd_intI (dd_ixL (ei := D.int) (dl_own (ei := D.int) (db_var (emb := (fun xs : (List Int) => T.lst (xs.map fun x => T.imm (D.int x)))) 1 rfl)) dd_int) Tx.b_int) dd_int (by decide))))))) trivial rfl sc_law.nd) fun stream_17 => bk_nil (o := stream_17) rfl ⟨rfl, rfl, rfl, trivial⟩) (bk_nil (o := stream_15) rfl ⟨rfl, rfl, rfl, trivial⟩) trivial) fun j_16 => bk_freezeL (ei := D.int) 2 rfl (bk_cons (st_asg (dd_imm (df_call (ok__law_read Tx) (hr.mono (by decide)) Tx.g__law_read Tx.F__law_read.kp Tx.b__law_read (takes_of rfl rfl rfl rfl) (da_cons (ea := (fun xs : (List Int) => D.lst (xs.map D.int))) (dd_var (emb := (fun xs : (List Int) => D.lst (xs.map D.int))) 2 rfl) da_nil))) (fun u_19 => (dg_tup rfl (dgs_cons (dg_name 10 sc_law.nd) (dgs_cons (dg_name 11 sc_law.nd) (dgs_cons (dg_name 12 sc_law.nd) dgs_nil))))) trivial) fun u_19 => bk_cons (st_par3 13 14 5 (by decide) (by decide) (by decide) rfl sc_law.nd (df_gen fun _ => (dx_make0 (eb := eSieve) (pr := fun _ => []) (fun r : OSieve => r) Tx.mk_Sieve (ok_Sieve____init__ Tx) (hr.mono (by decide)) ⟨Tx.gc_Sieve, Tx.cl_Sieve⟩ Tx.b_Sieve____init__ (takes_of rfl rfl rfl rfl))) (df_gen fun _ => (dx_make0 (eb := eSieve) (pr := fun _ => []) (fun r : OSieve => r) Tx.mk_Sieve (ok_Sieve____init__ Tx) (hr.mono (by decide)) ⟨Tx.gc_Sieve, Tx.cl_Sieve⟩ Tx.b_Sieve____init__ (takes_of rfl rfl rfl rfl))) (df_disp (ei := (fun xs : (List Int) => D.lst (xs.map D.int))) da_nil (fun p : Unit => ([] : List (List Int)))) trivial) fun u_20 => bk_ifDX (Γ' := fun c_21 : (Unit × (List Int) × Unit) × ((List (List Int)) × OSieve) => [.ow (.imm (D.frl ((script).map D.int))), .ow (.lst ((draws_1).map fun x => .imm (D.int x))), .ow (.imm (D.lst ((j_16).map D.int))), .un, .un, .ow (.lst ((u_20.2.2).map fun x => .imm ((fun xs : (List Int) => D.lst (xs.map D.int)) x))), .un, .un, .un, .un, .ow (.imm (D.lst ((u_19.1).map (fun xs : (List Int) => D.lst (xs.map D.int))))), .ow (.imm (D.tup ((u_19.2.1).map D.int))), .ow (.imm (D.int u_19.2.2)), .ow (eSieve c_21.2.2), .ow (eSieve u_20.2.1), .un, .un, .un]) (mA := fun c_21 : (Unit × (List Int) × Unit) × ((List (List Int)) × OSieve) => (R.ok false >>= fun r => .ok (r))) (mB := fun c_21 : (Unit × (List Int) × Unit) × ((List (List Int)) × OSieve) => (R.ok (0 : Int) >>= fun at_22 => (((R.ok (40 : Int) >>= fun n => ofO (rangeO 0 n)) >>= fun xs => forX (fun (x_24 : Int) (s_23 : Int × (List (List Int)) × OSieve) => (((R.ok draws_1 >>= fun xs => (R.ok (84 : Int) >>= fun x => (R.ok x_24 >>= fun x => .ok (x % 6)) >>= fun y => .ok (x + y)) >>= fun i => ofO (atI xs i)) >>= fun x => .ok (x % 70)) >>= fun step_25 => ((R.ok s_23.2.1 >>= fun xs => (R.ok () >>= fun k => ((R.ok j_16 >>= fun xs => (R.ok s_23.1 >>= fun i => .ok (some i)) >>= fun i => ((R.ok s_23.1 >>= fun x => R.ok step_25 >>= fun y => .ok (x + y)) >>= fun i => .ok (some i)) >>= fun j => .ok (cutL xs i j)) >>= fun x => R.ok () >>= fun y => .ok (x, y)) >>= fun y : (List Int) × Unit => (Sieve__take s_23.2.2 y.1) >>= fun r => .ok ((k, y), r)) >>= fun y => ofO (catO xs (y.2.1)) >>= fun zs => .ok (y, zs)) >>= fun read_26 => (((R.ok j_16 >>= fun xs => .ok (xs.length : Int)) >>= fun x => (R.ok s_23.1 >>= fun x => R.ok step_25 >>= fun y => .ok (x + y)) >>= fun y => .ok (if y < x then y else x)) >>= fun at_27 => (((R.ok read_26.1.2.2 >>= fun y => (Sieve__held y)) >>= fun x => R.ok (511 : Int) >>= fun y => .ok (decide (y < x))) >>= fun x => if x then (R.ok false >>= fun r => .ok (Lo.ex (r))) else R.ok (Lo.nx (at_27, read_26.2, read_26.1.2.2))))))) xs (at_22, u_20.2.2, u_20.2.1)) >>= sumK (fun s_28 : Int × (List (List Int)) × OSieve => ((R.ok s_28.2.1 >>= fun xs => (R.ok () >>= fun k => ((R.ok j_16 >>= fun xs => (R.ok s_28.1 >>= fun i => .ok (some i)) >>= fun i => R.ok none >>= fun j => .ok (cutL xs i j)) >>= fun x => R.ok () >>= fun y => .ok (x, y)) >>= fun y : (List Int) × Unit => (Sieve__take s_28.2.2 y.1) >>= fun r => .ok ((k, y), r)) >>= fun y => ofO (catO xs (y.2.1)) >>= fun zs => .ok (y, zs)) >>= fun read_29 => (((R.ok read_29.2 >>= fun x => R.ok u_19.1 >>= fun y => ofO ((eqO (D.lst ((x).map (fun xs : (List Int) => D.lst (xs.map D.int)))) (D.lst ((y).map (fun xs : (List Int) => D.lst (xs.map D.int))))).map (true != ·))) >>= fun x => if x then .ok true else ((((R.ok read_29.1.2.2 >>= fun y => (Sieve__told y)) >>= fun p => .ok ((fun p : (Int × Int × Int) => [p.1, p.2.1, p.2.2]) p)) >>= fun x => R.ok u_19.2.1 >>= fun y => ofO ((eqO (D.tup ((x).map D.int)) (D.tup ((y).map D.int))).map (true != ·))) >>= fun x => if x then .ok true else ((R.ok read_29.1.2.2 >>= fun y => (Sieve__held y)) >>= fun x => R.ok u_19.2.2 >>= fun y => .ok (!decide (x = y))))) >>= fun x => if x then (R.ok false >>= fun r => .ok (r)) else ((((((R.ok draws_1 >>= fun xs => (R.ok (40 : Int) >>= fun i => .ok (some i)) >>= fun i => (R.ok (70 : Int) >>= fun i => .ok (some i)) >>= fun j => .ok (cutL xs i j)) >>= fun x => ((R.ok (1 : Int) >>= fun x => ((R.ok draws_1 >>= fun xs => R.ok (84 : Int) >>= fun i => ofO (atI xs i)) >>= fun x => .ok (x % 60)) >>= fun y => .ok (x + y)) >>= fun x => R.ok () >>= fun y => .ok (x, y)) >>= fun y => .ok (x, y)) >>= fun p : (List Int) × Int × Unit => (_law_octets p.1 p.2.1)) >>= fun xs => compR (fun c_31 : Int => (R.ok c_31 >>= fun i => ((R.ok (125 : Int) >>= fun x => (R.ok (126 : Int) >>= fun x => R.ok () >>= fun y => .ok (x, y)) >>= fun y => .ok (x, y)) >>= fun p => .ok ((fun p : Int × Int × Unit => ([p.1, p.2.1] : (List Int))) p)) >>= fun xs => .ok (!decide (i ∈ xs)))) (fun c_31 : Int => R.ok c_31) xs) >>= fun xs => ((R.ok (1 : Int) >>= fun x => R.ok () >>= fun y => .ok (x, y)) >>= fun p => .ok ((fun p : Int × Unit => ([p.1] : List Int)) p)) >>= fun ys => ofO (catO xs ys)) >>= fun packet_30 => (((R.ok packet_30 >>= fun x => R.ok () >>= fun y => .ok (x, y)) >>= fun p : (List Int) × Unit => (frame p.1)) >>= fun octets_33 => ((((R.ok draws_1 >>= fun xs => R.ok (85 : Int) >>= fun i => ofO (atI xs i)) >>= fun x => (R.ok packet_30 >>= fun xs => .ok (xs.length : Int)) >>= fun y => ofO (modO x y)) >>= fun p => (((R.ok draws_1 >>= fun xs => R.ok (86 : Int) >>= fun i => ofO (atI xs i)) >>= fun x => .ok (x % 125)) >>= fun q => .ok (p, q))) >>= fun u_34 => ((((R.ok octets_33 >>= fun xs => R.ok none >>= fun i => (R.ok u_34.1 >>= fun i => .ok (some i)) >>= fun j => .ok (cutL xs i j)) >>= fun xs => ((R.ok u_34.2 >>= fun x => R.ok () >>= fun y => .ok (x, y)) >>= fun p => .ok ((fun p : Int × Unit => ([p.1] : List Int)) p)) >>= fun ys => ofO (catO xs ys)) >>= fun xs => (R.ok octets_33 >>= fun xs => ((R.ok u_34.1 >>= fun x => R.ok (1 : Int) >>= fun y => .ok (x + y)) >>= fun i => .ok (some i)) >>= fun i => R.ok none >>= fun j => .ok (cutL xs i j)) >>= fun ys => ofO (catO xs ys)) >>= fun octets_35 => ((Sieve____init__ ()) >>= fun last_36 => ((((R.ok () >>= fun k => (R.ok octets_35 >>= fun x => R.ok () >>= fun y => .ok (x, y)) >>= fun y : (List Int) × Unit => (Sieve__take last_36 y.1) >>= fun r => .ok ((k, y), r)) >>= fun x => ofO ((eqO (D.lst ((x.2.1).map (fun xs : (List Int) => D.lst (xs.map D.int)))) (D.lst (([packet_30]).map (fun xs : (List Int) => D.lst (xs.map D.int))))).map (false != ·)) >>= fun c => .ok (x, c)) >>= fun r : ((Unit × (List Int) × Unit) × ((List (List Int)) × OSieve)) × Bool => (if r.2 then noErr ((fun c_37 : (Unit × (List Int) × Unit) × ((List (List Int)) × OSieve) => ((R.ok c_37.2.2 >>= fun y => (Sieve__told y)) >>= fun x => ((R.ok (1 : Int) >>= fun x => (((R.ok u_34.2 >>= fun x => (R.ok packet_30 >>= fun xs => R.ok u_34.1 >>= fun i => ofO (atI xs i)) >>= fun y => .ok (!decide (x = y))) >>= fun b => .ok (if b then 1 else 0)) >>= fun x => (R.ok (0 : Int) >>= fun x => R.ok () >>= fun y => .ok (x, y)) >>= fun y => .ok (x, y)) >>= fun y => .ok (x, y)) >>= fun p => .ok ((fun p : Int × Int × Int × Unit => ((p.1, p.2.1, p.2.2.1) : (Int × Int × Int))) p)) >>= fun y => ofO ((eqO (D.tup [D.int x.1, D.int x.2.1, D.int x.2.2]) (D.tup [D.int y.1, D.int y.2.1, D.int y.2.2])).map (false != ·)))) r.1) else .ok false) >>= fun c => .ok (r.1, c)) >>= fun x => .ok (x.2)))))))))) .ok))) (dtx_dwx (dwx_orX (Γ' := fun c_21 : (Unit × (List Int) × Unit) × ((List (List Int)) × OSieve) => [.ow (.imm (D.frl ((script).map D.int))), .ow (.lst ((draws_1).map fun x => .imm (D.int x))), .ow (.imm (D.lst ((j_16).map D.int))), .un, .un, .ow (.lst ((u_20.2.2).map fun x => .imm ((fun xs : (List Int) => D.lst (xs.map D.int)) x))), .un, .un, .un, .un, .ow (.imm (D.lst ((u_19.1).map (fun xs : (List Int) => D.lst (xs.map D.int))))), .ow (.imm (D.tup ((u_19.2.1).map D.int))), .ow (.imm (D.int u_19.2.2)), .ow (eSieve c_21.2.2), .ow (eSieve u_20.2.1), .un, .un, .un]) (n := fun c_21 : (Unit × (List Int) × Unit) × ((List (List Int)) × OSieve) => ((((R.ok c_21.2.2 >>= fun y => (Sieve__told y)) >>= fun p => .ok ((fun p : (Int × Int × Int) => [p.1, p.2.1, p.2.2]) p)) >>= fun x => R.ok u_19.2.1 >>= fun y => ofO ((eqO (D.tup ((x).map D.int)) (D.tup ((y).map D.int))).map (true != ·))) >>= fun x => if x then .ok true else ((R.ok c_21.2.2 >>= fun y => (Sieve__held y)) >>= fun x => R.ok u_19.2.2 >>= fun y => .ok (!decide (x = y))))) (dtx_ne (ea := fun z : (Unit × (List Int) × Unit) × ((List (List Int)) × OSieve) => D.lst ((z.2.1).map (fun xs : (List Int) => D.lst (xs.map D.int)))) (eb := (fun xs : (List (List Int)) => D.lst (xs.map (fun xs : (List Int) => D.lst (xs.map D.int))))) hr.units (dx_methG (g := fun p : OSieve × (List Int) × Unit => Sieve__take p.1 p.2.1) (fun _ z => (u_20.1, z)) (fun r : (Unit × (List Int) × Unit) × ((List (List Int)) × OSieve) => [.ow (.imm (D.frl ((script).map D.int))), .ow (.lst ((draws_1).map fun x => .imm (D.int x))), .ow (.imm (D.lst ((j_16).map D.int))), .un, .un, .ow (.lst ((u_20.2.2).map fun x => .imm ((fun xs : (List Int) => D.lst (xs.map D.int)) x))), .un, .un, .un, .un, .ow (.imm (D.lst ((u_19.1).map (fun xs : (List Int) => D.lst (xs.map D.int))))), .ow (.imm (D.tup ((u_19.2.1).map D.int))), .ow (.imm (D.int u_19.2.2)), .ow (eSieve r.2.2), .ow (eSieve u_20.2.1), .un, .un, .un]) (ok_Sieve__take Tx) (hr.mono (by decide)) ⟨Tx.gc_Sieve, Tx.cl_Sieve⟩ Tx.h_Sieve__take Tx.b_Sieve__take (takes_of rfl rfl rfl rfl) (dp_var (ea := eSieve) (x0 := u_20.1) 13 rfl rfl) rfl rfl (dam_dd (ec := (fun xs : (List Int) => D.lst (xs.map D.int))) (dd_list (ε := D.int) (df_listL (ei := D.int) (dl_imm (ei := D.int) (dd_var (emb := (fun xs : (List Int) => D.lst (xs.map D.int))) 2 rfl)) Tx.b_list)) dam_nil) (fun _ _ => trivial) (fun _ => nd_one _) (fun _ _ => rfl) (fun _ _ _ _ _ => rfl) (fun _ => rfl) (by decide) (by exact star_cons rfl) (by exact star_none rfl) _) (fun _ => fz_list _) (fun _ => (de_dl (ei := (fun xs : (List Int) => D.lst (xs.map D.int))) (dl_imm (ei := (fun xs : (List Int) => D.lst (xs.map D.int))) (dd_var (emb := (fun xs : (List (List Int)) => D.lst (xs.map (fun xs : (List Int) => D.lst (xs.map D.int))))) 10 rfl))))) (fun c_21 => (dw_or (dt_ne (ea := (fun xs : (List Int) => D.tup (xs.map D.int))) (eb := (fun xs : (List Int) => D.tup (xs.map D.int))) hr.units (de_dd (dd_co (dd_imm (df_methL0 (g := fun p : OSieve × Unit => Sieve__told p.1) (fun y => (y, ())) (ok_Sieve__told Tx) (hr.mono (by decide)) ⟨Tx.gc_Sieve, Tx.cl_Sieve⟩ Tx.h_Sieve__told Tx.b_Sieve__told (takes_of rfl rfl rfl rfl) (db_see (emb := eSieve) (x := c_21.2.2) 13 rfl rfl) (fun _ => rfl) (by decide) (fun _ => rfl) _)) (fun p : (Int × Int × Int) => [p.1, p.2.1, p.2.2]))) (de_dd (dd_var (emb := (fun xs : (List Int) => D.tup (xs.map D.int))) 11 rfl))) (dw_one (dt_neI (dd_imm (df_methL0 (g := fun p : OSieve × Unit => Sieve__held p.1) (fun y => (y, ())) (ok_Sieve__held Tx) (hr.mono (by decide)) ⟨Tx.gc_Sieve, Tx.cl_Sieve⟩ Tx.h_Sieve__held Tx.b_Sieve__held (takes_of rfl rfl rfl rfl) (db_see (emb := eSieve) (x := c_21.2.2) 13 rfl rfl) (fun _ => rfl) (by decide) (fun _ => rfl) _)) (dd_var (emb := D.int) 12 rfl)) (by first | exact .inl rfl | exact .inr rfl)))))) (fun c_21 => bk_ret (df_of_dd dd_bl) (g := fun r => r) (fun _ => rfl) trivial trivial) (fun c_21 => bk_cons (st_set 4 (df_of_dd dd_int) trivial rfl sc_law.nd) fun at_22 => bk_consX (Γ1 := fun s_23 : Int × (List (List Int)) × OSieve => [.ow (.imm (D.frl ((script).map D.int))), .ow (.lst ((draws_1).map fun x => .imm (D.int x))), .ow (.imm (D.lst ((j_16).map D.int))), .un, .ow (.imm (D.int s_23.1)), .ow (.lst ((s_23.2.1).map fun x => .imm ((fun xs : (List Int) => D.lst (xs.map D.int)) x))), .un, .un, .un, .un, .ow (.imm (D.lst ((u_19.1).map (fun xs : (List Int) => D.lst (xs.map D.int))))), .ow (.imm (D.tup ((u_19.2.1).map D.int))), .ow (.imm (D.int u_19.2.2)), .ow (eSieve c_21.2.2), .ow (eSieve s_23.2.2), .un, .un, .un]) (st_rr (st_for (Γs := fun s_23 : Int × (List (List Int)) × OSieve => [.ow (.imm (D.frl ((script).map D.int))), .ow (.lst ((draws_1).map fun x => .imm (D.int x))), .ow (.imm (D.lst ((j_16).map D.int))), .un, .ow (.imm (D.int s_23.1)), .ow (.lst ((s_23.2.1).map fun x => .imm ((fun xs : (List Int) => D.lst (xs.map D.int)) x))), .un, .un, .un, .un, .ow (.imm (D.lst ((u_19.1).map (fun xs : (List Int) => D.lst (xs.map D.int))))), .ow (.imm (D.tup ((u_19.2.1).map D.int))), .ow (.imm (D.int u_19.2.2)), .ow (eSieve c_21.2.2), .ow (eSieve s_23.2.2), .un, .un, .un]) (ei := D.int) (at_22, u_20.2.2, u_20.2.1) (passes_of rfl) rfl (di_range1 dd_int Tx.b_range) (fun s_23 x_24 => (dg_name 3 sc_law.nd)) (fun s_23 x_24 => bk_cons (st_set 15 (df_of_dd (dd_modC (dd_intI (dd_ixL (ei := D.int) (dl_own (ei := D.int) (db_var (emb := (fun xs : (List Int) => T.lst (xs.map fun x => T.imm (D.int x)))) 1 rfl)) (dd_add dd_int (dd_modC (dd_var (emb := D.int) 3 rfl) dd_int (by decide)))) Tx.b_int) dd_int (by decide))) trivial rfl sc_law.nd) fun step_25 => bk_freezeL (ei := (fun xs : (List Int) => D.lst (xs.map D.int))) 5 rfl (bk_cons (st_setX 5 (dx_cat (ei := (fun xs : (List Int) => D.lst (xs.map D.int))) (fun y : (Unit × (List Int) × Unit) × ((List (List Int)) × OSieve) => y.2.1) (dd_var (emb := (fun xs : (List (List Int)) => D.lst (xs.map (fun xs : (List Int) => D.lst (xs.map D.int))))) 5 rfl) (dx_methG (g := fun p : OSieve × (List Int) × Unit => Sieve__take p.1 p.2.1) (fun _ z => (s_23.2.2, z)) (fun r : (Unit × (List Int) × Unit) × ((List (List Int)) × OSieve) => [.ow (.imm (D.frl ((script).map D.int))), .ow (.lst ((draws_1).map fun x => .imm (D.int x))), .ow (.imm (D.lst ((j_16).map D.int))), .ow (.imm (D.int x_24)), .ow (.imm (D.int s_23.1)), .ow (.imm (D.lst ((s_23.2.1).map (fun xs : (List Int) => D.lst (xs.map D.int))))), .un, .un, .un, .un, .ow (.imm (D.lst ((u_19.1).map (fun xs : (List Int) => D.lst (xs.map D.int))))), .ow (.imm (D.tup ((u_19.2.1).map D.int))), .ow (.imm (D.int u_19.2.2)), .ow (eSieve c_21.2.2), .ow (eSieve r.2.2), .ow (.imm (D.int step_25)), .un, .un]) (ok_Sieve__take Tx) (hr.mono (by decide)) ⟨Tx.gc_Sieve, Tx.cl_Sieve⟩ Tx.h_Sieve__take Tx.b_Sieve__take (takes_of rfl rfl rfl rfl) (dp_var (ea := eSieve) (x0 := s_23.2.2) 14 rfl rfl) rfl rfl (dam_dd (ec := (fun xs : (List Int) => D.lst (xs.map D.int))) (dd_list (ε := D.int) (df_slL (ei := D.int) (dl_imm (ei := D.int) (dd_var (emb := (fun xs : (List Int) => D.lst (xs.map D.int))) 2 rfl)) (do_some (dd_var (emb := D.int) 4 rfl)) (do_some (dd_add (dd_var (emb := D.int) 4 rfl) (dd_var (emb := D.int) 15 rfl))))) dam_nil) (fun _ _ => trivial) (fun _ => nd_one _) (fun _ _ => rfl) (fun _ _ _ _ _ => rfl) (fun _ => rfl) (by decide) (by exact star_cons rfl) (by exact star_none rfl) _)) trivial (fun _ => rfl) sc_law.nd) fun read_26 => bk_as [.ow (.imm (D.frl ((script).map D.int))), .ow (.lst ((draws_1).map fun x => .imm (D.int x))), .ow (.imm (D.lst ((j_16).map D.int))), .ow (.imm (D.int x_24)), .ow (.imm (D.int s_23.1)), .ow (.lst ((read_26.2).map fun x => .imm ((fun xs : (List Int) => D.lst (xs.map D.int)) x))), .un, .un, .un, .un, .ow (.imm (D.lst ((u_19.1).map (fun xs : (List Int) => D.lst (xs.map D.int))))), .ow (.imm (D.tup ((u_19.2.1).map D.int))), .ow (.imm (D.int u_19.2.2)), .ow (eSieve c_21.2.2), .ow (eSieve read_26.1.2.2), .ow (.imm (D.int step_25)), .un, .un] rfl (bk_cons (st_set 4 (df_of_dd (dd_two_ints (f := fun x y => if y < x then y else x) (call_min2 rfl) (dd_lenL (ei := D.int) (dl_imm (ei := D.int) (dd_var (emb := (fun xs : (List Int) => D.lst (xs.map D.int))) 2 rfl)) Tx.b_len) (dd_add (dd_var (emb := D.int) 4 rfl) (dd_var (emb := D.int) 15 rfl)) Tx.b_min (by decide +kernel))) trivial rfl sc_law.nd) fun at_27 => bk_ifX (dt_gt (dd_imm (df_methL0 (g := fun p : OSieve × Unit => Sieve__held p.1) (fun y => (y, ())) (ok_Sieve__held Tx) (hr.mono (by decide)) ⟨Tx.gc_Sieve, Tx.cl_Sieve⟩ Tx.h_Sieve__held Tx.b_Sieve__held (takes_of rfl rfl rfl rfl) (db_see (emb := eSieve) (x := read_26.1.2.2) 14 rfl rfl) (fun _ => rfl) (by decide) (fun _ => rfl) _)) dd_int) (bk_ret (df_of_dd dd_bl) (g := fun r => Lo.ex (r)) (fun _ => rfl) trivial trivial) (bk_nil (o := (Lo.nx (at_27, read_26.2, read_26.1.2.2))) rfl ⟨rfl, rfl, rfl, rfl, rfl, rfl, rfl, rfl, rfl, rfl, trivial⟩) trivial))) ⟨rfl, rfl, rfl, rfl, rfl, rfl, rfl, rfl, rfl, rfl, trivial⟩ trivial)) fun s_28 => bk_freezeL (ei := (fun xs : (List Int) => D.lst (xs.map D.int))) 5 rfl (bk_cons (st_setX 5 (dx_cat (ei := (fun xs : (List Int) => D.lst (xs.map D.int))) (fun y : (Unit × (List Int) × Unit) × ((List (List Int)) × OSieve) => y.2.1) (dd_var (emb := (fun xs : (List (List Int)) => D.lst (xs.map (fun xs : (List Int) => D.lst (xs.map D.int))))) 5 rfl) (dx_methG (g := fun p : OSieve × (List Int) × Unit => Sieve__take p.1 p.2.1) (fun _ z => (s_28.2.2, z)) (fun r : (Unit × (List Int) × Unit) × ((List (List Int)) × OSieve) => [.ow (.imm (D.frl ((script).map D.int))), .ow (.lst ((draws_1).map fun x => .imm (D.int x))), .ow (.imm (D.lst ((j_16).map D.int))), .un, .ow (.imm (D.int s_28.1)), .ow (.imm (D.lst ((s_28.2.1).map (fun xs : (List Int) => D.lst (xs.map D.int))))), .un, .un, .un, .un, .ow (.imm (D.lst ((u_19.1).map (fun xs : (List Int) => D.lst (xs.map D.int))))), .ow (.imm (D.tup ((u_19.2.1).map D.int))), .ow (.imm (D.int u_19.2.2)), .ow (eSieve c_21.2.2), .ow (eSieve r.2.2), .un, .un, .un]) (ok_Sieve__take Tx) (hr.mono (by decide)) ⟨Tx.gc_Sieve, Tx.cl_Sieve⟩ Tx.h_Sieve__take Tx.b_Sieve__take (takes_of rfl rfl rfl rfl) (dp_var (ea := eSieve) (x0 := s_28.2.2) 14 rfl rfl) rfl rfl (dam_dd (ec := (fun xs : (List Int) => D.lst (xs.map D.int))) (dd_list (ε := D.int) (df_slL (ei := D.int) (dl_imm (ei := D.int) (dd_var (emb := (fun xs : (List Int) => D.lst (xs.map D.int))) 2 rfl)) (do_some (dd_var (emb := D.int) 4 rfl)) do_none)) dam_nil) (fun _ _ => trivial) (fun _ => nd_one _) (fun _ _ => rfl) (fun _ _ _ _ _ => rfl) (fun _ => rfl) (by decide) (by exact star_cons rfl) (by exact star_none rfl) _)) trivial (fun _ => rfl) sc_law.nd) fun read_29 => bk_as [.ow (.imm (D.frl ((script).map D.int))), .ow (.lst ((draws_1).map fun x => .imm (D.int x))), .ow (.imm (D.lst ((j_16).map D.int))), .un, .ow (.imm (D.int s_28.1)), .ow (.lst ((read_29.2).map fun x => .imm ((fun xs : (List Int) => D.lst (xs.map D.int)) x))), .un, .un, .un, .un, .ow (.imm (D.lst ((u_19.1).map (fun xs : (List Int) => D.lst (xs.map D.int))))), .ow (.imm (D.tup ((u_19.2.1).map D.int))), .ow (.imm (D.int u_19.2.2)), .ow (eSieve c_21.2.2), .ow (eSieve read_29.1.2.2), .un, .un, .un] rfl (bk_ifX (dt_dw (dw_or (dt_ne (ea := (fun xs : (List (List Int)) => D.lst (xs.map (fun xs : (List Int) => D.lst (xs.map D.int))))) (eb := (fun xs : (List (List Int)) => D.lst (xs.map (fun xs : (List Int) => D.lst (xs.map D.int))))) hr.units (de_dl (ei := (fun xs : (List Int) => D.lst (xs.map D.int))) (dl_own (ei := (fun xs : (List Int) => D.lst (xs.map D.int))) (db_var (emb := (fun xs : (List (List Int)) => T.lst (xs.map fun x => T.imm ((fun xs : (List Int) => D.lst (xs.map D.int)) x)))) 5 rfl))) (de_dl (ei := (fun xs : (List Int) => D.lst (xs.map D.int))) (dl_imm (ei := (fun xs : (List Int) => D.lst (xs.map D.int))) (dd_var (emb := (fun xs : (List (List Int)) => D.lst (xs.map (fun xs : (List Int) => D.lst (xs.map D.int))))) 10 rfl)))) (dw_or (dt_ne (ea := (fun xs : (List Int) => D.tup (xs.map D.int))) (eb := (fun xs : (List Int) => D.tup (xs.map D.int))) hr.units (de_dd (dd_co (dd_imm (df_methL0 (g := fun p : OSieve × Unit => Sieve__told p.1) (fun y => (y, ())) (ok_Sieve__told Tx) (hr.mono (by decide)) ⟨Tx.gc_Sieve, Tx.cl_Sieve⟩ Tx.h_Sieve__told Tx.b_Sieve__told (takes_of rfl rfl rfl rfl) (db_see (emb := eSieve) (x := read_29.1.2.2) 14 rfl rfl) (fun _ => rfl) (by decide) (fun _ => rfl) _)) (fun p : (Int × Int × Int) => [p.1, p.2.1, p.2.2]))) (de_dd (dd_var (emb := (fun xs : (List Int) => D.tup (xs.map D.int))) 11 rfl))) (dw_one (dt_neI (dd_imm (df_methL0 (g := fun p : OSieve × Unit => Sieve__held p.1) (fun y => (y, ())) (ok_Sieve__held Tx) (hr.mono (by decide)) ⟨Tx.gc_Sieve, Tx.cl_Sieve⟩ Tx.h_Sieve__held Tx.b_Sieve__held (takes_of rfl rfl rfl rfl) (db_see (emb := eSieve) (x := read_29.1.2.2) 14 rfl rfl) (fun _ => rfl) (by decide) (fun _ => rfl) _)) (dd_var (emb := D.int) 12 rfl)) (by first | exact .inl rfl | exact .inr rfl))))) (bk_ret (df_of_dd dd_bl) (g := fun r => r) (fun _ => rfl) trivial trivial) (bk_as [.ow (.imm (D.frl ((script).map D.int))), .ow (.lst ((draws_1).map fun x => .imm (D.int x))), .ow (.imm (D.lst ((j_16).map D.int))), .un, .ow (.imm (D.int s_28.1)), .ow (.lst ((read_29.2).map fun x => .imm ((fun xs : (List Int) => D.lst (xs.map D.int)) x))), .un, .un, .un, .un, .ow (.imm (D.lst ((u_19.1).map (fun xs : (List Int) => D.lst (xs.map D.int))))), .ow (.imm (D.tup ((u_19.2.1).map D.int))), .ow (.imm (D.int u_19.2.2)), .ow (eSieve c_21.2.2), .ow (eSieve read_29.1.2.2), .un, .un, .un] rfl (bk_cons (st_set 6 (df_cat (ei := D.int) (dlt_own (ei := D.int) (db_of_df (df_lc (put := fun c_31 : Int => [.ow (.imm (D.frl ((script).map D.int))), .ow (.lst ((draws_1).map fun x => .imm (D.int x))), .ow (.imm (D.lst ((j_16).map D.int))), .un, .ow (.imm (D.int s_28.1)), .ow (.lst ((read_29.2).map fun x => .imm ((fun xs : (List Int) => D.lst (xs.map D.int)) x))), .un, .un, .un, .un, .ow (.imm (D.lst ((u_19.1).map (fun xs : (List Int) => D.lst (xs.map D.int))))), .ow (.imm (D.tup ((u_19.2.1).map D.int))), .ow (.imm (D.int u_19.2.2)), .ow (eSieve c_21.2.2), .ow (eSieve read_29.1.2.2), .un, .un, .ow (.imm (D.int c_31))]) (N' := ["script", "draws", "stream", "k", "at", "read", "packet", "octets", "last", "foreign", "found", "told", "held", "one", "other", "step", "value", "octet"]) (sc' := defScope s_law) (ei := D.int) (et := fun y => .imm (D.int y)) [("octet", 17)] rfl sc_law.nd (di_list (ei := D.int) (dd_list (ε := D.int) (df_call (ok__law_octets Tx) (hr.mono (by decide)) Tx.g__law_octets Tx.F__law_octets.kp Tx.b__law_octets (takes_of rfl rfl rfl rfl) (da_cons (ea := (fun xs : (List Int) => D.lst (xs.map D.int))) (dd_list (ε := D.int) (df_slL (ei := D.int) (dl_own (ei := D.int) (db_var (emb := (fun xs : (List Int) => T.lst (xs.map fun x => T.imm (D.int x)))) 1 rfl)) (do_some dd_int) (do_some dd_int))) (da_cons (dd_add dd_int (dd_modC (dd_intI (dd_ixL (ei := D.int) (dl_own (ei := D.int) (db_var (emb := (fun xs : (List Int) => T.lst (xs.map fun x => T.imm (D.int x)))) 1 rfl)) dd_int) Tx.b_int) dd_int (by decide))) da_nil))))) (by exact ⟨rfl, rfl, rfl, rfl, rfl, rfl, rfl, rfl, rfl, rfl, trivial⟩) (fun _ _ _ _ _ c_31 => (dgc_name 17 sc_law.nd)) (fun _ _ _ _ _ c_31 => (dts_one (dt_ninT (dd_var (emb := D.int) 17 rfl) (dd_tup (et := (fun xs : (List Int) => D.tup (xs.map D.int))) (da_cons dd_int (da_cons dd_int da_nil)) (fun p : Int × Int × Unit => ([p.1, p.2.1] : (List Int))))))) (fun _ _ _ _ _ c_31 => df_of_dd (dd_var (emb := D.int) 17 rfl))))) (dlt_own (ei := D.int) (db_of_df (df_disp (ei := D.int) (da_cons dd_int da_nil) (fun p : Int × Unit => ([p.1] : List Int)))))) trivial rfl sc_law.nd) fun packet_30 => bk_freezeL (ei := D.int) 6 rfl (bk_cons (st_set 7 (df_call (ok_frame Tx) (hr.mono (by decide)) Tx.g_frame Tx.F_frame.kp Tx.b_frame (takes_of rfl rfl rfl rfl) (da_cons (ea := (fun xs : (List Int) => D.lst (xs.map D.int))) (dd_var (emb := (fun xs : (List Int) => D.lst (xs.map D.int))) 6 rfl) da_nil)) trivial rfl sc_law.nd) fun octets_33 => bk_cons (st_par2 4 16 (by decide) rfl sc_law.nd (df_of_dd (dd_mod (dd_intI (dd_ixL (ei := D.int) (dl_own (ei := D.int) (db_var (emb := (fun xs : (List Int) => T.lst (xs.map fun x => T.imm (D.int x)))) 1 rfl)) dd_int) Tx.b_int) (dd_lenL (ei := D.int) (dl_imm (ei := D.int) (dd_var (emb := (fun xs : (List Int) => D.lst (xs.map D.int))) 6 rfl)) Tx.b_len))) (df_of_dd (dd_modC (dd_intI (dd_ixL (ei := D.int) (dl_own (ei := D.int) (db_var (emb := (fun xs : (List Int) => T.lst (xs.map fun x => T.imm (D.int x)))) 1 rfl)) dd_int) Tx.b_int) dd_int (by decide))) trivial) fun u_34 => bk_cons (st_set 7 (df_cat (ei := D.int) (dlt_own (ei := D.int) (db_of_df (df_cat (ei := D.int) (dlt_own (ei := D.int) (db_of_df (df_slL (ei := D.int) (dl_own (ei := D.int) (db_var (emb := (fun xs : (List Int) => T.lst (xs.map fun x => T.imm (D.int x)))) 7 rfl)) do_none (do_some (dd_var (emb := D.int) 4 rfl))))) (dlt_own (ei := D.int) (db_of_df (df_disp (ei := D.int) (da_cons (dd_var (emb := D.int) 16 rfl) da_nil) (fun p : Int × Unit => ([p.1] : List Int)))))))) (dlt_own (ei := D.int) (db_of_df (df_slL (ei := D.int) (dl_own (ei := D.int) (db_var (emb := (fun xs : (List Int) => T.lst (xs.map fun x => T.imm (D.int x)))) 7 rfl)) (do_some (dd_add (dd_var (emb := D.int) 4 rfl) dd_int)) do_none)))) trivial rfl sc_law.nd) fun octets_35 => bk_cons (st_setX 8 (dx_make0 (eb := eSieve) (pr := fun _ => []) (fun r : OSieve => r) Tx.mk_Sieve (ok_Sieve____init__ Tx) (hr.mono (by decide)) ⟨Tx.gc_Sieve, Tx.cl_Sieve⟩ Tx.b_Sieve____init__ (takes_of rfl rfl rfl rfl)) trivial (fun _ => rfl) sc_law.nd) fun last_36 => bk_as [.ow (.imm (D.frl ((script).map D.int))), .ow (.lst ((draws_1).map fun x => .imm (D.int x))), .ow (.imm (D.lst ((j_16).map D.int))), .un, .ow (.imm (D.int u_34.1)), .ow (.lst ((read_29.2).map fun x => .imm ((fun xs : (List Int) => D.lst (xs.map D.int)) x))), .ow (.imm (D.lst ((packet_30).map D.int))), .ow (.lst ((octets_35).map fun x => .imm (D.int x))), .ow (eSieve last_36), .un, .ow (.imm (D.lst ((u_19.1).map (fun xs : (List Int) => D.lst (xs.map D.int))))), .ow (.imm (D.tup ((u_19.2.1).map D.int))), .ow (.imm (D.int u_19.2.2)), .ow (eSieve c_21.2.2), .ow (eSieve read_29.1.2.2), .un, .ow (.imm (D.int u_34.2)), .un] rfl (bk_freezeL (ei := D.int) 7 rfl (bk_retX (dx_and (Γ' := fun c_37 : (Unit × (List Int) × Unit) × ((List (List Int)) × OSieve) => [.ow (.imm (D.frl ((script).map D.int))), .ow (.lst ((draws_1).map fun x => .imm (D.int x))), .ow (.imm (D.lst ((j_16).map D.int))), .un, .ow (.imm (D.int u_34.1)), .ow (.lst ((read_29.2).map fun x => .imm ((fun xs : (List Int) => D.lst (xs.map D.int)) x))), .ow (.imm (D.lst ((packet_30).map D.int))), .ow (.imm (D.lst ((octets_35).map D.int))), .ow (eSieve c_37.2.2), .un, .ow (.imm (D.lst ((u_19.1).map (fun xs : (List Int) => D.lst (xs.map D.int))))), .ow (.imm (D.tup ((u_19.2.1).map D.int))), .ow (.imm (D.int u_19.2.2)), .ow (eSieve c_21.2.2), .ow (eSieve read_29.1.2.2), .un, .ow (.imm (D.int u_34.2)), .un]) (n := fun c_37 : (Unit × (List Int) × Unit) × ((List (List Int)) × OSieve) => ((R.ok c_37.2.2 >>= fun y => (Sieve__told y)) >>= fun x => ((R.ok (1 : Int) >>= fun x => (((R.ok u_34.2 >>= fun x => (R.ok packet_30 >>= fun xs => R.ok u_34.1 >>= fun i => ofO (atI xs i)) >>= fun y => .ok (!decide (x = y))) >>= fun b => .ok (if b then 1 else 0)) >>= fun x => (R.ok (0 : Int) >>= fun x => R.ok () >>= fun y => .ok (x, y)) >>= fun y => .ok (x, y)) >>= fun y => .ok (x, y)) >>= fun p => .ok ((fun p : Int × Int × Int × Unit => ((p.1, p.2.1, p.2.2.1) : (Int × Int × Int))) p)) >>= fun y => ofO ((eqO (D.tup [D.int x.1, D.int x.2.1, D.int x.2.2]) (D.tup [D.int y.1, D.int y.2.1, D.int y.2.2])).map (false != ·)))) (dx_eq (Γ' := fun c_37 : (Unit × (List Int) × Unit) × ((List (List Int)) × OSieve) => [.ow (.imm (D.frl ((script).map D.int))), .ow (.lst ((draws_1).map fun x => .imm (D.int x))), .ow (.imm (D.lst ((j_16).map D.int))), .un, .ow (.imm (D.int u_34.1)), .ow (.lst ((read_29.2).map fun x => .imm ((fun xs : (List Int) => D.lst (xs.map D.int)) x))), .ow (.imm (D.lst ((packet_30).map D.int))), .ow (.imm (D.lst ((octets_35).map D.int))), .ow (eSieve c_37.2.2), .un, .ow (.imm (D.lst ((u_19.1).map (fun xs : (List Int) => D.lst (xs.map D.int))))), .ow (.imm (D.tup ((u_19.2.1).map D.int))), .ow (.imm (D.int u_19.2.2)), .ow (eSieve c_21.2.2), .ow (eSieve read_29.1.2.2), .un, .ow (.imm (D.int u_34.2)), .un]) (ea := fun z : (Unit × (List Int) × Unit) × ((List (List Int)) × OSieve) => D.lst ((z.2.1).map (fun xs : (List Int) => D.lst (xs.map D.int)))) (eb := (fun xs : (List (List Int)) => D.lst (xs.map (fun xs : (List Int) => D.lst (xs.map D.int))))) hr.units (dx_methG (g := fun p : OSieve × (List Int) × Unit => Sieve__take p.1 p.2.1) (fun _ z => (last_36, z)) (fun r : (Unit × (List Int) × Unit) × ((List (List Int)) × OSieve) => [.ow (.imm (D.frl ((script).map D.int))), .ow (.lst ((draws_1).map fun x => .imm (D.int x))), .ow (.imm (D.lst ((j_16).map D.int))), .un, .ow (.imm (D.int u_34.1)), .ow (.lst ((read_29.2).map fun x => .imm ((fun xs : (List Int) => D.lst (xs.map D.int)) x))), .ow (.imm (D.lst ((packet_30).map D.int))), .ow (.imm (D.lst ((octets_35).map D.int))), .ow (eSieve r.2.2), .un, .ow (.imm (D.lst ((u_19.1).map (fun xs : (List Int) => D.lst (xs.map D.int))))), .ow (.imm (D.tup ((u_19.2.1).map D.int))), .ow (.imm (D.int u_19.2.2)), .ow (eSieve c_21.2.2), .ow (eSieve read_29.1.2.2), .un, .ow (.imm (D.int u_34.2)), .un]) (ok_Sieve__take Tx) (hr.mono (by decide)) ⟨Tx.gc_Sieve, Tx.cl_Sieve⟩ Tx.h_Sieve__take Tx.b_Sieve__take (takes_of rfl rfl rfl rfl) (dp_var (ea := eSieve) (x0 := last_36) 8 rfl rfl) rfl rfl (dam_dd (ec := (fun xs : (List Int) => D.lst (xs.map D.int))) (dd_var (emb := (fun xs : (List Int) => D.lst (xs.map D.int))) 7 rfl) dam_nil) (fun _ _ => trivial) (fun _ => nd_one _) (fun _ _ => rfl) (fun _ _ _ _ _ => rfl) (fun _ => rfl) (by decide) (by exact star_cons rfl) (by exact star_none rfl) _) (fun _ => fz_list _) (fun c_37 => (de_dl (ei := (fun xs : (List Int) => D.lst (xs.map D.int))) (dl_own (ei := (fun xs : (List Int) => D.lst (xs.map D.int))) (db_of_df (df_disp (ei := (fun xs : (List Int) => D.lst (xs.map D.int))) (da_cons (dd_var (emb := (fun xs : (List Int) => D.lst (xs.map D.int))) 6 rfl) da_nil) (fun p : (List Int) × Unit => ([p.1] : List (List Int))))))))) (fun c_37 => (dd_one (dd_eq (ea := (fun p : (Int × Int × Int) => D.tup [D.int p.1, D.int p.2.1, D.int p.2.2])) (eb := (fun p : (Int × Int × Int) => D.tup [D.int p.1, D.int p.2.1, D.int p.2.2])) hr.units (de_dd (dd_imm (df_methL0 (g := fun p : OSieve × Unit => Sieve__told p.1) (fun y => (y, ())) (ok_Sieve__told Tx) (hr.mono (by decide)) ⟨Tx.gc_Sieve, Tx.cl_Sieve⟩ Tx.h_Sieve__told Tx.b_Sieve__told (takes_of rfl rfl rfl rfl) (db_see (emb := eSieve) (x := c_37.2.2) 8 rfl rfl) (fun _ => rfl) (by decide) (fun _ => rfl) _))) (de_dd (dd_tup (et := (fun p : (Int × Int × Int) => D.tup [D.int p.1, D.int p.2.1, D.int p.2.2])) (da_cons dd_int (da_cons (dd_intB (dd_neI (dd_var (emb := D.int) 16 rfl) (dd_ixL (ei := D.int) (dl_imm (ei := D.int) (dd_var (emb := (fun xs : (List Int) => D.lst (xs.map D.int))) 6 rfl)) (dd_var (emb := D.int) 4 rfl))) Tx.b_int) (da_cons dd_int da_nil))) (fun p : Int × Int × Int × Unit => ((p.1, p.2.1, p.2.2.1) : (Int × Int × Int))))))))) (g := fun x : ((Unit × (List Int) × Unit) × ((List (List Int)) × OSieve)) × Bool => x.2) (fun _ => rfl) (fun _ => trivial) trivial))))) trivial))) trivial))

theorem m_draws (ns : List Int) (hns : ns.length ≤ 63) {n : Nat} (hn : n ≤ 1000000) : ∃ ds, _law_draws ns (n : Int) = .ok ds ∧ ds.length = n ∧ ∀ d ∈ ds, 0 ≤ d ∧ d < 65521 := by
  have happ : ∀ (ds : List Int) (x : Int), (∀ d ∈ ds, 0 ≤ d ∧ d < 65521) → 0 ≤ x ∧ x < 65521 → ∀ d ∈ ds ++ [x], 0 ≤ d ∧ d < 65521 := fun ds x h hx d hd => by
    rcases List.mem_append.mp hd with z | z
    · exact h d z
    · rw [List.mem_singleton.mp z]; exact hx
  unfold _law_draws
  simp only [bind_ok]
  rw [show (63 : Int) = ((63 : Nat) : Int) from rfl, cut_to, List.take_of_length_le hns]
  refine forS_ex (I := fun i s => s.1.length ≤ 60 * i ∧ ∀ d ∈ s.1, 0 ≤ d ∧ d < 65521) ⟨Nat.zero_le _, fun _ z => nomatch z⟩ (fun i hi s q => ?_) fun s q => ?_
  · simp only [rangeO_nat (n := 60) (by decide), show (60 : Int) = ((60 : Nat) : Int) from rfl, ofO_some, bind_ok]
    generalize (if ns[i] < 0 then -ns[i] else ns[i]) = number
    cases decide (1000000000000000000 ≤ number) with
    | true =>
      simp only [if_true]
      have := forS_ex (f := fun (x_9 : Int) (s_8 : (List Int) × Int) => (((R.ok s_8.2 >>= fun x => R.ok (0 : Int) >>= fun y => .ok (decide (y < x))) >>= fun x => if x then (((R.ok s_8.2 >>= fun x => .ok (x % 1009)) >>= fun x => ofO (appO s_8.1 x)) >>= fun draws_11 => ((R.ok s_8.2 >>= fun x => .ok (x / 1009)) >>= fun number_12 => R.ok (draws_11, number_12))) else R.ok (s_8.1, s_8.2)) >>= fun j_10 : (List Int) × Int => R.ok (j_10.1, j_10.2))) (xs := irange 0 ((60 : Nat) : Int)) (s := (s.1, number)) (k := fun s => R.ok s.1) (Q := fun ds : List Int => ds.length ≤ 60 * (i + 1) ∧ ∀ d ∈ ds, 0 ≤ d ∧ d < 65521) (I := fun j t => t.1.length ≤ 60 * i + j ∧ ∀ d ∈ t.1, 0 ≤ d ∧ d < 65521) ⟨q.1, q.2⟩ (fun j hj t qt => by
        rw [irange_lenN] at hj
        simp only [bind_ok]
        cases decide (0 < t.2) with
        | true =>
          simp only [if_true, appO_ok (show t.1.length < 16777216 by omega), ofO_some, bind_ok]
          exact ⟨_, rfl, by rw [List.length_append]; have := qt.1; simp only [List.length_singleton]; omega, happ _ _ qt.2 ⟨Int.emod_nonneg _ (by decide), by omega⟩⟩
        | false =>
          exact ⟨_, rfl, by have := qt.1; show t.1.length ≤ _; omega, qt.2⟩) (fun t qt => ⟨t.1, rfl, by rw [irange_lenN] at qt; have := qt.1; omega, qt.2⟩)
      obtain ⟨ds, e, z⟩ := this
      simp only [bind_ok] at e
      rw [e]
      exact ⟨_, rfl, z⟩
    | false =>
      simp only [Bool.false_eq_true, if_false, appO_ok (show s.1.length < 16777216 by have := q.1; omega), ofO_some, bind_ok]
      exact ⟨_, rfl, by rw [List.length_append]; have := q.1; simp only [List.length_singleton]; omega, happ _ _ q.2 ⟨Int.emod_nonneg _ (by decide), by omega⟩⟩
  · simp only [rangeO_nat (n := n) (by omega), ofO_some, bind_ok]
    refine forS_ex (I := fun i t => t.1.length ≤ 60 * 63 + i ∧ min n i ≤ t.1.length ∧ ∀ d ∈ t.1, 0 ≤ d ∧ d < 65521) ⟨by have := q.1; show s.1.length ≤ _; omega, by omega, q.2⟩ (fun i hi t qt => ?_) fun t qt => ?_
    · rw [irange_lenN] at hi
      cases e : decide ((t.1.length : Int) < (n : Int)) with
      | true =>
        simp only [if_true, appO_ok (show t.1.length < 16777216 by have := qt.1; omega), ofO_some, bind_ok]
        exact ⟨_, rfl, by rw [List.length_append]; have := qt.1; simp only [List.length_singleton]; omega, by rw [List.length_append]; have := qt.2.1; simp only [List.length_singleton]; omega, happ _ _ qt.2.2 ⟨Int.emod_nonneg _ (by decide), by omega⟩⟩
      | false =>
        have := of_decide_eq_false e
        exact ⟨_, rfl, by have := qt.1; show t.1.length ≤ _; omega, by show _ ≤ t.1.length; omega, qt.2.2⟩
    · rw [irange_lenN] at qt
      rw [cut_to]
      exact ⟨_, rfl, by rw [List.length_take]; have := qt.2.1; omega, fun d hd => qt.2.2 d (List.mem_of_mem_take hd)⟩
theorem band1 (b : Nat) : Builtin.bitAnd (b : Int) 1 = ((b % 2 : Nat) : Int) := by rw [PyProof.Rows.bitAnd_m1]; omega
theorem odd_b (b : Nat) : (((b % 2 : Nat) : Int) != 0) = (b % 2 == 1) := by rcases Nat.mod_two_eq_zero_or_one b with y | y <;> rw [y] <;> rfl
theorem half_b (b : Nat) : (b : Int) / 2 ^ (1 : Int).toNat = ((b / 2 : Nat) : Int) := by show (b : Int) / (2 ^ 1) = _; omega
theorem dbl_b {a : Nat} (h : a < 256) : shlO (a : Int) 1 = some ((2 * a : Nat) : Int) := by
  rw [show (1 : Int) = ((1 : Nat) : Int) from rfl, shlO_ok (i := (a : Int)) (by omega) (by omega) (by decide)]
  rw [show (a : Int) * 2 ^ 1 = ((2 * a : Nat) : Int) by omega]
theorem bx285 (a : Nat) : Builtin.bitXor (a : Int) 285 = ((a ^^^ 285 : Nat) : Int) := bx a 285
theorem xt_big {a : Nat} (h : a < 256) : (Builtin.bitAnd ((2 * a : Nat) : Int) 256 != 0) = Nat.ble 128 a := by
  rw [show (256 : Int) = ((256 : Nat) : Int) from rfl, band_nat]
  have := allB_of (p := fun a => (((2 * a) &&& 256 != 0) == Nat.ble 128 a)) (n := 256) (by decide +kernel) a h
  have e := eq_of_beq this
  rw [← e]
  show (!(((2 * a &&& 256 : Nat) : Int) == ((0 : Nat) : Int))) = !(_ == _)
  congr 1
  rw [Bool.eq_iff_iff, beq_iff_eq, beq_iff_eq]
  omega
theorem xt_if (a : Nat) : (if Nat.ble 128 a = true then R.ok (((2 * a ^^^ 285 : Nat)) : Int) else R.ok ((2 * a : Nat) : Int)) = R.ok ((xt a : Nat) : Int) := by
  unfold xt
  cases Nat.ble 128 a <;> rfl
theorem pr_if (b p a : Nat) : (if (b % 2 == 1) = true then R.ok ((p ^^^ a : Nat) : Int) else R.ok (p : Int)) = R.ok (((bif b % 2 == 1 then p ^^^ a else p) : Nat) : Int) := by
  cases (b % 2 == 1) <;> rfl
theorem pr_lt {b p a : Nat} (hp : p < 256) (ha : a < 256) : (bif b % 2 == 1 then p ^^^ a else p) < 256 := by
  cases (b % 2 == 1) with
  | true => exact x_lt hp ha
  | false => exact hp
theorem m_mul {a b : Nat} (ha : a < 256) (hb : b < 256) : mul (a : Int) (b : Int) = .ok ((gm a b : Nat) : Int) := by
  unfold mul
  simp only [bind_ok]
  refine whileS_to (I := fun k s => ∃ a' b' p : Nat, s = ((a' : Int), (b' : Int), (p : Int)) ∧ a' < 256 ∧ p < 256 ∧ b' < 2 ^ k ∧ mulN k a' b' p = gm a b) 8 ⟨a, b, 0, rfl, ha, by decide, hb, rfl⟩ fun k s i => ?_
  obtain ⟨a', b', p, e, h1, h2, h3, h4⟩ := i
  subst e
  by_cases z : b' = 0
  · subst z
    left
    rw [mulN_zero] at h4
    exact ⟨rfl, by rw [h4]⟩
  · right
    refine ⟨by show R.ok ((b' : Int) != 0) = _; rw [show ((b' : Int) != 0) = true by rw [bne_iff_ne]; omega], ?_⟩
    cases k with
    | zero => rw [Nat.pow_zero] at h3; omega
    | succ k => exact ⟨_, k, Nat.lt_succ_self k, by simp only [bind_ok, band1, odd_b, dbl_b h1, ofO_some, xt_big h1, bx285, bx, half_b, xt_if, pr_if], xt a', b' / 2, _, rfl, xt_lt h1, pr_lt h2 h1, by rw [Nat.pow_succ] at h3; omega, h4⟩
theorem gp_if (b p a : Nat) : (if (b % 2 == 1) = true then R.ok ((gm p a : Nat) : Int) else R.ok (p : Int)) = R.ok (((bif b % 2 == 1 then gm p a else p) : Nat) : Int) := by
  cases (b % 2 == 1) <;> rfl
theorem gp_step {a b p : Nat} (h1 : a < 256) (h2 : p < 256) : gm (bif b % 2 == 1 then gm p a else p) (gpow (gm a a) (b / 2)) = gm p (gpow a b) := by
  rw [gpow_sq h1]
  rcases Nat.mod_two_eq_zero_or_one b with y | y
  · rw [y]
    show gm p _ = _
    rw [show 2 * (b / 2) = b by omega]
  · rw [y]
    show gm (gm p a) _ = _
    have e3 : gpow a b = gm a (gpow a (2 * (b / 2))) := by
      conv => lhs; rw [show b = 1 + 2 * (b / 2) by omega]
      rw [gpow_add h1]
      show gm (gm 1 a) _ = _
      rw [one_gm h1]
    rw [e3, gm_assoc h2 h1 (gpow_lt h1 _)]
theorem m_power {a : Nat} (ha : a < 256) (n : Nat) : power (a : Int) (n : Int) = .ok ((gpow a n : Nat) : Int) := by
  unfold power
  simp only [bind_ok]
  refine whileS_to (I := fun k s => ∃ a' b' p : Nat, s = ((a' : Int), (b' : Int), (p : Int)) ∧ a' < 256 ∧ p < 256 ∧ b' = k ∧ gm p (gpow a' b') = gpow a n) n ⟨a, n, 1, rfl, ha, by decide, rfl, one_gm (gpow_lt ha n)⟩ fun k s i => ?_
  obtain ⟨a', b', p, e, h1, h2, h3, h4⟩ := i
  subst e
  by_cases z : b' = 0
  · subst z
    left
    rw [show gpow a' 0 = 1 from rfl, gm_one h2] at h4
    exact ⟨rfl, by rw [h4]⟩
  · right
    refine ⟨by show R.ok ((b' : Int) != 0) = _; rw [show ((b' : Int) != 0) = true by rw [bne_iff_ne]; omega], (((gm a' a' : Nat) : Int), ((b' / 2 : Nat) : Int), ((bif b' % 2 == 1 then gm p a' else p : Nat) : Int)), b' / 2, by omega, by simp only [bind_ok, band1, odd_b, m_mul h2 h1, m_mul h1 h1, half_b, gp_if], gm a' a', b' / 2, bif b' % 2 == 1 then gm p a' else p, rfl, gm_lt h1 _, ?_, rfl, ?_⟩
    · cases (b' % 2 == 1) with
      | true => exact gm_lt h2 _
      | false => exact h2
    · rw [gp_step h1 h2, h4]
theorem m_inv0 : inv 0 = .err "ZeroElement" := rfl
theorem m_inv {a : Nat} (ha : a < 256) (h0 : a ≠ 0) : inv (a : Int) = .ok ((ginv a : Nat) : Int) := by
  unfold inv
  simp only [bind_ok]
  rw [if_neg (by rw [decide_eq_true_iff]; omega), show (254 : Int) = ((254 : Nat) : Int) from rfl, m_power ha]
  rfl
theorem m_div0 (a : Int) : div a 0 = .err "ZeroElement" := rfl
theorem m_div {a b : Nat} (ha : a < 256) (hb : b < 256) (h0 : b ≠ 0) : div (a : Int) (b : Int) = .ok ((gm a (ginv b) : Nat) : Int) := by
  unfold div
  simp only [bind_ok, m_inv hb h0, m_mul ha (ginv_lt hb)]
abbrev I (xs : List Nat) : List Int := xs.map fun n : Nat => (n : Int)
theorem i_len (xs : List Nat) : (I xs).length = xs.length := List.length_map _
theorem at_I {xs : List Nat} {i : Nat} (h : i < xs.length) : atI (I xs) (i : Int) = some ((xs[i] : Nat) : Int) := by
  rw [atI_nat' (by rw [i_len]; exact h), List.getElem_map]
theorem ixN_nat' {n j : Nat} (hj : j < n) : ixN n (j : Int) = some j := by
  unfold ixN
  rw [if_pos (by omega), if_pos (by omega)]
  rfl
theorem set_I {xs : List Nat} {i v : Nat} (h : i < xs.length) : setO (I xs) (i : Int) (v : Int) = some (I (xs.set i v)) := by
  unfold setO
  rw [i_len, ixN_nat' h, I, I, List.map_set]
  rfl
theorem I_inj {xs ys : List Nat} (h : I xs = I ys) : xs = ys := List.map_inj_right (fun a b e => by omega) |>.mp h
theorem I_eq (xs ys : List Nat) : decide (I xs = I ys) = decide (xs = ys) := decide_eq_decide.mpr ⟨I_inj, fun e => congrArg I e⟩
theorem eqI (xs ys : List Nat) : eqO (.lst ((I xs).map D.int)) (.lst ((I ys).map D.int)) = some (decide (xs = ys)) := by rw [eqO_ints, I_eq]
theorem tab8 : ∀ i, i < 8 → atI ([1, 2, 4, 8, 16, 32, 64, 128] : List Int) ((i : Nat) : Int) = some ((2 ^ i : Nat) : Int)
  | 0, _ => rfl
  | 1, _ => rfl
  | 2, _ => rfl
  | 3, _ => rfl
  | 4, _ => rfl
  | 5, _ => rfl
  | 6, _ => rfl
  | 7, _ => rfl
theorem odd_d (b : Nat) : decide ((b : Int) % 2 = 1) = (b % 2 == 1) := by
  rw [Bool.eq_iff_iff, decide_eq_true_iff, beq_iff_eq]; omega
theorem xt_big2 (a : Nat) : decide ((255 : Int) < (a : Int) * 2) = Nat.ble 128 a := by
  rw [Bool.eq_iff_iff, decide_eq_true_iff, Nat.ble_eq]; omega
theorem xt_if2 (a : Nat) : (if Nat.ble 128 a = true then R.ok (Builtin.bitXor ((a : Int) * 2) 285) else R.ok ((a : Int) * 2)) = R.ok ((xt a : Nat) : Int) := by
  rw [show (a : Int) * 2 = ((2 * a : Nat) : Int) by omega, bx285]
  exact xt_if a
theorem m_lmul {a b : Nat} (ha : a < 256) (hb : b < 256) : _law_mul (a : Int) (b : Int) = .ok ((gm a b : Nat) : Int) := by
  unfold _law_mul
  have r8 : rangeO 0 8 = some (irange 0 ((8 : Nat) : Int)) := rangeO_nat (n := 8) (by decide)
  simp only [bind_ok, r8, ofO_some]
  refine forS_to (I := fun k s => ∃ a' p : Nat, s = ((a' : Int), (p : Int)) ∧ a' < 256 ∧ p < 256 ∧ mulN (8 - k) a' (b / 2 ^ k) p = gm a b) ⟨a, 0, rfl, ha, by decide, by rw [Nat.pow_zero, Nat.div_one]; rfl⟩ (fun i hi s q => ?_) fun s q => ?_
  · obtain ⟨a', p, e, h1, h2, h3⟩ := q
    subst e
    have hi8 : i < 8 := by rw [irange_lenN] at hi; exact hi
    have hp : 2 ^ i < 256 := pow_lt8 hi8
    have hp0 : 0 < 2 ^ i := Nat.two_pow_pos i
    rw [irange_ix hi]
    simp only [tab8 i hi8, ofO_some, bind_ok, divO_pos (i := (b : Int)) (show (0 : Int) < ((2 ^ i : Nat) : Int) by omega) (by omega)]
    rw [show (b : Int) / ((2 ^ i : Nat) : Int) = ((b / 2 ^ i : Nat) : Int) from rfl, odd_d, bx, pr_if]
    simp only [bind_ok, xt_big2]
    rw [xt_if2]
    refine ⟨_, rfl, xt a', _, rfl, xt_lt h1, pr_lt h2 h1, ?_⟩
    rw [← h3, show 8 - i = (8 - (i + 1)) + 1 by omega]
    show _ = mulN (8 - (i + 1)) (xt a') (b / 2 ^ i / 2) _
    rw [Nat.pow_succ, Nat.div_div_eq_div_mul]
  · obtain ⟨a', p, e, h1, h2, h3⟩ := q
    subst e
    rw [irange_lenN] at h3
    have h3 : p = gm a b := h3
    rw [h3]
theorem fold_val {f : Int → Int → R Int} {x : Nat} (hf : ∀ v o : Nat, v < 256 → o < 256 → f (o : Int) (v : Int) = .ok ((gm v x ^^^ o : Nat) : Int)) : ∀ (xs : List Nat) (v : Nat), OcN xs → v < 256 → forS f (I xs) (v : Int) = .ok ((valF x xs v : Nat) : Int)
  | [], _, _, _ => rfl
  | o :: xs, v, ho, hv => by
    show forS f ((o : Int) :: I xs) _ = _
    rw [forS_cons, hf v o hv ho.cons.1, bind_ok]
    exact fold_val hf xs _ ho.cons.2 (x_lt (gm_lt hv x) ho.cons.1)
theorem m_value {x : Nat} (hx : x < 256) {xs : List Nat} (h : OcN xs) : value_at (I xs) (x : Int) = .ok ((val x xs : Nat) : Int) := by
  unfold value_at
  simp only [bind_ok]
  show (forS _ (I xs) ((0 : Nat) : Int) >>= _) = _
  rw [fold_val (x := x) (fun v o hv ho => by rw [m_mul hv hx, bind_ok, bind_ok, bx]) xs 0 h (by decide)]
  rfl
def vls (xs : List Nat) : List Nat := [val 1 xs, val 2 xs, val 4 xs, val 8 xs]
theorem pts {x : Int} (h : x ∈ ([1, 2, 4, 8] : List Int)) : ∃ n : Nat, x = (n : Int) ∧ n < 256 := by
  simp only [List.mem_cons, List.not_mem_nil, or_false] at h
  rcases h with z | z | z | z <;> subst z
  · exact ⟨1, rfl, by decide⟩
  · exact ⟨2, rfl, by decide⟩
  · exact ⟨4, rfl, by decide⟩
  · exact ⟨8, rfl, by decide⟩
theorem c_values {xs : List Nat} (h : OcN xs) : compR (fun _ : Int => R.ok true) (fun c : Int => value_at (I xs) c) [1, 2, 4, 8] = .ok (I (vls xs)) := by
  rw [compR_map (fun c => ((val c.toNat xs : Nat) : Int)) (by decide) (fun _ _ => rfl) fun x hx => by
    obtain ⟨n, e, hn⟩ := pts hx
    subst e
    rw [m_value hn h]; rfl]
  rfl
theorem m_values {xs : List Nat} (h : OcN xs) : _values (I xs) = .ok (I (vls xs)) := by
  unfold _values
  simp only [bind_ok, c_values h]
theorem z4 : repO [(0 : Int)] 4 = some (I [0, 0, 0, 0]) := repO_one (x := (0 : Int)) (n := 4) (by decide)
theorem vls_zr (xs : List Nat) : decide (vls xs = [0, 0, 0, 0]) = true ↔ Zr xs := by
  rw [decide_eq_true_iff]
  unfold vls Zr
  simp only [List.cons.injEq, and_true]
theorem catI {xs ys : List Nat} (h : xs.length + ys.length ≤ 16777216) : catO (I xs) (I ys) = some (I (xs ++ ys)) := by
  rw [catO_ok (by rw [i_len, i_len]; exact h)]
  show some (List.map _ xs ++ List.map _ ys) = some (List.map _ (xs ++ ys))
  rw [List.map_append]
theorem div4 : ∀ k, k < 4 → atI ([15, 54, 120, 64] : List Int) ((k : Nat) : Int) = some ((([15, 54, 120, 64] : List Nat).getD k 0 : Nat) : Int)
  | 0, _ => rfl
  | 1, _ => rfl
  | 2, _ => rfl
  | 3, _ => rfl
theorem oc40 : Oc4 (0, 0, 0, 0) := ⟨by decide, by decide, by decide, by decide⟩
theorem m_checked {xs : List Nat} (h : OcN xs) (hl : xs.length ≤ 251) : checked (I xs) = .ok (I (cd xs)) := by
  have r4 : rangeO 0 4 = some (irange 0 ((4 : Nat) : Int)) := rangeO_nat (n := 4) (by decide)
  unfold checked
  simp only [bind_ok, i_len, z4, ofO_some, r4]
  rw [if_neg (by rw [decide_eq_true_iff]; omega)]
  refine forS_to (I := fun i s => s = I (l4 ((xs.take i).foldl stp (0, 0, 0, 0))) ∧ Oc4 ((xs.take i).foldl stp (0, 0, 0, 0))) ⟨rfl, oc40⟩ (fun i hi s q => ?_) fun s q => ?_
  · obtain ⟨e, o⟩ := q
    rw [i_len] at hi
    subst e
    have ht : (xs.take (i + 1)).foldl stp (0, 0, 0, 0) = stp ((xs.take i).foldl stp (0, 0, 0, 0)) xs[i] := by
      rw [List.take_succ_eq_append_getElem hi, List.foldl_append]; rfl
    have ho : xs[i] < 256 := h _ (List.getElem_mem hi)
    rw [ht]
    generalize (xs.take i).foldl stp (0, 0, 0, 0) = r at o ⊢
    obtain ⟨a, b, c, d⟩ := r
    have hf : a ^^^ xs[i] < 256 := x_lt o.1 ho
    simp only [List.getElem_map]
    show ∃ s', (R.ok (Builtin.bitXor (a : Int) ((xs[i] : Nat) : Int)) >>= fun _ => _) = _ ∧ _
    simp only [bx, bind_ok]
    show ∃ s', ((ofO (catO (I [b, c, d]) (I [0])) >>= fun rest => _) : R (List Int)) = _ ∧ _
    rw [catI (by show 3 + 1 ≤ 16777216; decide), ofO_some, bind_ok]
    refine ⟨I (l4 (stp (a, b, c, d) xs[i])), ?_, rfl, o.stp ho⟩
    rw [compR_map (fun k => ((([b, c, d, 0] : List Nat).getD k.toNat 0 ^^^ gm (a ^^^ xs[i]) (([15, 54, 120, 64] : List Nat).getD k.toNat 0) : Nat) : Int)) (by rw [irange_lenN]; decide) (fun _ _ => rfl) fun x hx => ?_, bind_ok]
    · show R.ok (I [b ^^^ gm (a ^^^ xs[i]) 15, c ^^^ gm (a ^^^ xs[i]) 54, d ^^^ gm (a ^^^ xs[i]) 120, 0 ^^^ gm (a ^^^ xs[i]) 64]) = _
      rw [Nat.zero_xor]
      rfl
    · rw [irange_nat] at hx
      obtain ⟨k, hk, e⟩ := List.mem_map.mp hx
      subst e
      have hk : k < 4 := List.mem_range.mp hk
      have e1 : atI (I ([b, c, d] ++ [0])) (k : Int) = some ((([b, c, d, 0] : List Nat).getD k 0 : Nat) : Int) := by
        rw [at_I (xs := [b, c, d] ++ [0]) hk, List.getD_eq_getElem?_getD, List.getElem?_eq_getElem (show k < [b, c, d, 0].length from hk)]; rfl
      have e2 : ([15, 54, 120, 64] : List Nat).getD k 0 < 256 := by
        rcases k with _ | _ | _ | _ | k
        · decide
        · decide
        · decide
        · decide
        · omega
      simp only [e1, div4 k hk, ofO_some, bind_ok, m_mul hf e2, bx]
      rfl
  · obtain ⟨e, o⟩ := q
    rw [i_len, List.take_length] at e o
    subst e
    rw [catI (by show _ + 4 ≤ _; omega)]
    rfl
theorem m_checked_bad {xs : List Nat} (hl : 251 < xs.length) : checked (I xs) = .err "BadFrame" := by
  unfold checked
  simp only [bind_ok, i_len]
  rw [if_pos (decide_eq_true (by omega))]
theorem gm_ne0 {a b : Nat} (ha : a < 256) (hb : b < 256) (h : a ≠ 0) (k : b ≠ 0) : gm a b ≠ 0 := fun z => (gm_eq0 ha hb z).elim h k
theorem m_power_of {a : Nat} (ha : a < 256) (h0 : a ≠ 0) : _power_of (a : Int) = .ok ((lg a : Nat) : Int) := by
  obtain ⟨l1, l2⟩ := lg_ok ha h0
  unfold _power_of
  simp only [bind_ok]
  refine whileS_to (I := fun n s => ∃ k : Nat, s = (((gpow 2 k : Nat) : Int), (k : Int)) ∧ k ≤ lg a ∧ n = lg a - k) (lg a) ⟨0, rfl, Nat.zero_le _, rfl⟩ fun n s q => ?_
  obtain ⟨k, e, h1, h2⟩ := q
  subst e
  by_cases z : gpow 2 k = a
  · left
    have : k = lg a := p2_inj (by omega) l2 (z.trans l1.symm)
    subst this
    exact ⟨by simp only [bind_ok, z, decide_true, Bool.not_true], rfl⟩
  · right
    have hk : k ≠ lg a := fun y => z (y ▸ l1)
    refine ⟨by simp only [bind_ok]; rw [decide_eq_false (fun y => z (by omega))]; rfl, (((gpow 2 (k + 1) : Nat) : Int), ((k + 1 : Nat) : Int)), n - 1, by omega, ?_, k + 1, rfl, by omega, by omega⟩
    have := m_mul (gpow_lt two_lt k) two_lt
    have e2 : mul ((gpow 2 k : Nat) : Int) 2 = .ok ((gpow 2 (k + 1) : Nat) : Int) := this
    simp only [bind_ok, e2, ofO_some]
    rfl
theorem not_good0 {xs : List Nat} (h : val 1 xs = 0) (p : Nat) : ¬ good xs p := fun g => g.1 h
theorem good_inv {xs : List Nat} (ho : OcN xs) {p : Nat} (g : good xs p) : gm (val 2 xs) (ginv (val 1 xs)) = gpow 2 p := by
  have hv := val_lt (x := 1) ho
  rw [g.2.1, gm_assoc hv (gpow_lt two_lt p) (ginv_lt hv), gm_comm (gpow_lt two_lt p) (ginv_lt hv), ← gm_assoc hv (ginv_lt hv) (gpow_lt two_lt p), gm_ginv hv g.1, one_gm (gpow_lt two_lt p)]
theorem inv_good {xs : List Nat} (ho : OcN xs) (h0 : val 1 xs ≠ 0) {q : Nat} (hq : q < 256) (e : gm (val 2 xs) (ginv (val 1 xs)) = q) : val 2 xs = gm (val 1 xs) q := by
  have hv := val_lt (x := 1) ho
  rw [← e, gm_comm (val_lt ho) (ginv_lt hv), ← gm_assoc hv (ginv_lt hv) (val_lt ho), gm_ginv hv h0, one_gm (val_lt ho)]
theorem ix_back {n p : Nat} (h : p < n) : (n : Int) - 1 - (p : Int) = ((n - 1 - p : Nat) : Int) := by omega
theorem flp_get {xs : List Nat} {p : Nat} (h : p < xs.length) : flp xs p = xs.set (xs.length - 1 - p) (xs[xs.length - 1 - p]'(by omega) ^^^ val 1 xs) := by
  unfold flp
  rw [List.getD_eq_getElem?_getD, List.getElem?_eq_getElem (show xs.length - 1 - p < xs.length by omega)]
  rfl
theorem unpV (xs : List Nat) : unp4 (I (vls xs)) = some (((val 1 xs : Nat) : Int), ((val 2 xs : Nat) : Int), ((val 4 xs : Nat) : Int), ((val 8 xs : Nat) : Int)) := rfl
theorem ffb (b : Bool) : (false != b) = b := by cases b <;> rfl
theorem ttb (b : Bool) : (true != b) = !b := by cases b <;> rfl
theorem m_mended {xs : List Nat} (h : OcN xs) : ∃ r : Option (List Nat), mended (I xs) = .ok (r.map I) ∧ Fx xs r := by
  have eqv : eqO (.lst (([((val 1 xs : Nat) : Int), ((val 2 xs : Nat) : Int), ((val 4 xs : Nat) : Int), ((val 8 xs : Nat) : Int)] : List Int).map D.int)) (.lst ((I [0, 0, 0, 0]).map D.int)) = some (decide (vls xs = [0, 0, 0, 0])) := eqI (vls xs) [0, 0, 0, 0]
  have v1 := val_lt (x := 1) h
  have v2 := val_lt (x := 2) h
  unfold mended
  simp only [bind_ok, i_len, m_values h, z4, ofO_some, unpV, eqv, Option.map_some, ffb]
  by_cases hn : Ln xs
  · rw [if_pos (decide_eq_true (by have := hn.1; omega)), bind_ok, decide_eq_true (show (xs.length : Int) ≤ 255 by have := hn.2; omega)]
    simp only [Bool.not_true, Bool.false_eq_true, if_false, bind_ok]
    by_cases hz : Zr xs
    · rw [(vls_zr xs).mpr hz, if_pos rfl]
      exact ⟨some xs, rfl, .inr (.inl ⟨hn, hz, rfl⟩)⟩
    · have : decide (vls xs = [0, 0, 0, 0]) = false := by
        cases e : decide (vls xs = [0, 0, 0, 0]) with
        | false => rfl
        | true => exact absurd ((vls_zr xs).mp e) hz
      rw [this]
      simp only [Bool.not_true, Bool.false_eq_true, if_false, bind_ok]
      by_cases h1 : val 1 xs = 0
      · rw [decide_eq_true (show ((val 1 xs : Nat) : Int) = 0 by omega)]
        exact ⟨none, rfl, .inr (.inr (.inr ⟨hn, hz, fun p _ => not_good0 h1 p, rfl⟩))⟩
      · rw [decide_eq_false (show ¬ ((val 1 xs : Nat) : Int) = 0 by omega)]
        simp only [Bool.not_true, Bool.false_eq_true, if_false, bind_ok]
        by_cases h2 : val 2 xs = 0
        · rw [decide_eq_true (show ((val 2 xs : Nat) : Int) = 0 by omega)]
          exact ⟨none, rfl, .inr (.inr (.inr ⟨hn, hz, fun p _ g => gm_ne0 v1 (gpow_lt two_lt p) h1 (p2_nz p) (g.2.1.symm.trans h2), rfl⟩))⟩
        · rw [decide_eq_false (show ¬ ((val 2 xs : Nat) : Int) = 0 by omega)]
          simp only [Bool.not_true, Bool.false_eq_true, if_false, bind_ok, m_div v2 v1 h1]
          have hq := gm_lt v2 (ginv (val 1 xs))
          have q0 := gm_ne0 v2 (ginv_lt v1) h2 (ginv_ne v1 h1)
          simp only [m_power_of hq q0, bind_ok]
          obtain ⟨l1, l2⟩ := lg_ok hq q0
          have uniq : ∀ p, p < xs.length → good xs p → p = lg (gm (val 2 xs) (ginv (val 1 xs))) := fun p hp g => p2_inj (by have := hn.2; omega) l2 ((good_inv h g).symm.trans l1.symm)
          have e2 := inv_good h h1 (gpow_lt two_lt _) l1.symm
          generalize lg (gm (val 2 xs) (ginv (val 1 xs))) = pl at l1 l2 uniq e2 ⊢
          by_cases hp : pl < xs.length
          · rw [decide_eq_false (show ¬ (xs.length : Int) ≤ (pl : Int) by omega)]
            simp only [Bool.not_true, Bool.false_eq_true, if_false, bind_ok]
            have p4 : power 4 (pl : Int) = _ := m_power (a := 4) (by decide) pl
            have p8 : power 8 (pl : Int) = _ := m_power (a := 8) (by decide) pl
            have m4 := m_mul v1 (gpow_lt (a := 4) (by decide) pl)
            have m8 := m_mul v1 (gpow_lt (a := 8) (by decide) pl)
            simp only [p4, p8, m4, m8, bind_ok]
            by_cases h4 : val 4 xs = gm (val 1 xs) (gpow 4 pl)
            · rw [decide_eq_true (show ((val 4 xs : Nat) : Int) = ((gm (val 1 xs) (gpow 4 pl) : Nat) : Int) by omega)]
              simp only [Bool.not_true, Bool.false_eq_true, if_false, bind_ok]
              by_cases h8 : val 8 xs = gm (val 1 xs) (gpow 8 pl)
              · rw [decide_eq_true (show ((val 8 xs : Nat) : Int) = ((gm (val 1 xs) (gpow 8 pl) : Nat) : Int) by omega)]
                have hb : xs.length - 1 - pl < xs.length := by omega
                simp only [Bool.not_true, Bool.false_eq_true, if_false, bind_ok, ix_back hp, at_I hb, ofO_some, bx, set_I hb]
                refine ⟨some (flp xs pl), ?_, .inr (.inr (.inl ⟨hn, hz, pl, hp, ⟨h1, e2, h4, h8⟩, rfl⟩))⟩
                rw [flp_get hp]
                rfl
              · rw [decide_eq_false (show ¬ ((val 8 xs : Nat) : Int) = ((gm (val 1 xs) (gpow 8 pl) : Nat) : Int) by omega)]
                refine ⟨none, rfl, .inr (.inr (.inr ⟨hn, hz, fun p hp g => ?_, rfl⟩))⟩
                have := uniq p hp g
                subst this
                exact h8 g.2.2.2
            · rw [decide_eq_false (show ¬ ((val 4 xs : Nat) : Int) = ((gm (val 1 xs) (gpow 4 pl) : Nat) : Int) by omega)]
              refine ⟨none, rfl, .inr (.inr (.inr ⟨hn, hz, fun p hp g => ?_, rfl⟩))⟩
              have := uniq p hp g
              subst this
              exact h4 g.2.2.1
          · rw [decide_eq_true (show (xs.length : Int) ≤ (pl : Int) by omega)]
            refine ⟨none, rfl, .inr (.inr (.inr ⟨hn, hz, fun p hp2 g => ?_, rfl⟩))⟩
            have := uniq p hp2 g
            omega
  · refine ⟨none, ?_, .inl ⟨hn, rfl⟩⟩
    by_cases h1 : 4 ≤ xs.length
    · rw [if_pos (decide_eq_true (by omega)), bind_ok, decide_eq_false (show ¬ (xs.length : Int) ≤ 255 from fun z => hn ⟨h1, by omega⟩)]
      rfl
    · rw [if_neg (by rw [decide_eq_true_iff]; omega)]
      rfl
theorem forX_find {α S ω : Type} {Q : ω → Prop} {f : α → S → R (Lo S ω)} : ∀ {xs : List α} {s : S} (J : Nat → S → Prop) (h0 : J 0 s) (h : ∀ i (hi : i < xs.length) s, J i s → (∃ s', f xs[i] s = .ok (.nx s') ∧ J (i + 1) s') ∨ ∃ o, f xs[i] s = .ok (.ex o) ∧ Q o), (∃ s', forX f xs s = .ok (.inl s') ∧ J xs.length s') ∨ ∃ o, forX f xs s = .ok (.inr o) ∧ Q o
  | [], s, J, h0, _ => .inl ⟨s, rfl, h0⟩
  | x :: xs, s, J, h0, h => by
    rcases h 0 (Nat.succ_pos _) s h0 with ⟨s', e, j⟩ | ⟨o, e, q⟩
    · have e : f x s = .ok (.nx s') := e
      have ih := forX_find (f := f) (xs := xs) (s := s') (fun i => J (i + 1)) j fun i hi s js => h (i + 1) (Nat.succ_lt_succ hi) s js
      have : forX f (x :: xs) s = forX f xs s' := by
        show (f x s >>= _) = _
        rw [e]; rfl
      rw [this]
      exact ih
    · have e : f x s = .ok (.ex o) := e
      exact .inr ⟨o, by show (f x s >>= _) = _; rw [e]; rfl, q⟩
theorem forX_mot {α S ω T : Type} {Q : ω → Prop} {Z : R T → Prop} {f : α → S → R (Lo S ω)} {k : S ⊕ ω → R T} {xs : List α} {s : S} {J : Nat → S → Prop} (h0 : J 0 s) (h : ∀ i (hi : i < xs.length) s, J i s → (∃ s', f xs[i] s = .ok (.nx s') ∧ J (i + 1) s') ∨ ∃ o, f xs[i] s = .ok (.ex o) ∧ Q o) (h1 : ∀ s, J xs.length s → Z (k (.inl s))) (h2 : ∀ o, Q o → Z (k (.inr o))) : Z (forX f xs s >>= k) := by
  rcases forX_find (f := f) (xs := xs) (s := s) (Q := Q) J h0 h with ⟨s', e, j⟩ | ⟨o, e, q⟩
  · rw [e]; exact h1 s' j
  · rw [e]; exact h2 o q
theorem forS_mot {α S T : Type} {Z : R T → Prop} {f : α → S → R S} {k : S → R T} {xs : List α} {s : S} {J : Nat → S → Prop} (h0 : J 0 s) (h : ∀ i (hi : i < xs.length) s, J i s → ∃ s', f xs[i] s = .ok s' ∧ J (i + 1) s') (h1 : ∀ s, J xs.length s → Z (k s)) : Z (forS f xs s >>= k) := by
  obtain ⟨s', e, j⟩ := forS_ind (f := f) (xs := xs) (s := s) J h0 h
  rw [e]; exact h1 s' j
theorem m_lvalue {x : Nat} (hx : x < 256) {xs : List Nat} (h : OcN xs) : _law_value (I xs) (x : Int) = .ok ((val x xs : Nat) : Int) := by
  unfold _law_value
  simp only [bind_ok]
  show (forS _ (I xs) ((0 : Nat) : Int) >>= _) = _
  rw [fold_val (x := x) (fun v o hv ho => by rw [m_lmul hv hx, bind_ok, bind_ok, bx]) xs 0 h (by decide)]
  rfl
theorem c_lvalues {xs : List Nat} (h : OcN xs) : compR (fun _ : Int => R.ok true) (fun c : Int => _law_value (I xs) c) [1, 2, 4, 8] = .ok (I (vls xs)) := by
  rw [compR_map (fun c => ((val c.toNat xs : Nat) : Int)) (by decide) (fun _ _ => rfl) fun x hx => by
    obtain ⟨n, e, hn⟩ := pts hx
    subst e
    rw [m_lvalue hn h]; rfl]
  rfl
theorem not_zr {xs : List Nat} (hz : ¬ Zr xs) : decide (vls xs = [0, 0, 0, 0]) = false := by
  cases e : decide (vls xs = [0, 0, 0, 0]) with
  | false => rfl
  | true => exact absurd ((vls_zr xs).mp e) hz
def wv (xs : List Nat) (i : Nat) : List Nat := [gm (val 1 xs) (gpow 1 i), gm (val 1 xs) (gpow 2 i), gm (val 1 xs) (gpow 4 i), gm (val 1 xs) (gpow 8 i)]
theorem wv_good {xs : List Nat} (h : OcN xs) (h0 : val 1 xs ≠ 0) (i : Nat) : wv xs i = vls xs ↔ good xs i := by
  unfold wv vls good
  simp only [List.cons.injEq, and_true, gpow_1, gm_one (val_lt h), true_and]
  exact ⟨fun ⟨a, b, c⟩ => ⟨h0, a.symm, b.symm, c.symm⟩, fun ⟨_, a, b, c⟩ => ⟨a.symm, b.symm, c.symm⟩⟩
theorem pt4 : ∀ k, k < 4 → atI ([1, 2, 4, 8] : List Int) ((k : Nat) : Int) = some ((([1, 2, 4, 8] : List Nat).getD k 0 : Nat) : Int)
  | 0, _ => rfl
  | 1, _ => rfl
  | 2, _ => rfl
  | 3, _ => rfl
theorem m_wstep {xs : List Nat} (h : OcN xs) (i : Nat) : compR (fun _ : Int => R.ok true) (fun c : Int => (ofO (atI (I (wv xs i)) c) >>= fun x => (ofO (atI ([1, 2, 4, 8] : List Int) c) >>= fun x => R.ok (x, ())) >>= fun y => R.ok (x, y)) >>= fun p : Int × Int × Unit => _law_mul p.1 p.2.1) (irange 0 ((4 : Nat) : Int)) = .ok (I (wv xs (i + 1))) := by
  rw [compR_map (fun k => ((gm ((wv xs i).getD k.toNat 0) (([1, 2, 4, 8] : List Nat).getD k.toNat 0) : Nat) : Int)) (by rw [irange_lenN]; decide) (fun _ _ => rfl) fun x hx => ?_]
  · show R.ok (I [gm (gm (val 1 xs) (gpow 1 i)) 1, gm (gm (val 1 xs) (gpow 2 i)) 2, gm (gm (val 1 xs) (gpow 4 i)) 4, gm (gm (val 1 xs) (gpow 8 i)) 8]) = _
    have v1 := val_lt (x := 1) h
    rw [gm_assoc v1 (gpow_lt (by decide) i) (by decide), gm_assoc v1 (gpow_lt (by decide) i) (by decide), gm_assoc v1 (gpow_lt (by decide) i) (by decide), gm_assoc v1 (gpow_lt (by decide) i) (by decide)]
    rfl
  · rw [irange_nat] at hx
    obtain ⟨k, hk, e⟩ := List.mem_map.mp hx
    subst e
    have hk : k < 4 := List.mem_range.mp hk
    have v1 := val_lt (x := 1) h
    have e1 : atI (I (wv xs i)) (k : Int) = some (((wv xs i).getD k 0 : Nat) : Int) := by
      rw [at_I (xs := wv xs i) hk, List.getD_eq_getElem?_getD, List.getElem?_eq_getElem (show k < (wv xs i).length from hk)]; rfl
    have e2 : ([1, 2, 4, 8] : List Nat).getD k 0 < 256 ∧ (wv xs i).getD k 0 < 256 := by
      rcases k with _ | _ | _ | _ | k
      · exact ⟨by decide, gm_lt v1 _⟩
      · exact ⟨by decide, gm_lt v1 _⟩
      · exact ⟨by decide, gm_lt v1 _⟩
      · exact ⟨by decide, gm_lt v1 _⟩
      · omega
    simp only [e1, pt4 k hk, ofO_some, bind_ok, m_lmul e2.2 e2.1]
    rfl
theorem m_lmended {xs : List Nat} (h : OcN xs) (hN : xs.length ≤ 1000000) : ∃ r : Option (List Nat), _law_mended (I xs) = .ok (r.map I) ∧ Fx xs r := by
  have v1 := val_lt (x := 1) h
  have r4 : rangeO 0 4 = some (irange 0 ((4 : Nat) : Int)) := rangeO_nat (n := 4) (by decide)
  have a0 : atI (I (vls xs)) 0 = some ((val 1 xs : Nat) : Int) := rfl
  have z4' : repO [((val 1 xs : Nat) : Int)] 4 = some (I (wv xs 0)) := by
    rw [show repO [((val 1 xs : Nat) : Int)] 4 = some (List.replicate 4 ((val 1 xs : Nat) : Int)) from repO_one (n := 4) (by decide)]
    show some (I [val 1 xs, val 1 xs, val 1 xs, val 1 xs]) = some (I [gm (val 1 xs) 1, gm (val 1 xs) 1, gm (val 1 xs) 1, gm (val 1 xs) 1])
    rw [gm_one v1]
  unfold _law_mended
  simp only [bind_ok, i_len, c_lvalues h, z4, ofO_some, eqI, Option.map_some, ffb, a0, z4', r4, rangeO_nat (show xs.length < 4611686018427387904 by omega)]
  by_cases hn : Ln xs
  · rw [decide_eq_false (show ¬ (xs.length : Int) < 4 by have := hn.1; omega), decide_eq_false (show ¬ (255 : Int) < (xs.length : Int) by have := hn.2; omega)]
    simp only [Bool.false_eq_true, if_false, bind_ok]
    by_cases hz : Zr xs
    · rw [(vls_zr xs).mpr hz, if_pos rfl]
      exact ⟨some xs, rfl, .inr (.inl ⟨hn, hz, rfl⟩)⟩
    · rw [not_zr hz]
      simp only [Bool.false_eq_true, if_false, bind_ok]
      refine forX_mot (Z := fun m => ∃ r : Option (List Nat), m = R.ok (r.map I) ∧ Fx xs r) (Q := fun o => ∃ p, p < xs.length ∧ good xs p ∧ o = some (I (flp xs p))) (J := fun i s => s = I (wv xs i) ∧ ∀ p, p < i → ¬ good xs p) ⟨rfl, fun _ z => absurd z (Nat.not_lt_zero _)⟩ (fun i hi s q => ?_) (fun s q => ?_) (fun o q => ?_)
      · rw [irange_ix hi]
        rw [irange_lenN] at hi
        obtain ⟨e, q⟩ := q
        subst e
        have hb : xs.length - 1 - i < xs.length := by omega
        simp only [eqI, Option.map_some, ffb, ofO_some, bind_ok, ix_back hi, at_I hb, bx, set_I hb, m_wstep h]
        by_cases g : good xs i
        · right
          rw [decide_eq_true ((wv_good h g.1 i).mpr g), decide_eq_true (show (0 : Int) < ((val 1 xs : Nat) : Int) by have := g.1; omega)]
          exact ⟨some (I (flp xs i)), by rw [flp_get hi]; rfl, i, hi, g, rfl⟩
        · left
          have : (if decide (wv xs i = vls xs) = true then R.ok (decide ((0 : Int) < ((val 1 xs : Nat) : Int))) else R.ok false) = R.ok false := by
            by_cases c : wv xs i = vls xs
            · by_cases c0 : val 1 xs = 0
              · rw [c0]; split <;> rfl
              · exact absurd ((wv_good h c0 i).mp c) g
            · rw [decide_eq_false c]; rfl
          rw [this]
          refine ⟨I (wv xs (i + 1)), rfl, rfl, fun p hp => ?_⟩
          by_cases z : p = i
          · rw [z]; exact g
          · exact q p (by omega)
      · refine ⟨none, rfl, .inr (.inr (.inr ⟨hn, hz, fun p hp => q.2 p (by rw [irange_lenN]; exact hp), rfl⟩))⟩
      · obtain ⟨p, hp, g, eo⟩ := q
        refine ⟨some (flp xs p), by rw [eo]; rfl, .inr (.inr (.inl ⟨hn, hz, p, hp, g, rfl⟩))⟩
  · refine ⟨none, ?_, .inl ⟨hn, rfl⟩⟩
    by_cases h1 : 4 ≤ xs.length
    · rw [decide_eq_false (show ¬ (xs.length : Int) < 4 by omega), decide_eq_true (show (255 : Int) < (xs.length : Int) from Int.not_le.mp fun z => hn ⟨h1, by omega⟩)]
      rfl
    · rw [decide_eq_true (show (xs.length : Int) < 4 by omega)]
      rfl
theorem at_d {ds : List Int} (k : Nat) (hk : k < ds.length) : atI ds (k : Int) = some (ds.getD k 0) := by
  rw [atI_nat' hk, List.getD_eq_getElem?_getD, List.getElem?_eq_getElem hk]; rfl
theorem d_bd {ds : List Int} (h : ∀ d ∈ ds, 0 ≤ d ∧ d < 65521) (k : Nat) : 0 ≤ ds.getD k 0 ∧ ds.getD k 0 < 65521 := by
  rw [List.getD_eq_getElem?_getD]
  by_cases c : k < ds.length
  · rw [List.getElem?_eq_getElem c]; exact h _ (List.getElem_mem _)
  · rw [List.getElem?_eq_none (by omega)]; decide
theorem cutL_neg {α : Type} (xs : List α) (n : Nat) (h0 : 0 < n) (h : n ≤ xs.length) : cutL xs none (some (-(n : Int))) = xs.take (xs.length - n) := by
  unfold cutL
  rw [HT.sIx_none, List.drop_zero, Nat.sub_zero]
  have : HT.sIx xs.length xs.length (some (-(n : Int))) = xs.length - n := by
    show (if -(n : Int) < 0 then (-(n : Int) + (xs.length : Int)).toNat else _) = _
    rw [if_pos (by omega)]; omega
  rw [this]
theorem shp (xs : List Int) : SeqAt.shaped (toPy (.lst (xs.map D.int))) = true := by
  have h := eqO_ints xs xs
  unfold eqO at h
  cases e : SeqAt.shaped (toPy (.lst (xs.map D.int))) with
  | true => rfl
  | false => rw [e] at h; cases h
theorem eq_nl (xs : List Int) : eqO .non (.lst (xs.map D.int)) = some false := by
  unfold eqO
  rw [shp]
  rfl
theorem eq_ln (xs : List Int) : eqO (.lst (xs.map D.int)) .non = some false := by
  unfold eqO
  rw [shp]
  rfl
theorem eqOpt (x y : Option (List Nat)) : eqO (eOpt (fun xs : List Int => D.lst (xs.map D.int)) (x.map I)) (eOpt (fun xs : List Int => D.lst (xs.map D.int)) (y.map I)) = some (decide (x = y)) := by
  cases x with
  | none => cases y with
    | none => rfl
    | some y => exact eq_nl (I y)
  | some x => cases y with
    | none => exact eq_ln (I x)
    | some y =>
      show eqO (.lst ((I x).map D.int)) (.lst ((I y).map D.int)) = _
      rw [eqI]
      simp only [Option.some.injEq]
theorem lk57 (o : Nat) : ([(125, 93), (126, 94)] : List (Int × Int)).lookup (o : Int) = if o = 125 then some 93 else if o = 126 then some 94 else none := by
  simp only [List.lookup]
  by_cases h : o = 125
  · subst h; rfl
  · rw [if_neg h, show ((o : Int) == 125) = false from beq_eq_false_iff_ne.mpr (by omega)]
    by_cases k : o = 126
    · subst k; rfl
    · rw [if_neg k, show ((o : Int) == 126) = false from beq_eq_false_iff_ne.mpr (by omega)]
theorem lkm (o : Nat) : ([(93, 125), (94, 126)] : List (Int × Int)).lookup (o : Int) = (mea o).map fun n : Nat => (n : Int) := by
  simp only [List.lookup]
  unfold mea
  by_cases h : o = 93
  · subst h; rfl
  · rw [if_neg h, show ((o : Int) == 93) = false from beq_eq_false_iff_ne.mpr (by omega)]
    by_cases k : o = 94
    · subst k; rfl
    · rw [if_neg k, show ((o : Int) == 94) = false from beq_eq_false_iff_ne.mpr (by omega)]; rfl
theorem take_esc {xs : List Nat} {i : Nat} (h : i < xs.length) : esc (xs.take (i + 1)) = esc (xs.take i) ++ esc1 xs[i] := by
  rw [List.take_succ_eq_append_getElem h]
  unfold esc
  rw [List.flatMap_append, List.flatMap_singleton]
theorem take_esc_len (xs : List Nat) (i : Nat) : (esc (xs.take i)).length ≤ 2 * i := by
  have := (esc_len (xs.take i)).2
  rw [List.length_take] at this
  omega
theorem m_frame {p : List Nat} (ho : OcN p) (h0 : p ≠ []) (hl : p.length ≤ 251) : frame (I p) = .ok (I (frm p)) := by
  have ht : tru (.imm (D.lst ((I p).map D.int))) = some true := by
    cases p with
    | nil => exact absurd rfl h0
    | cons _ _ => rfl
  have hlen : (cd p).length ≤ 255 := by rw [cd_len]; omega
  unfold frame
  simp only [bind_ok, ht, ofO_some, Bool.not_true, Bool.false_eq_true, if_false, m_checked ho hl]
  refine forS_to (I := fun i s => s = I (esc ((cd p).take i))) rfl (fun i hi s q => ?_) fun s q => ?_
  · rw [i_len] at hi
    subst q
    have hb := take_esc_len (cd p) i
    simp only [List.getElem_map, lk57]
    refine ⟨_, ?_, rfl⟩
    rw [take_esc hi]
    unfold esc1
    by_cases h : (cd p)[i] = 125
    · simp only [h, if_true, Option.isSome_some, bind_ok, ofO_some]
      unfold extO
      rw [if_pos (by rw [i_len]; simp only [List.length_cons, List.length_nil]; omega), I, I, List.map_append]; rfl
    · simp only [h, if_false]
      by_cases k : (cd p)[i] = 126
      · simp only [k, if_true, Option.isSome_some, bind_ok, ofO_some]
        unfold extO
        rw [if_pos (by rw [i_len]; simp only [List.length_cons, List.length_nil]; omega), I, I, List.map_append]; rfl
      · simp only [k, if_false, Option.isSome_none, Bool.false_eq_true, bind_ok]
        unfold extO
        rw [if_pos (by rw [i_len]; simp only [List.length_cons, List.length_nil]; omega), I, I, List.map_append]; rfl
  · rw [i_len, List.take_length] at q
    subst q
    have hb := (esc_len (cd p)).2
    have := catI (xs := esc (cd p)) (ys := [126]) (by rw [List.length_singleton]; omega)
    rw [show ([126] : List Int) = I [126] from rfl, this]
    rfl
theorem m_frame_bad {p : List Nat} (hl : 251 < p.length) : frame (I p) = .err "BadFrame" := by
  have ht : tru (.imm (D.lst ((I p).map D.int))) = some true := by
    cases p with
    | nil => cases hl
    | cons _ _ => rfl
  unfold frame
  simp only [bind_ok, ht, ofO_some, Bool.not_true, Bool.false_eq_true, if_false, m_checked_bad hl]
  rfl
theorem m_frame_nil : frame [] = .err "BadFrame" := by
  unfold frame
  simp only [bind_ok]
  rfl
theorem I_cons (o : Nat) (xs : List Nat) : I (o :: xs) = (o : Int) :: I xs := rfl
theorem I_app (xs ys : List Nat) : I (xs ++ ys) = I xs ++ I ys := List.map_append
theorem m_unwritten {xs : List Nat} (hl : xs.length ≤ 1000000) : _unwritten (I xs) = .ok ((un xs).map I) := by
  unfold _unwritten
  simp only [bind_ok, i_len]
  refine whileX_to (I := fun n s => ∃ acc k, s = (I acc, ((k : Nat) : Int)) ∧ k ≤ xs.length ∧ n = xs.length - k ∧ acc.length ≤ k ∧ un xs = (un (xs.drop k)).map (acc ++ ·)) (xs.length) ⟨[], 0, rfl, Nat.zero_le _, rfl, Nat.le_refl 0, by rw [List.drop_zero]; cases un xs <;> rfl⟩ fun n s q => ?_
  obtain ⟨acc, k, e, h1, h2, h3, h4⟩ := q
  subst e
  by_cases hk : k < xs.length
  · right
    have hd : xs.drop k = xs[k] :: xs.drop (k + 1) := List.drop_eq_getElem_cons hk
    refine ⟨by rw [decide_eq_true (show ((k : Nat) : Int) < (xs.length : Int) by omega)], ?_⟩
    simp only [at_I hk, ofO_some, bind_ok]
    by_cases h : xs[k] = 125
    · rw [decide_eq_true (show ((xs[k] : Nat) : Int) = 125 by omega)]
      simp only [if_true, ofO_some, bind_ok]
      by_cases hk2 : k + 1 < xs.length
      · have hd2 : xs.drop (k + 1) = xs[k + 1] :: xs.drop (k + 2) := List.drop_eq_getElem_cons hk2
        rw [h, hd2] at hd
        have ea : atI (I xs) ((k : Int) + 1) = some ((xs[k + 1] : Nat) : Int) := at_I hk2
        rw [hd, un_sign] at h4
        rw [decide_eq_false (show ¬ (k : Int) + 1 = (xs.length : Int) by omega)]
        simp only [Bool.false_eq_true, if_false, ea, ofO_some, bind_ok, lkm]
        cases hm : mea xs[k + 1] with
        | none =>
          right; right
          rw [hm] at h4
          refine ⟨none, rfl, ?_⟩
          rw [h4]; rfl
        | some v =>
          left
          rw [hm] at h4
          have h4 : un xs = ((un (xs.drop (k + 2))).map (v :: ·)).map (acc ++ ·) := h4
          refine ⟨(I (acc ++ [v]), ((k + 2 : Nat) : Int)), xs.length - (k + 2), by omega, ?_, acc ++ [v], k + 2, rfl, by omega, rfl, by rw [List.length_append, List.length_singleton]; omega, ?_⟩
          · simp only [Option.map_some, Option.isSome_some, Bool.not_true, Bool.false_eq_true, if_false, bind_ok, ofO_some, appO_ok (show (I acc).length < 16777216 by rw [i_len]; omega)]
            show sumK _ _ (Sum.inl ((k : Int) + 1, (v : Int))) = _
            simp only [sumK, bind_ok, ofO_some, appO_ok (show (I acc).length < 16777216 by rw [i_len]; omega)]
            rw [I_app]
            rfl
          · rw [h4, Option.map_map]
            congr 1
            funext t
            simp
      · right; right
        have : k + 1 = xs.length := by omega
        rw [decide_eq_true (show (k : Int) + 1 = (xs.length : Int) by omega)]
        refine ⟨none, rfl, ?_⟩
        rw [hd, h, List.drop_eq_nil_of_le (by omega), un_end] at h4
        rw [h4]; rfl
    · left
      rw [decide_eq_false (show ¬ ((xs[k] : Nat) : Int) = 125 by omega)]
      refine ⟨(I (acc ++ [xs[k]]), ((k + 1 : Nat) : Int)), xs.length - (k + 1), by omega, ?_, acc ++ [xs[k]], k + 1, rfl, by omega, rfl, by rw [List.length_append, List.length_singleton]; omega, ?_⟩
      · simp only [Bool.false_eq_true, if_false, bind_ok]
        show sumK _ _ (Sum.inl ((k : Int), ((xs[k] : Nat) : Int))) = _
        simp only [sumK, bind_ok, ofO_some, appO_ok (show (I acc).length < 16777216 by rw [i_len]; omega)]
        rw [I_app]
        rfl
      · rw [h4, hd, un_plain h, Option.map_map]
        congr 1
        funext t
        simp
  · left
    have : k = xs.length := by omega
    refine ⟨by rw [decide_eq_false (show ¬ ((k : Nat) : Int) < (xs.length : Int) by omega)], ?_⟩
    rw [List.drop_eq_nil_of_le (by omega)] at h4
    rw [h4]
    show R.ok (some (I acc)) = .ok (some (I (acc ++ [])))
    rw [List.append_nil]
/-! the sieve -/
abbrev emb (s : SvN) : OSieve := (I s.os, (s.n : Int), [(s.a : Int), (s.b : Int), (s.c : Int)])
theorem m_init : Sieve____init__ () = .ok (emb ⟨[], 0, 0, 0, 0⟩) := rfl
theorem cut_neg4 {xs : List Nat} (h : 4 ≤ xs.length) : cutL (I xs) none (some (-4)) = I (xs.take (xs.length - 4)) := by
  rw [show (-4 : Int) = -((4 : Nat) : Int) from rfl, cutL_neg _ 4 (by decide) (by rw [i_len]; exact h), i_len, I, I, List.map_take]
noncomputable def lk (s : SvN) : Option (List Nat) × SvN := match lookN s.os s.n with
  | none => (none, s)
  | some q => (some q.1, ⟨s.os, s.n, s.a + 1, s.b + (if q.2 then 0 else 1), s.c⟩)
theorem m_look {s : SvN} (ho : OcN s.os) (hl : s.os.length ≤ 510) : Sieve___look (emb s) = .ok ((lk s).1.map I, emb (lk s).2) := by
  unfold Sieve___look Sieve___look_b lk lookN
  simp only [bind_ok, emb]
  by_cases h : 510 < s.n
  · rw [decide_eq_true (show (510 : Int) < (s.n : Int) by omega), if_pos h]
    rfl
  · rw [decide_eq_false (show ¬ (510 : Int) < (s.n : Int) by omega), if_neg h]
    simp only [Bool.false_eq_true, if_false, bind_ok, m_unwritten (xs := s.os) (by omega)]
    cases hu : un s.os with
    | none => rfl
    | some c =>
      have hc : OcN c ∧ c.length ≤ s.os.length := un_oc _ (Nat.le_refl _) ho hu
      simp only [Option.map_some, optK_some, Option.bind_some, i_len]
      by_cases h4 : 4 < c.length ∧ c.length ≤ 255
      · rw [decide_eq_true (show (4 : Int) < (c.length : Int) by omega), if_pos h4]
        simp only [if_true, bind_ok]
        rw [decide_eq_true (show (c.length : Int) ≤ 255 by omega)]
        simp only [Bool.not_true, Bool.false_eq_true, if_false]
        obtain ⟨r, er, fx⟩ := m_mended hc.1
        rw [er, bind_ok, mdN_ok hc.1 fx]
        cases r with
        | none => rfl
        | some r =>
          have hr := fx_len fx
          simp only [Option.map_some, optK_some, eqI, ofO_some, bind_ok, ffb]
          by_cases hs : r = c
          · rw [decide_eq_true hs]
            simp only [show (-4 : Int) = -4 from rfl, cut_neg4 (xs := r) (by omega)]
            rfl
          · rw [decide_eq_false hs]
            simp only [cut_neg4 (xs := r) (by omega)]
            rfl
      · rw [if_neg h4]
        by_cases h5 : 4 < c.length
        · rw [decide_eq_true (show (4 : Int) < (c.length : Int) by omega)]
          simp only [if_true, bind_ok]
          rw [decide_eq_false (show ¬ (c.length : Int) ≤ 255 by omega)]
          rfl
        · rw [decide_eq_false (show ¬ (4 : Int) < (c.length : Int) by omega)]
          rfl
structure SvOk (s : SvN) : Prop where
  oc : OcN s.os
  ln : s.os.length ≤ 510
theorem SvOk.nw (a b c : Nat) : SvOk ⟨[], 0, a, b, c⟩ := ⟨(fun _ z => nomatch z), Nat.zero_le _⟩
theorem SvOk.step {s : SvN} (h : SvOk s) (hn : s.os.length ≤ s.n) {x : Nat} (hx : x < 256) : SvOk (stepN s x).1 ∧ (stepN s x).1.os.length ≤ (stepN s x).1.n ∧ (stepN s x).2.length ≤ 1 := by
  unfold stepN
  by_cases h1 : x = 126
  · rw [if_neg (fun z => z h1)]
    by_cases h2 : s.n = 0
    · rw [if_pos h2]; exact ⟨.nw _ _ _, Nat.le_refl _, Nat.zero_le _⟩
    · rw [if_neg h2]
      cases lookN s.os s.n with
      | none => exact ⟨.nw _ _ _, Nat.le_refl _, Nat.zero_le _⟩
      | some q => exact ⟨.nw _ _ _, Nat.le_refl _, Nat.le_refl _⟩
  · rw [if_pos h1]
    by_cases h2 : s.n + 1 ≤ 510
    · rw [if_pos h2]
      refine ⟨⟨h.oc.app fun d hd => ?_, ?_⟩, ?_, Nat.zero_le _⟩
      · rw [List.mem_singleton.mp hd]; exact hx
      · show (s.os ++ [x]).length ≤ 510; rw [List.length_append, List.length_singleton]; omega
      · show (s.os ++ [x]).length ≤ s.n + 1; rw [List.length_append, List.length_singleton]; omega
    · rw [if_neg h2]
      exact ⟨⟨(fun _ z => nomatch z), Nat.zero_le _⟩, Nat.zero_le _, Nat.zero_le _⟩
theorem run_ok : ∀ {xs : List Nat} {s : SvN}, SvOk s → s.os.length ≤ s.n → OcN xs → SvOk (runV s xs).1 ∧ (runV s xs).1.os.length ≤ (runV s xs).1.n ∧ (runV s xs).2.length ≤ xs.length
  | [], s, h, hn, _ => ⟨h, hn, Nat.le_refl _⟩
  | x :: xs, s, h, hn, ho => by
    obtain ⟨a, b, c⟩ := h.step hn ho.cons.1
    obtain ⟨a', b', c'⟩ := run_ok a b ho.cons.2
    refine ⟨a', b', ?_⟩
    rw [runV]
    show (_ ++ _ : List (List Nat)).length ≤ _
    rw [List.length_append, List.length_cons]; omega
theorem m_take {s : SvN} (h : SvOk s) (hn : s.os.length ≤ s.n) {xs : List Nat} (ho : OcN xs) (hl : xs.length ≤ 1000000) : Sieve__take (emb s) (I xs) = .ok ((runV s xs).2.map I, emb (runV s xs).1) := by
  have key : Sieve__take_b (emb s) (I xs) = .ok ((runV s xs).2.map I, emb (runV s xs).1) := by
    unfold Sieve__take_b
    simp only [bind_ok]
    refine forS_to (I := fun i t => t = (emb (runV s (xs.take i)).1, (runV s (xs.take i)).2.map I)) rfl (fun i hi t q => ?_) fun t q => ?_
    · rw [i_len] at hi
      subst q
      have hop : OcN (xs.take i) := fun d hd => ho d (List.mem_of_mem_take hd)
      have hx : xs[i] < 256 := ho _ (List.getElem_mem hi)
      obtain ⟨a, b, c⟩ := run_ok h hn hop
      rw [List.length_take] at c
      refine ⟨_, ?_, rfl⟩
      rw [List.take_succ_eq_append_getElem hi, runV_app, runV_one]
      generalize (runV s (xs.take i)).1 = u at a b ⊢
      generalize (runV s (xs.take i)).2 = f at c ⊢
      have aoc := a.oc
      have aln := a.ln
      simp only [List.getElem_map]
      by_cases h1 : xs[i] = 126
      · rw [decide_eq_true (show ((xs[i] : Nat) : Int) = 126 by omega)]
        simp only [Bool.not_true, Bool.false_eq_true, if_false]
        by_cases h2 : u.n = 0
        · rw [step_z h1 h2]
          simp only [emb, bind_ok]
          rw [decide_eq_false (show ¬ (0 : Int) < (u.n : Int) by omega)]
          simp only [Bool.false_eq_true, if_false, bind_ok, List.append_nil]
          rfl
        · rw [step_e h1 h2]
          rw [decide_eq_true (show (0 : Int) < (u.n : Int) by omega)]
          simp only [if_true, bind_ok, m_look aoc aln]
          unfold lk
          cases lookN u.os u.n with
          | none =>
            simp only [List.append_nil]
            rfl
          | some q =>
            simp only [Option.map_some, optK_some, bind_ok, appO_ok (show (f.map I).length < 16777216 by rw [List.length_map]; omega), ofO_some, List.map_append]
            rfl
      · rw [step_ne h1, decide_eq_false (show ¬ ((xs[i] : Nat) : Int) = 126 by omega)]
        simp only [Bool.not_false, if_true, emb, bind_ok, ofO_some, List.append_nil]
        by_cases h2 : u.n + 1 ≤ 510
        · rw [if_pos h2, decide_eq_true (show (u.n : Int) + 1 ≤ 510 by omega)]
          simp only [if_true, bind_ok, appO_ok (show (I u.os).length < 16777216 by rw [i_len]; omega), ofO_some]
          show R.ok ((I u.os ++ [((xs[i] : Nat) : Int)], _), _) = R.ok ((I (u.os ++ [xs[i]]), _), _)
          rw [I_app]
          rfl
        · rw [if_neg h2, decide_eq_false (show ¬ (u.n : Int) + 1 ≤ 510 by omega)]
          rfl
    · rw [i_len, List.take_length] at q
      subst q
      rfl
  unfold Sieve__take
  rw [key]
  rfl
theorem m_told (s : SvN) : Sieve__told (emb s) = .ok ((s.a : Int), (s.b : Int), (s.c : Int)) := rfl
theorem m_held (s : SvN) : Sieve__held (emb s) = .ok ((min s.n 511 : Nat) : Int) := by
  unfold Sieve__held
  simp only [bind_ok, emb]
  congr 1
  by_cases h : (510 : Int) + 1 < (s.n : Int)
  · rw [if_pos h]; omega
  · rw [if_neg h]; omega
theorem m_octets (ds : List Int) (h0 : 0 < ds.length) (hl : ds.length ≤ 1000) (hb : ∀ d ∈ ds, 0 ≤ d ∧ d < 65521) {n : Nat} (hn : n ≤ 3000) : ∃ ns, _law_octets ds (n : Int) = .ok (I ns) ∧ ns.length = n ∧ OcN ns := by
  unfold _law_octets
  simp only [bind_ok, rangeO_nat (show n < 4611686018427387904 by omega), ofO_some]
  refine forS_mot (Z := fun m => ∃ ns, m = .ok (I ns) ∧ ns.length = n ∧ OcN ns) (J := fun i s => ∃ ns, s = I ns ∧ ns.length = i ∧ OcN ns) ⟨[], rfl, rfl, (fun _ z => nomatch z)⟩ (fun i hi s q => ?_) (fun s q => ?_)
  · rw [irange_ix hi]
    rw [irange_lenN] at hi
    obtain ⟨ns, e, l, o⟩ := q
    subst e
    rw [mulO_l (by decide), divO_pos (show (0 : Int) < (ds.length : Int) by omega) (by omega)]
    simp only [ofO_some, bind_ok, modO_pos (show (0 : Int) < (ds.length : Int) by omega)]
    obtain ⟨j, ej, hj⟩ : ∃ j : Nat, (7 * (i : Int) + (i : Int) / (ds.length : Int)) % (ds.length : Int) = (j : Int) ∧ j < ds.length := by
      have h1 := Int.emod_nonneg (7 * (i : Int) + (i : Int) / (ds.length : Int)) (show (ds.length : Int) ≠ 0 by omega)
      have h2 := Int.emod_lt_of_pos (7 * (i : Int) + (i : Int) / (ds.length : Int)) (show (0 : Int) < (ds.length : Int) by omega)
      exact ⟨((7 * (i : Int) + (i : Int) / (ds.length : Int)) % (ds.length : Int)).toNat, by omega, by omega⟩
    have hd := d_bd hb j
    rw [ej, at_d j hj]
    simp only [ofO_some, bind_ok, divO_pos (i := ds.getD j 0) (show (0 : Int) < 1 + (i : Int) % 11 by omega) (by omega)]
    obtain ⟨d, ed⟩ : ∃ d : Nat, ds.getD j 0 / (1 + (i : Int) % 11) = (d : Int) := ⟨(ds.getD j 0 / (1 + (i : Int) % 11)).toNat, by
      have := Int.ediv_nonneg hd.1 (show (0 : Int) ≤ 1 + (i : Int) % 11 by omega)
      omega⟩
    rw [ed]
    have hat : ∃ v : Nat, atI ([(d : Int) % 256, 125, 126, 93 + (d : Int) % 2, (d : Int) % 256] : List Int) ((d : Int) / 256 % 5) = some (v : Int) ∧ v < 256 := by
      have c : (d : Int) / 256 % 5 = 0 ∨ (d : Int) / 256 % 5 = 1 ∨ (d : Int) / 256 % 5 = 2 ∨ (d : Int) / 256 % 5 = 3 ∨ (d : Int) / 256 % 5 = 4 := by omega
      rcases c with z | z | z | z | z <;> rw [z]
      · exact ⟨d % 256, rfl, by omega⟩
      · exact ⟨125, rfl, by omega⟩
      · exact ⟨126, rfl, by omega⟩
      · exact ⟨93 + d % 2, rfl, by omega⟩
      · exact ⟨d % 256, rfl, by omega⟩
    obtain ⟨v, ev, hv⟩ := hat
    rw [ev, ofO_some, bind_ok, appO_ok (by rw [i_len]; omega), ofO_some, bind_ok]
    exact ⟨_, rfl, ns ++ [v], (I_app ns [v]).symm, by rw [List.length_append, l]; rfl, o.app fun x hx => by rw [List.mem_singleton.mp hx]; exact hv⟩
  · obtain ⟨ns, e, l, o⟩ := q
    subst e
    exact ⟨ns, rfl, by rw [l, irange_lenN], o⟩
theorem eqLL (x y : List (List Int)) : eqO (.lst (x.map fun xs => D.lst (xs.map D.int))) (.lst (y.map fun xs => D.lst (xs.map D.int))) = some (decide (x = y)) := (eqd_lst (eqd_lst eqd_int)).eqO (by decide) (fun _ _ _ _ => trivial) (fun _ _ _ _ => trivial)
theorem eqT3 (x y : Int × Int × Int) : eqO (.tup [D.int x.1, D.int x.2.1, D.int x.2.2]) (.tup [D.int y.1, D.int y.2.1, D.int y.2.2]) = some (decide (x = y)) := (eqd_p3 eqd_int eqd_int eqd_int).eqO (by decide) ⟨trivial, trivial, trivial⟩ ⟨trivial, trivial, trivial⟩
theorem take_more (st : List Nat) (a t : Nat) : st.take (a + t) = st.take a ++ (st.take (a + t)).drop a := by
  have := List.take_append_drop a (st.take (a + t))
  rw [List.take_take, Nat.min_eq_left (by omega)] at this
  exact this.symm
theorem take_min (st : List Nat) (m : Nat) : st.take (min m st.length) = st.take m := by
  rw [Nat.min_def]
  by_cases h : m ≤ st.length
  · rw [if_pos h]
  · rw [if_neg h, List.take_of_length_le (by omega), List.take_of_length_le (by omega)]
abbrev s0 : SvN := ⟨[], 0, 0, 0, 0⟩
noncomputable def at_ (st : List Nat) (a : Nat) : SvN × List (List Nat) := runV s0 (st.take a)
theorem at_next (st : List Nat) (a t : Nat) : at_ st (min (a + t) st.length) = ((runV (at_ st a).1 ((st.take (a + t)).drop a)).1, (at_ st a).2 ++ (runV (at_ st a).1 ((st.take (a + t)).drop a)).2) := by
  unfold at_
  rw [take_min, take_more st a t, runV_app]
  congr 2
  · rw [← take_more]
  · rw [← take_more]
theorem min_in (a t n : Nat) : (if (a : Int) + (t : Int) < (n : Int) then (a : Int) + (t : Int) else (n : Int)) = ((min (a + t) n : Nat) : Int) := by
  by_cases h : (a : Int) + (t : Int) < (n : Int)
  · rw [if_pos h]; omega
  · rw [if_neg h]; omega
/-! what the law reads -/
theorem in94 (o : Nat) : decide ((o : Int) ∈ ([93, 94] : List Int)) = (mea o).isSome := by
  unfold mea
  by_cases h : o = 93
  · subst h; rfl
  · by_cases k : o = 94
    · subst k; rfl
    · rw [if_neg h, if_neg k, decide_eq_false]
      · rfl
      · simp only [List.mem_cons, List.not_mem_nil, or_false]; omega
theorem mea32 {o v : Nat} (h : mea o = some v) : (o : Int) + 32 = (v : Int) := by
  unfold mea at h
  split at h
  · cases h; omega
  · split at h
    · cases h; omega
    · cases h
theorem m_lunwritten {xs : List Nat} (hl : xs.length ≤ 1000000) : _law_unwritten (I xs) = .ok ((un xs).map I) := by
  unfold _law_unwritten
  simp only [bind_ok]
  refine forX_mot (Z := fun m => m = R.ok ((un xs).map I)) (Q := fun o => o = (un xs).map I) (J := fun i s => ∃ (acc : List Nat) (e : Bool), s = (I acc, e) ∧ acc.length ≤ i ∧ un xs = (un (if e then 125 :: xs.drop i else xs.drop i)).map (acc ++ ·)) ⟨[], false, rfl, Nat.le_refl 0, by simp⟩ (fun i hi s q => ?_) (fun s q => ?_) (fun o q => ?_)
  · rw [i_len] at hi
    obtain ⟨acc, e, es, l, h⟩ := q
    subst es
    have hd : xs.drop i = xs[i] :: xs.drop (i + 1) := List.drop_eq_getElem_cons hi
    have ap (v : Nat) : appO (I acc) (v : Int) = some (I (acc ++ [v])) := by
      rw [appO_ok (by rw [i_len]; omega), I_app]; rfl
    have sh (v : Nat) (o : Option (List Nat)) : (o.map (v :: ·)).map (acc ++ ·) = o.map (acc ++ [v] ++ ·) := by
      rw [Option.map_map]
      congr 1
      funext t
      simp
    simp only [List.getElem_map]
    cases e with
    | true =>
      simp only [if_true, bind_ok, in94]
      rw [if_pos rfl, hd, un_sign] at h
      cases hm : mea xs[i] with
      | none =>
        right
        rw [hm] at h
        refine ⟨none, rfl, ?_⟩
        rw [h]; rfl
      | some v =>
        left
        rw [hm] at h
        simp only [Option.isSome_some, Bool.not_true, Bool.false_eq_true, if_false, mea32 hm, ap, ofO_some, bind_ok]
        refine ⟨_, rfl, acc ++ [v], false, rfl, by rw [List.length_append]; exact Nat.succ_le_succ l, ?_⟩
        rw [h, if_neg (by decide)]
        exact sh v _
    | false =>
      left
      rw [if_neg (by decide)] at h
      simp only [Bool.false_eq_true, if_false, bind_ok]
      by_cases k : xs[i] = 125
      · rw [decide_eq_true (show ((xs[i] : Nat) : Int) = 125 by omega)]
        refine ⟨_, rfl, acc, true, rfl, by omega, ?_⟩
        rw [h, hd, k, if_pos rfl]
      · rw [decide_eq_false (show ¬ ((xs[i] : Nat) : Int) = 125 by omega)]
        simp only [Bool.false_eq_true, if_false, ap, ofO_some, bind_ok]
        refine ⟨_, rfl, acc ++ [xs[i]], false, rfl, by rw [List.length_append]; exact Nat.succ_le_succ l, ?_⟩
        rw [h, hd, un_plain k, if_neg (by decide)]
        exact sh _ _
  · obtain ⟨acc, e, es, l, h⟩ := q
    subst es
    rw [i_len, List.drop_eq_nil_of_le (Nat.le_refl _)] at h
    cases e with
    | true =>
      rw [if_pos rfl, un_end] at h
      rw [h]; rfl
    | false =>
      rw [if_neg (by decide)] at h
      rw [h]
      show R.ok (some (I acc)) = .ok (some (I (acc ++ [])))
      rw [List.append_nil]
  · rw [q]; rfl
theorem m_lpacket {xs : List Nat} (ho : OcN xs) (hl : xs.length ≤ 1000000) : _law_packet (I xs) = .ok ((lookN xs xs.length).map fun q => (I q.1, if q.2 then (0 : Int) else 1)) := by
  unfold _law_packet lookN
  simp only [bind_ok, i_len]
  by_cases h : 510 < xs.length
  · rw [decide_eq_true (show (510 : Int) < (xs.length : Int) by omega), if_pos h]
    rfl
  · rw [decide_eq_false (show ¬ (510 : Int) < (xs.length : Int) by omega), if_neg h]
    simp only [Bool.false_eq_true, if_false, bind_ok, m_lunwritten hl]
    cases hu : un xs with
    | none => rfl
    | some c =>
      have hc := un_oc _ (Nat.le_refl _) ho hu
      obtain ⟨r, er, fx⟩ := m_lmended hc.1 (by omega)
      simp only [Option.map_some, optK_some, Option.bind_some, i_len, er, bind_ok]
      by_cases h5 : 4 < c.length
      · rw [decide_eq_false (show ¬ (c.length : Int) < 5 by omega)]
        simp only [Bool.false_eq_true, if_false]
        by_cases h6 : c.length ≤ 255
        · rw [if_pos ⟨h5, h6⟩, mdN_ok hc.1 fx]
          cases r with
          | none => rfl
          | some r =>
            have hr := fx_len fx
            have eo := eqOpt (some r) (some c)
            simp only [Option.map_some] at eo
            simp only [Option.map_some, Option.isNone_some, Bool.false_eq_true, if_false, optK_some, cut_neg4 (xs := r) (show 4 ≤ r.length by omega), eo, ttb, ofO_some, bind_ok]
            by_cases z : r = c
            · rw [decide_eq_true z, decide_eq_true (congrArg some z)]; rfl
            · rw [decide_eq_false z, decide_eq_false (fun y => z (Option.some.inj y))]; rfl
        · rw [if_neg (fun z => h6 z.2)]
          rcases fx with ⟨_, e⟩ | ⟨z, _⟩ | ⟨z, _⟩ | ⟨z, _⟩
          · subst e; rfl
          · exact absurd z.2 h6
          · exact absurd z.2 h6
          · exact absurd z.2 h6
      · rw [decide_eq_true (show (c.length : Int) < 5 by omega), if_neg (show ¬ (4 < c.length ∧ c.length ≤ 255) from fun z => h5 z.1)]
        rfl
structure Rd (u : SvN) (ss : List Nat) : Prop where
  n : u.n = ss.length
  os : u.os = if ss.length ≤ 510 then ss else []
  oc : OcN ss
theorem Rd.look {u : SvN} {ss : List Nat} (h : Rd u ss) : lookN u.os u.n = lookN ss ss.length := by
  rw [h.n, h.os]
  by_cases k : ss.length ≤ 510
  · rw [if_pos k]
  · unfold lookN
    rw [if_pos (by omega), if_pos (by omega)]
theorem m_lread {st : List Nat} (ho : OcN st) (hl : st.length ≤ 1000000) : _law_read (I st) = .ok ((runV s0 st).2.map I, [((runV s0 st).1.a : Int), ((runV s0 st).1.b : Int), ((runV s0 st).1.c : Int)], ((min (runV s0 st).1.n 511 : Nat) : Int)) := by
  unfold _law_read
  simp only [bind_ok]
  refine forS_to (I := fun i t => ∃ ss, t = ((runV s0 (st.take i)).2.map I, [((runV s0 (st.take i)).1.a : Int), ((runV s0 (st.take i)).1.b : Int), ((runV s0 (st.take i)).1.c : Int)], I ss) ∧ Rd (runV s0 (st.take i)).1 ss ∧ ss.length ≤ i ∧ (runV s0 (st.take i)).2.length ≤ i) ⟨[], rfl, ⟨rfl, rfl, (fun _ z => nomatch z)⟩, Nat.le_refl 0, Nat.le_refl 0⟩ (fun i hi t q => ?_) fun t q => ?_
  · rw [i_len] at hi
    obtain ⟨ss, e, rd, ls, lf⟩ := q
    subst e
    have hx : st[i] < 256 := ho _ (List.getElem_mem hi)
    rw [List.take_succ_eq_append_getElem hi, runV_app, runV_one]
    generalize (runV s0 (st.take i)).1 = u at rd ⊢
    generalize (runV s0 (st.take i)).2 = f at lf ⊢
    have rn := rd.n
    simp only [List.getElem_map, i_len]
    by_cases h1 : st[i] = 126
    · rw [decide_eq_true (show ((st[i] : Nat) : Int) = 126 by omega)]
      simp only [Bool.not_true, Bool.false_eq_true, if_false]
      refine ⟨_, ?_, [], rfl, ?_, Nat.zero_le _, ?_⟩
      · by_cases h2 : u.n = 0
        · rw [step_z h1 h2, decide_eq_false (show ¬ (0 : Int) < (ss.length : Int) by omega)]
          simp only [Bool.false_eq_true, if_false, bind_ok, List.append_nil]
          rfl
        · rw [step_e h1 h2, rd.look, decide_eq_true (show (0 : Int) < (ss.length : Int) by omega)]
          simp only [if_true, bind_ok, m_lpacket rd.oc (show ss.length ≤ 1000000 by omega)]
          cases lookN ss ss.length with
          | none =>
            simp only [List.append_nil]
            rfl
          | some q =>
            obtain ⟨p, b⟩ := q
            simp only [Option.map_some, optK_some, bind_ok, appO_ok (show (f.map I).length < 16777216 by rw [List.length_map]; omega), ofO_some, List.map_append]
            cases b <;> rfl
      · by_cases h2 : u.n = 0
        · rw [step_z h1 h2]; exact ⟨rfl, rfl, (fun _ z => nomatch z)⟩
        · rw [step_e h1 h2]
          cases lookN u.os u.n <;> exact ⟨rfl, rfl, (fun _ z => nomatch z)⟩
      · rw [List.length_append]
        by_cases h2 : u.n = 0
        · rw [step_z h1 h2]; simp only [List.length_nil]; omega
        · rw [step_e h1 h2]
          cases lookN u.os u.n <;> simp only [List.length_nil, List.length_cons] <;> omega
    · rw [decide_eq_false (show ¬ ((st[i] : Nat) : Int) = 126 by omega), step_ne h1]
      simp only [Bool.not_false, if_true, bind_ok, appO_ok (show (I ss).length < 16777216 by rw [i_len]; omega), ofO_some, List.append_nil]
      refine ⟨_, rfl, ss ++ [st[i]], by rw [I_app]; rfl, ⟨?_, ?_, ?_⟩, by rw [List.length_append]; exact Nat.succ_le_succ ls, by omega⟩
      · show u.n + 1 = _; rw [List.length_append, rn]; rfl
      · show (if u.n + 1 ≤ 510 then u.os ++ [st[i]] else []) = _
        rw [List.length_append, List.length_singleton, rn]
        by_cases h2 : ss.length + 1 ≤ 510
        · rw [if_pos h2, if_pos h2, rd.os, if_pos (by omega)]
        · rw [if_neg h2, if_neg h2]
      · exact rd.oc.app fun d hd => by rw [List.mem_singleton.mp hd]; exact hx
  · obtain ⟨ss, e, rd, _⟩ := q
    rw [i_len, List.take_length] at e rd
    subst e
    have rn := rd.n
    simp only [i_len]
    by_cases h : (ss.length : Int) < 511
    · rw [if_pos h, show ((min (runV s0 st).1.n 511 : Nat) : Int) = (ss.length : Int) by omega]
    · rw [if_neg h, show ((min (runV s0 st).1.n 511 : Nat) : Int) = 511 by omega]
/-! streams that are spoilt -/
theorem cI_to (xs : List Nat) (n : Nat) : cutL (I xs) none (some (n : Int)) = I (xs.take n) := by rw [cut_to, I, I, List.map_take]
theorem cI_from (xs : List Nat) (n : Nat) : cutL (I xs) (some (n : Int)) none = I (xs.drop n) := by rw [cut_from, I, I, List.map_drop]
theorem cI_mid (xs : List Nat) (m n : Nat) : cutL (I xs) (some (m : Int)) (some (n : Int)) = I ((xs.take n).drop m) := by rw [cut_mid, I, I, List.map_drop, List.map_take]
theorem oc_take {xs : List Nat} (h : OcN xs) (n : Nat) : OcN (xs.take n) := fun d hd => h d (List.mem_of_mem_take hd)
theorem oc_drop {xs : List Nat} (h : OcN xs) (n : Nat) : OcN (xs.drop n) := fun d hd => h d (List.mem_of_mem_drop hd)
theorem oc_one {v : Nat} (h : v < 256) : OcN [v] := fun d hd => by rw [List.mem_singleton.mp hd]; exact h
theorem m_lspoilt {st : List Nat} (ho : OcN st) (hl : st.length ≤ 100000) {ds : List Int} (hb : ∀ d ∈ ds, 0 ≤ d ∧ d < 65521) {n : Nat} (hn : 2 * n ≤ ds.length) (hn2 : n ≤ 100) : ∃ w, _law_spoilt (I st) ds (n : Int) = .ok (I w) ∧ OcN w ∧ w.length ≤ st.length + n := by
  unfold _law_spoilt
  simp only [bind_ok, rangeO_nat (show n < 4611686018427387904 by omega), ofO_some]
  refine forS_mot (Z := fun m => ∃ w, m = .ok (I w) ∧ OcN w ∧ w.length ≤ st.length + n) (J := fun i s => ∃ w, s = I w ∧ OcN w ∧ w.length ≤ st.length + i) ⟨st, rfl, ho, Nat.le_refl _⟩ (fun i hi s q => ?_) (fun s q => ?_)
  · rw [irange_ix hi]
    rw [irange_lenN] at hi
    obtain ⟨w, e, ow, lw⟩ := q
    subst e
    have b1 := d_bd hb (2 * i)
    have b2 := d_bd hb (2 * i + 1)
    have e1 : atI ds (2 * (i : Int)) = some (ds.getD (2 * i) 0) := at_d (2 * i) (by omega)
    have e2 : atI ds (2 * (i : Int) + 1) = some (ds.getD (2 * i + 1) 0) := at_d (2 * i + 1) (by omega)
    obtain ⟨a, ea⟩ : ∃ a : Nat, ofO (modO (ds.getD (2 * i) 0) (if (w.length : Int) > 1 then (w.length : Int) else 1)) = .ok (a : Int) := by
      by_cases h : (w.length : Int) > 1
      · rw [if_pos h, modO_pos (by omega), ofO_some]
        have := Int.emod_nonneg (ds.getD (2 * i) 0) (show (w.length : Int) ≠ 0 by omega)
        exact ⟨(ds.getD (2 * i) 0 % (w.length : Int)).toNat, by congr 1; omega⟩
      · rw [if_neg h, modO_pos (by decide), ofO_some]
        exact ⟨0, by congr 1; omega⟩
    obtain ⟨v, ev, hv⟩ : ∃ v : Nat, ds.getD (2 * i + 1) 0 / 5 % 256 = (v : Int) ∧ v < 256 := ⟨(ds.getD (2 * i + 1) 0 / 5 % 256).toNat, by omega, by omega⟩
    have a1 : (a : Int) + 1 = ((a + 1 : Nat) : Int) := rfl
    have a2 : (a : Int) + 2 = ((a + 2 : Nat) : Int) := rfl
    have t1 : (w.take a).length = min a w.length := List.length_take
    have t2 : (w.drop a).length = w.length - a := List.length_drop
    have t3 : (w.drop (a + 1)).length = w.length - (a + 1) := List.length_drop
    have t4 : (w.drop (a + 2)).length = w.length - (a + 2) := List.length_drop
    have t5 : ((w.take (a + 1)).drop a).length = min (a + 1) w.length - a := by rw [List.length_drop, List.length_take]
    have t6 : ((w.take (a + 2)).drop (a + 1)).length = min (a + 2) w.length - (a + 1) := by rw [List.length_drop, List.length_take]
    simp only [mulO_l (x := 2) (by decide), ofO_some, bind_ok, e1, e2, i_len, ea, a1, a2, cI_to, cI_from, cI_mid, ev]
    by_cases w1 : ds.getD (2 * i + 1) 0 % 5 < 2
    · rw [decide_eq_true w1]
      simp only [if_true]
      rw [show ([(v : Int)] : List Int) = I [v] from rfl, catI (by rw [t1, List.length_singleton]; omega), ofO_some, bind_ok, catI (by rw [List.length_append, t1, t3, List.length_singleton]; omega)]
      exact ⟨_, rfl, _, rfl, ((oc_take ow a).app (oc_one hv)).app (oc_drop ow _), by rw [List.length_append, List.length_append, t1, t3, List.length_singleton]; omega⟩
    · rw [decide_eq_false w1]
      simp only [Bool.false_eq_true, if_false]
      by_cases w2 : ds.getD (2 * i + 1) 0 % 5 = 2
      · rw [decide_eq_true w2]
        simp only [if_true]
        rw [catI (by rw [t1, t3]; omega)]
        exact ⟨_, rfl, _, rfl, (oc_take ow a).app (oc_drop ow _), by rw [List.length_append, t1, t3]; omega⟩
      · rw [decide_eq_false w2]
        simp only [Bool.false_eq_true, if_false]
        by_cases w3 : ds.getD (2 * i + 1) 0 % 5 = 3
        · rw [decide_eq_true w3]
          simp only [if_true]
          rw [catI (by rw [t1, t5]; omega), ofO_some, bind_ok, catI (by rw [List.length_append, t1, t5, t2]; omega)]
          exact ⟨_, rfl, _, rfl, ((oc_take ow a).app (oc_drop (oc_take ow _) _)).app (oc_drop ow _), by rw [List.length_append, List.length_append, t1, t5, t2]; omega⟩
        · rw [decide_eq_false w3]
          simp only [Bool.false_eq_true, if_false]
          rw [catI (by rw [t1, t6]; omega), ofO_some, bind_ok, catI (by rw [List.length_append, t1, t6, t5]; omega), ofO_some, bind_ok, catI (by rw [List.length_append, List.length_append, t1, t6, t5, t4]; omega)]
          exact ⟨_, rfl, _, rfl, (((oc_take ow a).app (oc_drop (oc_take ow _) _)).app (oc_drop (oc_take ow _) _)).app (oc_drop ow _), by rw [List.length_append, List.length_append, List.length_append, t1, t6, t5, t4]; omega⟩
  · obtain ⟨w, e, ow, lw⟩ := q
    subst e
    rw [irange_lenN] at lw
    exact ⟨w, rfl, ow, lw⟩
/-! one octet of a frame is another -/
theorem esc_app (xs ys : List Nat) : esc (xs ++ ys) = esc xs ++ esc ys := List.flatMap_append
theorem esc_plain : ∀ {xs : List Nat}, (∀ o ∈ xs, o ≠ 125 ∧ o ≠ 126) → esc xs = xs
  | [], _ => rfl
  | o :: xs, h => by
    rw [esc_cons, esc_plain fun d hd => h d (List.mem_cons_of_mem _ hd)]
    have := h o List.mem_cons_self
    unfold esc1
    rw [if_neg this.1, if_neg this.2]
    rfl
theorem run_esc {w r : List Nat} (h1 : 4 < w.length) (h2 : w.length ≤ 255) (hm : mdN w = some r) : runV s0 (esc w ++ [126]) = (⟨[], 0, 1, if decide (r = w) then 0 else 1, 0⟩, [r.take (r.length - 4)]) := by
  have hb := (esc_len w).2
  have hb1 := (esc_len w).1
  rw [runV_app, run_body (esc_no _) (by show 0 + _ ≤ _; omega), runV_one]
  simp only [List.nil_append, Nat.zero_add]
  rw [step_e rfl (show ¬ (esc w).length = 0 by omega)]
  have lk : lookN (esc w) (esc w).length = some (r.take (r.length - 4), decide (r = w)) := by
    unfold lookN
    rw [if_neg (by omega), un_esc]
    show (if _ then _ else _) = _
    rw [if_pos ⟨h1, h2⟩, hm]
    rfl
  simp only [lk]
  cases decide (r = w) <;> rfl
theorem set_parts {P : List Nat} {a v : Nat} (h : a < P.length) (L : List Nat) : (P ++ L).take a ++ [v] ++ (P ++ L).drop (a + 1) = P.set a v ++ L := by
  rw [List.take_append_of_le_length (by omega), List.drop_append_of_le_length (by omega), List.append_assoc]
  have : P.set a v = P.take a ++ ([v] ++ P.drop (a + 1)) := by
    rw [List.set_eq_take_append_cons_drop, if_pos h]; rfl
  rw [this]
  simp only [List.append_assoc]
theorem one_wrong {P : List Nat} (ho : OcN P) (hp : ∀ o ∈ P, o ≠ 125 ∧ o ≠ 126) (h0 : 0 < P.length) (hl : P.length ≤ 251) {a v : Nat} (ha : a < P.length) (hv : v < 125) :
    runV s0 ((frm P).take a ++ [v] ++ (frm P).drop (a + 1)) = (⟨[], 0, 1, if v = P[a] then 0 else 1, 0⟩, [P]) := by
  have hc := cd_len P
  obtain ⟨w, ew⟩ : ∃ w, w = P.set a v ++ l4 (chs P) := ⟨_, rfl⟩
  have lw : w.length = P.length + 4 := by rw [ew, List.length_append, List.length_set]; rfl
  have e1 : frm P = P ++ (esc (l4 (chs P)) ++ [126]) := by
    unfold frm cd
    rw [esc_app, esc_plain hp, List.append_assoc]
  have hs : ∀ o ∈ P.set a v, o ≠ 125 ∧ o ≠ 126 := fun o h => by
    rcases List.mem_or_eq_of_mem_set h with z | z
    · exact hp o z
    · subst z; omega
  have e2 : (frm P).take a ++ [v] ++ (frm P).drop (a + 1) = esc w ++ [126] := by
    rw [e1, set_parts ha, ew, esc_app, esc_plain hs, List.append_assoc]
  have ow : OcN w := by
    rw [ew]
    refine OcN.app (fun d hd => ?_) (chs_oc ho).l
    rcases List.mem_or_eq_of_mem_set hd with z | z
    · exact ho d z
    · subst z; omega
  have hd : dist (cd P) w ≤ 1 := by
    rw [ew]
    unfold cd
    rw [dist_app _ _ (by rw [List.length_set]), dist_self, Nat.add_zero]
    have := dist_set_le P P a v
    rw [dist_self] at this
    exact this
  obtain ⟨r, _, fx⟩ := m_mended ow
  have er := fx_one (cd_oc ho) ow (cd_zr ho) (by rw [hc, lw]) ⟨by omega, by omega⟩ hd fx
  have hm := mdN_ok ow fx
  rw [er] at hm
  rw [e2, run_esc (by omega) (by omega) hm]
  have e3 : (cd P).take ((cd P).length - 4) = P := by
    rw [hc, Nat.add_sub_cancel]
    unfold cd
    rw [List.take_left]
  have e4 : (cd P = w) ↔ v = P[a] := by
    rw [ew]
    unfold cd
    constructor
    · intro z
      have z := (List.append_inj z (by rw [List.length_set])).1
      have := congrArg (fun l => l[a]?) z
      simp only [List.getElem?_set_self ha, List.getElem?_eq_getElem ha] at this
      exact (Option.some.inj this).symm
    · intro z
      rw [z, List.set_getElem_self]
  rw [e3]
  by_cases z : v = P[a]
  · rw [if_pos z, if_pos (decide_eq_true (e4.mpr z))]
  · rw [if_neg z, if_neg (by rw [decide_eq_true_iff]; exact fun y => z (e4.mp y))]
theorem plain_part {cs : List Nat} (ho : OcN cs) (hl : cs.length ≤ 1000) : ∃ P, compR (fun c : Int => R.ok (!decide (c ∈ ([125, 126] : List Int)))) (fun c : Int => R.ok c) (I cs) = .ok (I P) ∧ OcN P ∧ P.length ≤ cs.length ∧ ∀ o ∈ P, o ≠ 125 ∧ o ≠ 126 := by
  refine ⟨cs.filter fun o => !decide (o = 125 ∨ o = 126), ?_, fun d hd => ho d (List.mem_filter.mp hd).1, List.length_filter_le _ _, fun o h => ?_⟩
  · refine (compR_filter (fun c : Int => !decide (c ∈ ([125, 126] : List Int))) (fun c => c) (by rw [i_len]; omega) (fun _ _ => rfl) (fun _ _ _ => rfl)).trans ?_
    rw [List.map_id', I, List.filter_map]
    congr 2
    refine List.filter_congr fun o _ => ?_
    show (!decide ((o : Int) ∈ ([125, 126] : List Int))) = _
    congr 1
    rw [decide_eq_decide]
    simp only [List.mem_cons, List.not_mem_nil, or_false]
    omega
  · have := (List.mem_filter.mp h).2
    simp only [Bool.not_eq_true', decide_eq_false_iff_not, not_or] at this
    exact this
theorem no_126 {cs : List Nat} (ho : OcN cs) (hl : cs.length ≤ 10000) : ∃ P, compR (fun c : Int => R.ok (!decide (c = 126))) (fun c : Int => R.ok c) (I cs) = .ok (I P) ∧ OcN P ∧ P.length ≤ cs.length := by
  refine ⟨cs.filter fun o => !decide (o = 126), ?_, fun d hd => ho d (List.mem_filter.mp hd).1, List.length_filter_le _ _⟩
  refine (compR_filter (fun c : Int => !decide (c = 126)) (fun c => c) (by rw [i_len]; omega) (fun _ _ => rfl) (fun _ _ _ => rfl)).trans ?_
  rw [List.map_id', I, List.filter_map]
  congr 2
  refine List.filter_congr fun o _ => ?_
  show (!decide ((o : Int) = 126)) = _
  congr 1
  rw [decide_eq_decide]
  omega
theorem to_ok {α β : Type} {m : R α} {k : α → R β} {r : R β} (P : α → Prop) (h : ∃ x, m = .ok x ∧ P x) (hk : ∀ x, P x → k x = r) : (m >>= k) = r := by
  obtain ⟨x, e, p⟩ := h
  rw [e, bind_ok]
  exact hk x p
theorem law_true (ns : List Int) (h : ns.length ≤ 63) : law ns = .ok true := by
  obtain ⟨ds, ed, hl, hb⟩ := m_draws ns h (n := 90) (by decide)
  have ed : _law_draws ns 90 = .ok ds := ed
  have gd (k : Nat) : 0 ≤ ds.getD k 0 ∧ ds.getD k 0 < 65521 := d_bd hb k
  have e0 : atI ds 0 = some (ds.getD 0 0) := at_d 0 (by omega)
  have e8 : atI ds 8 = some (ds.getD 8 0) := at_d 8 (by omega)
  have e9 : atI ds 9 = some (ds.getD 9 0) := at_d 9 (by omega)
  have e60 : atI ds 60 = some (ds.getD 60 0) := at_d 60 (by omega)
  have e81 : atI ds 81 = some (ds.getD 81 0) := at_d 81 (by omega)
  have e82 : atI ds 82 = some (ds.getD 82 0) := at_d 82 (by omega)
  have e83 : atI ds 83 = some (ds.getD 83 0) := at_d 83 (by omega)
  have e84 : atI ds 84 = some (ds.getD 84 0) := at_d 84 (by omega)
  have e85 : atI ds 85 = some (ds.getD 85 0) := at_d 85 (by omega)
  have e86 : atI ds 86 = some (ds.getD 86 0) := at_d 86 (by omega)
  have b0 := gd 0; have b8 := gd 8; have b9 := gd 9; have b60 := gd 60; have b81 := gd 81; have b82 := gd 82
  have b83 := gd 83; have b84 := gd 84; have b85 := gd 85; have b86 := gd 86
  have cu (m n : Nat) : cutL ds (some (m : Int)) (some (n : Int)) = (ds.take n).drop m := cut_mid ds m n
  have cul (m n : Nat) (hm : m < n) (hn : n ≤ 90) : ((ds.take n).drop m).length = n - m := by rw [List.length_drop, List.length_take]; omega
  have cub (m n : Nat) : ∀ d ∈ (ds.take n).drop m, 0 ≤ d ∧ d < 65521 := fun d hd => hb d (List.mem_of_mem_take (List.mem_of_mem_drop hd))
  obtain ⟨m0, em0, hm0⟩ : ∃ m : Nat, 1 + ds.getD 0 0 % 7 = (m : Int) ∧ m ≤ 7 := ⟨(1 + ds.getD 0 0 % 7).toNat, by omega, by omega⟩
  unfold law
  simp only [bind_ok, ed, e0, ofO_some, em0, rangeO_nat (show m0 < 4611686018427387904 by omega)]
  refine forS_to (I := fun i s => ∃ st : List Nat, s = I st ∧ OcN st ∧ st.length ≤ 600 * i) ⟨[], rfl, (fun _ z => nomatch z), Nat.zero_le _⟩ (fun k hk s q => ?_) fun s q => ?_
  · rw [irange_ix hk]
    rw [irange_lenN] at hk
    obtain ⟨st, e, o, l⟩ := q
    subst e
    have b1 := gd (1 + k)
    have b2 := gd (2 + k)
    have e1 : atI ds (1 + (k : Int)) = some (ds.getD (1 + k) 0) := at_d (1 + k) (by omega)
    have e2 : atI ds (2 + (k : Int)) = some (ds.getD (2 + k) 0) := at_d (2 + k) (by omega)
    have ck : cutL ds (some (10 + 5 * (k : Int))) (some (40 + 5 * (k : Int))) = (ds.take (40 + 5 * k)).drop (10 + 5 * k) := cu (10 + 5 * k) (40 + 5 * k)
    have cl := cul (10 + 5 * k) (40 + 5 * k) (by omega) (by omega)
    have ck2 : cutL ds (some (20 + (k : Int))) (some (50 + (k : Int))) = (ds.take (50 + k)).drop (20 + k) := cu (20 + k) (50 + k)
    have cl2 := cul (20 + k) (50 + k) (by omega) (by omega)
    obtain ⟨n, en, hn⟩ : ∃ n : Nat, 1 + ds.getD (1 + k) 0 % 30 = (n : Int) ∧ 1 ≤ n ∧ n ≤ 30 := ⟨(1 + ds.getD (1 + k) 0 % 30).toNat, by omega, by omega, by omega⟩
    obtain ⟨p, ep, lp, op⟩ := m_octets ((ds.take (40 + 5 * k)).drop (10 + 5 * k)) (by omega) (by omega) (cub _ _) (n := n) (by omega)
    have p0 : p ≠ [] := fun z => by rw [z] at lp; simp at lp; omega
    have fl := frm_len (p := p) (by omega)
    obtain ⟨n2, en2, hn2⟩ : ∃ n : Nat, ds.getD (2 + k) 0 % 9 = (n : Int) ∧ n ≤ 8 := ⟨(ds.getD (2 + k) 0 % 9).toNat, by omega, by omega⟩
    obtain ⟨p2, ep2, lp2, op2⟩ := m_octets ((ds.take (50 + k)).drop (20 + k)) (by omega) (by omega) (cub _ _) (n := n2) (by omega)
    simp only [mulO_l (x := 5) (by decide), ofO_some, bind_ok, ck, ck2, e1, e2, en, en2, ep, ep2, m_frame op p0 (show p.length ≤ 251 by omega)]
    rw [catI (by omega), ofO_some, bind_ok]
    by_cases z : ds.getD (1 + k) 0 / 30 % 5 = 0
    · rw [decide_eq_true z]
      simp only [if_true]
      rw [catI (by rw [List.length_append]; omega)]
      exact ⟨_, rfl, _, rfl, (o.app (frm_oc op)).app op2, by rw [List.length_append, List.length_append]; omega⟩
    · rw [decide_eq_false z]
      exact ⟨_, rfl, _, rfl, o.app (frm_oc op), by rw [List.length_append]; omega⟩
  · obtain ⟨st, e, o, l⟩ := q
    subst e
    rw [irange_lenN] at l
    have c1 : cutL ds (some 30) (some 60) = (ds.take 60).drop 30 := cu 30 60
    have l1 := cul 30 60 (by decide) (by decide)
    have c2 : cutL ds (some 61) (some 81) = (ds.take 81).drop 61 := cu 61 81
    have l2 := cul 61 81 (by decide) (by decide)
    have c3 : cutL ds (some 40) (some 70) = (ds.take 70).drop 40 := cu 40 70
    have l3 := cul 40 70 (by decide) (by decide)
    refine to_ok (P := fun s => ∃ st1 : List Nat, s = I st1 ∧ OcN st1 ∧ st1.length ≤ 7000) ?_ fun s q => ?_
    · simp only [e8, e9, e60, ofO_some, bind_ok, c1]
      by_cases z : ds.getD 8 0 % 4 = 0
      · rw [decide_eq_true z]
        obtain ⟨n, en, hn⟩ : ∃ n : Nat, 100 + ds.getD 9 0 % 1900 = (n : Int) ∧ n ≤ 2000 := ⟨(100 + ds.getD 9 0 % 1900).toNat, by omega, by omega⟩
        obtain ⟨p, ep, lp, op⟩ := m_octets ((ds.take 60).drop 30) (by omega) (by omega) (cub _ _) (n := n) (by omega)
        obtain ⟨f, ef, of, lf⟩ := no_126 op (by omega)
        obtain ⟨a, ea, ha⟩ : ∃ a : Nat, ds.getD 60 0 % ((st.length : Int) + 1) = (a : Int) ∧ a ≤ st.length := by
          have h1 := Int.emod_nonneg (ds.getD 60 0) (show ((st.length : Int) + 1) ≠ 0 by omega)
          have h2 := Int.emod_lt_of_pos (ds.getD 60 0) (show 0 < ((st.length : Int) + 1) by omega)
          exact ⟨(ds.getD 60 0 % ((st.length : Int) + 1)).toNat, by omega, by omega⟩
        simp only [if_true, en, ep, bind_ok, ef, i_len, modO_pos (show 0 < ((st.length : Int) + 1) by omega), ofO_some, ea, cI_to, cI_from]
        have t1 : (st.take a).length = min a st.length := List.length_take
        have t2 : (st.drop a).length = st.length - a := List.length_drop
        rw [catI (by omega), ofO_some, bind_ok, catI (by rw [List.length_append]; omega)]
        exact ⟨_, rfl, _, rfl, ((oc_take o a).app of).app (oc_drop o a), by rw [List.length_append, List.length_append]; omega⟩
      · rw [decide_eq_false z]
        exact ⟨_, rfl, st, rfl, o, by omega⟩
    · obtain ⟨st1, e, o1, l11⟩ := q
      subst e
      obtain ⟨n, en, hn⟩ : ∃ n : Nat, ds.getD 81 0 % 11 = (n : Int) ∧ n ≤ 10 := ⟨(ds.getD 81 0 % 11).toNat, by omega, by omega⟩
      obtain ⟨w, ew, ow, lw⟩ := m_lspoilt o1 (by omega) (cub 61 81) (n := n) (by omega) (by omega)
      simp only [e81, ofO_some, bind_ok, c2, en, ew]
      refine to_ok (P := fun s => ∃ st1 : List Nat, s = I st1 ∧ OcN st1 ∧ st1.length ≤ 8000) ?_ fun s q => ?_
      · simp only [e82, e83, ofO_some, bind_ok]
        by_cases z : ds.getD 82 0 % 4 = 0
        · rw [decide_eq_true z]
          obtain ⟨r, er, hr⟩ : ∃ r : Nat, 509 + ds.getD 83 0 % 4 = (r : Int) ∧ r ≤ 512 := ⟨(509 + ds.getD 83 0 % 4).toNat, by omega, by omega⟩
          have e1 : repO [(1 : Int)] (r : Int) = some (I (List.replicate r 1)) := by rw [repO_one (by omega), I, List.map_replicate]; rfl
          simp only [if_true, er, e1, ofO_some, bind_ok]
          rw [show ([(126 : Int)] : List Int) = I [126] from rfl, catI (by rw [List.length_singleton]; omega), ofO_some, bind_ok, catI (by rw [List.length_append, List.length_singleton, List.length_replicate]; omega)]
          exact ⟨_, rfl, _, rfl, (ow.app (oc_one (by decide))).app fun d hd => by rw [(List.mem_replicate.mp hd).2]; decide, by rw [List.length_append, List.length_append, List.length_singleton, List.length_replicate]; omega⟩
        · rw [decide_eq_false z]
          exact ⟨_, rfl, w, rfl, ow, by omega⟩
      · obtain ⟨st, e, o, l⟩ := q
        subst e
        have ok0 : SvOk s0 := .nw _ _ _
        have tk := m_take ok0 (Nat.zero_le _) o (by omega)
        have tk : Sieve__take (emb ⟨[], 0, 0, 0, 0⟩) (I st) = _ := tk
        have tup (x y : Nat) (z : Nat) : eqO (D.tup (([(x : Int), (y : Int), (z : Int)] : List Int).map D.int)) (D.tup (([(x : Int), (y : Int), (z : Int)] : List Int).map D.int)) = some true := by rw [eqO_tints, decide_eq_true rfl]
        have r40 : rangeO 0 40 = some (irange 0 ((40 : Nat) : Int)) := rangeO_nat (n := 40) (by decide)
        simp only [m_lread o (show st.length ≤ 1000000 by omega), bind_ok, m_init, tk, eqLL, decide_true, Option.map_some, ttb, Bool.not_true, ofO_some, Bool.false_eq_true, if_false, m_told, m_held, tup, noErr, r40]
        refine forX_to (I := fun i s => ∃ a : Nat, s = ((a : Int), (at_ st a).2.map I, emb (at_ st a).1) ∧ a ≤ st.length) ⟨0, rfl, Nat.zero_le _⟩ (fun k hk s q => ?_) fun s q => ?_
        · rw [irange_ix hk]
          rw [irange_lenN] at hk
          obtain ⟨a, e, ha⟩ := q
          subst e
          obtain ⟨k1, k2, k3⟩ : SvOk (at_ st a).1 ∧ (at_ st a).1.os.length ≤ (at_ st a).1.n ∧ (at_ st a).2.length ≤ (st.take a).length := run_ok ok0 (Nat.zero_le _) (oc_take o a)
          have b1 := gd (84 + k % 6)
          have e1 : atI ds (84 + (k : Int) % 6) = some (ds.getD (84 + k % 6) 0) := at_d (84 + k % 6) (by omega)
          obtain ⟨t, et, ht⟩ : ∃ t : Nat, ds.getD (84 + k % 6) 0 % 70 = (t : Int) ∧ t ≤ 70 := ⟨(ds.getD (84 + k % 6) 0 % 70).toNat, by omega, by omega⟩
          have op := oc_drop (oc_take o (a + t)) a
          have lp : ((st.take (a + t)).drop a).length ≤ st.length := by rw [List.length_drop, List.length_take]; omega
          have tk := m_take k1 k2 op (by omega)
          have k4 := (run_ok k1 k2 op).2.2
          have nx := at_next st a t
          have ck : cutL (I st) (some (a : Int)) (some ((a : Int) + (t : Int))) = I ((st.take (a + t)).drop a) := cI_mid st a (a + t)
          have l5 : (at_ st a).2.length ≤ st.length := by
            have := k3
            rw [List.length_take] at this
            omega
          simp only [e1, bind_ok, ofO_some, i_len, et, ck, min_in, tk]
          rw [catO_ok (by rw [List.length_map, List.length_map]; omega), ofO_some, bind_ok, ← List.map_append]
          simp only [m_held, bind_ok]
          rw [decide_eq_false (by omega)]
          simp only [Bool.false_eq_true, if_false]
          exact ⟨_, rfl, min (a + t) st.length, by rw [nx], by omega⟩
        · obtain ⟨a, e, ha⟩ := q
          subst e
          obtain ⟨k1, k2, k3⟩ : SvOk (at_ st a).1 ∧ (at_ st a).1.os.length ≤ (at_ st a).1.n ∧ (at_ st a).2.length ≤ (st.take a).length := run_ok ok0 (Nat.zero_le _) (oc_take o a)
          have op := oc_drop o a
          have lp : (st.drop a).length ≤ st.length := by rw [List.length_drop]; omega
          have tk := m_take k1 k2 op (by omega)
          have k4 := (run_ok k1 k2 op).2.2
          have split : runV s0 st = ((runV (at_ st a).1 (st.drop a)).1, (at_ st a).2 ++ (runV (at_ st a).1 (st.drop a)).2) := by
            unfold at_
            rw [← runV_app, List.take_append_drop]
          have w1 : (runV (at_ st a).1 (st.drop a)).1 = (runV s0 st).1 := (congrArg Prod.fst split).symm
          have w2 : (at_ st a).2 ++ (runV (at_ st a).1 (st.drop a)).2 = (runV s0 st).2 := (congrArg Prod.snd split).symm
          rw [List.length_take] at k3
          have ck : cutL (I st) (some (a : Int)) none = I (st.drop a) := cI_from st a
          -- the last packet
          obtain ⟨n, en, hn⟩ : ∃ n : Nat, 1 + ds.getD 84 0 % 60 = (n : Int) ∧ n ≤ 60 := ⟨(1 + ds.getD 84 0 % 60).toNat, by omega, by omega⟩
          obtain ⟨p, ep, lp2, op2⟩ := m_octets ((ds.take 70).drop 40) (by omega) (by omega) (cub _ _) (n := n) (by omega)
          obtain ⟨P0, eP, oP0, lP0, pP0⟩ := plain_part op2 (by omega)
          obtain ⟨P, hP⟩ : ∃ P, P = P0 ++ [1] := ⟨_, rfl⟩
          have lP : P.length = P0.length + 1 := by rw [hP, List.length_append, List.length_singleton]
          have oP : OcN P := by rw [hP]; exact oP0.app (oc_one (by decide))
          have pP : ∀ o ∈ P, o ≠ 125 ∧ o ≠ 126 := fun o h => by
            rw [hP] at h
            rcases List.mem_append.mp h with z | z
            · exact pP0 o z
            · rw [List.mem_singleton.mp z]; decide
          have P1 : P ≠ [] := fun z => by rw [z] at lP; simp at lP
          have catP : catO (I P0) [(1 : Int)] = some (I P) := by rw [hP]; exact catI (xs := P0) (ys := [1]) (by rw [List.length_singleton]; omega)
          obtain ⟨b, eb, hb2⟩ : ∃ b : Nat, ds.getD 85 0 % (P.length : Int) = (b : Int) ∧ b < P.length := by
            have h1 := Int.emod_nonneg (ds.getD 85 0) (show (P.length : Int) ≠ 0 by omega)
            have h2 := Int.emod_lt_of_pos (ds.getD 85 0) (show 0 < (P.length : Int) by omega)
            exact ⟨(ds.getD 85 0 % (P.length : Int)).toNat, by omega, by omega⟩
          obtain ⟨v, ev, hv⟩ : ∃ v : Nat, ds.getD 86 0 % 125 = (v : Int) ∧ v < 125 := ⟨(ds.getD 86 0 % 125).toNat, by omega, by omega⟩
          have fl := frm_len (p := P) (by omega)
          have of := frm_oc oP
          have ow : OcN ((frm P).take b ++ [v] ++ (frm P).drop (b + 1)) := ((oc_take of b).app (oc_one (by omega))).app (oc_drop of _)
          have t1 : ((frm P).take b).length = min b (frm P).length := List.length_take
          have t2 : ((frm P).drop (b + 1)).length = (frm P).length - (b + 1) := List.length_drop
          have lw : ((frm P).take b ++ [v] ++ (frm P).drop (b + 1)).length ≤ 2000 := by rw [List.length_append, List.length_append, t1, t2, List.length_singleton]; omega
          have tkl := m_take ok0 (Nat.zero_le _) ow (by omega)
          rw [one_wrong oP pP (by omega) (by omega) hb2 hv] at tkl
          have tkl : Sieve__take (emb ⟨[], 0, 0, 0, 0⟩) (I ((frm P).take b ++ [v] ++ (frm P).drop (b + 1))) = .ok ([I P], emb ⟨[], 0, 1, if v = P[b] then 0 else 1, 0⟩) := tkl
          have cat1 : catO (I ((frm P).take b)) [(v : Int)] = some (I ((frm P).take b ++ [v])) := catI (ys := [v]) (by rw [t1, List.length_singleton]; omega)
          have cat2 : catO (I ((frm P).take b ++ [v])) (I ((frm P).drop (b + 1))) = some (I ((frm P).take b ++ [v] ++ (frm P).drop (b + 1))) := catI (by rw [List.length_append, t1, t2, List.length_singleton]; omega)
          have b1 : (b : Int) + 1 = ((b + 1 : Nat) : Int) := rfl
          have dv : (!decide ((v : Int) = ((P[b] : Nat) : Int))) = !decide (v = P[b]) := by
            congr 1
            rw [decide_eq_decide]; omega
          simp only [sumK, bind_ok, ck, tk]
          rw [catO_ok (by rw [List.length_map, List.length_map]; omega), ofO_some, bind_ok, ← List.map_append]
          simp only [w1, w2, decide_true, Bool.not_true, Bool.false_eq_true, if_false, bind_ok, m_told, m_held, tup, Option.map_some, ofO_some, e84, en, c3, ep, eP, catP, m_frame oP P1 (show P.length ≤ 251 by omega), e85, e86, i_len, modO_pos (show 0 < (P.length : Int) by omega), eb, ev, b1, cI_to, cI_from, cat1, cat2, tkl, at_I hb2, ffb, if_true, dv]
          have et : eqO (D.tup [D.int ((1 : Nat) : Int), D.int ((if v = P[b] then 0 else 1 : Nat) : Int), D.int ((0 : Nat) : Int)]) (D.tup [D.int 1, D.int (if (!decide (v = P[b])) = true then 1 else 0), D.int 0]) = some true := by
            have := eqT3 (((1 : Nat) : Int), ((if v = P[b] then 0 else 1 : Nat) : Int), ((0 : Nat) : Int)) (1, (if (!decide (v = P[b])) = true then 1 else 0), 0)
            have hh : ((((1 : Nat) : Int), ((if v = P[b] then 0 else 1 : Nat) : Int), ((0 : Nat) : Int)) : Int × Int × Int) = (1, (if (!decide (v = P[b])) = true then 1 else 0), 0) := by by_cases z : v = P[b] <;> simp [z]
            exact this.trans (congrArg some (decide_eq_true hh))
          rw [et]
          rfl
end K58
namespace K58
open PySem PySem.Spec L2 Cn
theorem all_mk {l : PySem.W.OpenLaw} {w : World} {K : PySem.W.Frag} {h : Heap} {mg : Str → Option Value} {fa : Addr} {f__law_draws : Addr} {od__law_draws an__law_draws : Option Addr} {sl__law_draws : Array (Option Value)} {oc__law_draws kV__law_draws dc__law_draws pm__law_draws cd__law_draws ct__law_draws : Value}
{f__law_spoilt : Addr} {od__law_spoilt an__law_spoilt : Option Addr} {sl__law_spoilt : Array (Option Value)} {oc__law_spoilt kV__law_spoilt dc__law_spoilt pm__law_spoilt cd__law_spoilt ct__law_spoilt : Value}
{f__law_unwritten : Addr} {od__law_unwritten an__law_unwritten : Option Addr} {sl__law_unwritten : Array (Option Value)} {oc__law_unwritten kV__law_unwritten dc__law_unwritten pm__law_unwritten cd__law_unwritten ct__law_unwritten : Value}
{f__law_mul : Addr} {od__law_mul an__law_mul : Option Addr} {sl__law_mul : Array (Option Value)} {oc__law_mul kV__law_mul dc__law_mul pm__law_mul cd__law_mul ct__law_mul : Value}
{f__law_value : Addr} {od__law_value an__law_value : Option Addr} {sl__law_value : Array (Option Value)} {oc__law_value kV__law_value dc__law_value pm__law_value cd__law_value ct__law_value : Value}
{f__law_mended : Addr} {od__law_mended an__law_mended : Option Addr} {sl__law_mended : Array (Option Value)} {oc__law_mended kV__law_mended dc__law_mended pm__law_mended cd__law_mended ct__law_mended : Value}
{f__law_packet : Addr} {od__law_packet an__law_packet : Option Addr} {sl__law_packet : Array (Option Value)} {oc__law_packet kV__law_packet dc__law_packet pm__law_packet cd__law_packet ct__law_packet : Value}
{f__law_read : Addr} {od__law_read an__law_read : Option Addr} {sl__law_read : Array (Option Value)} {oc__law_read kV__law_read dc__law_read pm__law_read cd__law_read ct__law_read : Value}
{f_mul : Addr} {od_mul an_mul : Option Addr} {sl_mul : Array (Option Value)} {oc_mul kV_mul dc_mul pm_mul cd_mul ct_mul : Value}
{f_checked : Addr} {od_checked an_checked : Option Addr} {sl_checked : Array (Option Value)} {oc_checked kV_checked dc_checked pm_checked cd_checked ct_checked : Value}
{f_frame : Addr} {od_frame an_frame : Option Addr} {sl_frame : Array (Option Value)} {oc_frame kV_frame dc_frame pm_frame cd_frame ct_frame : Value}
{f__law_octets : Addr} {od__law_octets an__law_octets : Option Addr} {sl__law_octets : Array (Option Value)} {oc__law_octets kV__law_octets dc__law_octets pm__law_octets cd__law_octets ct__law_octets : Value}
{f__unwritten : Addr} {od__unwritten an__unwritten : Option Addr} {sl__unwritten : Array (Option Value)} {oc__unwritten kV__unwritten dc__unwritten pm__unwritten cd__unwritten ct__unwritten : Value}
{f_value_at : Addr} {od_value_at an_value_at : Option Addr} {sl_value_at : Array (Option Value)} {oc_value_at kV_value_at dc_value_at pm_value_at cd_value_at ct_value_at : Value}
{f__values : Addr} {od__values an__values : Option Addr} {sl__values : Array (Option Value)} {oc__values kV__values dc__values pm__values cd__values ct__values : Value}
{f__power_of : Addr} {od__power_of an__power_of : Option Addr} {sl__power_of : Array (Option Value)} {oc__power_of kV__power_of dc__power_of pm__power_of cd__power_of ct__power_of : Value}
{f_power : Addr} {od_power an_power : Option Addr} {sl_power : Array (Option Value)} {oc_power kV_power dc_power pm_power cd_power ct_power : Value}
{f_inv : Addr} {od_inv an_inv : Option Addr} {sl_inv : Array (Option Value)} {oc_inv kV_inv dc_inv pm_inv cd_inv ct_inv : Value}
{f_div : Addr} {od_div an_div : Option Addr} {sl_div : Array (Option Value)} {oc_div kV_div dc_div pm_div cd_div ct_div : Value}
{f_mended : Addr} {od_mended an_mended : Option Addr} {sl_mended : Array (Option Value)} {oc_mended kV_mended dc_mended pm_mended cd_mended ct_mended : Value}
{f_law : Addr} {od_law an_law : Option Addr} {sl_law : Array (Option Value)} {oc_law kV_law dc_law pm_law cd_law ct_law : Value}
{C_ZeroElement : Addr}
{C_BadFrame : Addr}
{t_CHECKS : Tok}
{t_END : Tok}
{t_ESCAPE : Tok}
{t_LONGEST : Tok}
{t_LONGEST_PACKET : Tok}
{t_MOST_HELD : Tok}
{A_DIVISOR : Addr} {od_DIVISOR : Option Addr} {n_DIVISOR : Nat} {sl_DIVISOR : Array (Option Value)} {t_DIVISOR0 t_DIVISOR1 t_DIVISOR2 t_DIVISOR3 : Tok}
{A_POINTS : Addr} {od_POINTS : Option Addr} {n_POINTS : Nat} {sl_POINTS : Array (Option Value)} {t_POINTS0 t_POINTS1 t_POINTS2 t_POINTS3 : Tok}
{C_Sieve : Addr}
{f_Sieve____init__ : Addr} {od_Sieve____init__ an_Sieve____init__ : Option Addr} {sl_Sieve____init__ : Array (Option Value)} {oc_Sieve____init__ kV_Sieve____init__ dc_Sieve____init__ pm_Sieve____init__ cd_Sieve____init__ ct_Sieve____init__ : Value}
{f_Sieve___look : Addr} {od_Sieve___look an_Sieve___look : Option Addr} {sl_Sieve___look : Array (Option Value)} {oc_Sieve___look kV_Sieve___look dc_Sieve___look pm_Sieve___look cd_Sieve___look ct_Sieve___look : Value}
{f_Sieve__take : Addr} {od_Sieve__take an_Sieve__take : Option Addr} {sl_Sieve__take : Array (Option Value)} {oc_Sieve__take kV_Sieve__take dc_Sieve__take pm_Sieve__take cd_Sieve__take ct_Sieve__take : Value}
{f_Sieve__told : Addr} {od_Sieve__told an_Sieve__told : Option Addr} {sl_Sieve__told : Array (Option Value)} {oc_Sieve__told kV_Sieve__told dc_Sieve__told pm_Sieve__told cd_Sieve__told ct_Sieve__told : Value}
{f_Sieve__held : Addr} {od_Sieve__held an_Sieve__held : Option Addr} {sl_Sieve__held : Array (Option Value)} {oc_Sieve__held kV_Sieve__held dc_Sieve__held pm_Sieve__held cd_Sieve__held ct_Sieve__held : Value}
{A_ESCAPED : Addr} {n_ESCAPED : Nat} {t_ESCAPED0 u_ESCAPED0 t_ESCAPED1 u_ESCAPED1 : Tok}
{A_MEANT : Addr} {n_MEANT : Nat} {t_MEANT0 u_MEANT0 t_MEANT1 u_MEANT1 : Tok}
    (X : K.In h) (G : h.Ns mainGlobals mg) (hfa : mg "law" = some (.ref fa))     (a__law_draws : PySem.W.nsIn K mainGlobals "_law_draws" = some (some (.ref f__law_draws)))
    (l__law_draws : K.lookup f__law_draws = some ⟨oc__law_draws, od__law_draws, .func (PySem.W.fnOf "_law_draws" "_law_draws" (defArgs s__law_draws) (defBody s__law_draws) (defScope s__law_draws) .none kV__law_draws dc__law_draws pm__law_draws an__law_draws cd__law_draws ct__law_draws), sl__law_draws⟩)
    (c__law_draws : PySem.W.codeIn K cd__law_draws "_law_draws" = true)
    (k__law_draws : PySem.W.keepIn K (.ref f__law_draws) = true)
    (a__law_spoilt : PySem.W.nsIn K mainGlobals "_law_spoilt" = some (some (.ref f__law_spoilt)))
    (l__law_spoilt : K.lookup f__law_spoilt = some ⟨oc__law_spoilt, od__law_spoilt, .func (PySem.W.fnOf "_law_spoilt" "_law_spoilt" (defArgs s__law_spoilt) (defBody s__law_spoilt) (defScope s__law_spoilt) .none kV__law_spoilt dc__law_spoilt pm__law_spoilt an__law_spoilt cd__law_spoilt ct__law_spoilt), sl__law_spoilt⟩)
    (c__law_spoilt : PySem.W.codeIn K cd__law_spoilt "_law_spoilt" = true)
    (k__law_spoilt : PySem.W.keepIn K (.ref f__law_spoilt) = true)
    (a__law_unwritten : PySem.W.nsIn K mainGlobals "_law_unwritten" = some (some (.ref f__law_unwritten)))
    (l__law_unwritten : K.lookup f__law_unwritten = some ⟨oc__law_unwritten, od__law_unwritten, .func (PySem.W.fnOf "_law_unwritten" "_law_unwritten" (defArgs s__law_unwritten) (defBody s__law_unwritten) (defScope s__law_unwritten) .none kV__law_unwritten dc__law_unwritten pm__law_unwritten an__law_unwritten cd__law_unwritten ct__law_unwritten), sl__law_unwritten⟩)
    (c__law_unwritten : PySem.W.codeIn K cd__law_unwritten "_law_unwritten" = true)
    (k__law_unwritten : PySem.W.keepIn K (.ref f__law_unwritten) = true)
    (a__law_mul : PySem.W.nsIn K mainGlobals "_law_mul" = some (some (.ref f__law_mul)))
    (l__law_mul : K.lookup f__law_mul = some ⟨oc__law_mul, od__law_mul, .func (PySem.W.fnOf "_law_mul" "_law_mul" (defArgs s__law_mul) (defBody s__law_mul) (defScope s__law_mul) .none kV__law_mul dc__law_mul pm__law_mul an__law_mul cd__law_mul ct__law_mul), sl__law_mul⟩)
    (c__law_mul : PySem.W.codeIn K cd__law_mul "_law_mul" = true)
    (k__law_mul : PySem.W.keepIn K (.ref f__law_mul) = true)
    (a__law_value : PySem.W.nsIn K mainGlobals "_law_value" = some (some (.ref f__law_value)))
    (l__law_value : K.lookup f__law_value = some ⟨oc__law_value, od__law_value, .func (PySem.W.fnOf "_law_value" "_law_value" (defArgs s__law_value) (defBody s__law_value) (defScope s__law_value) .none kV__law_value dc__law_value pm__law_value an__law_value cd__law_value ct__law_value), sl__law_value⟩)
    (c__law_value : PySem.W.codeIn K cd__law_value "_law_value" = true)
    (k__law_value : PySem.W.keepIn K (.ref f__law_value) = true)
    (a__law_mended : PySem.W.nsIn K mainGlobals "_law_mended" = some (some (.ref f__law_mended)))
    (l__law_mended : K.lookup f__law_mended = some ⟨oc__law_mended, od__law_mended, .func (PySem.W.fnOf "_law_mended" "_law_mended" (defArgs s__law_mended) (defBody s__law_mended) (defScope s__law_mended) .none kV__law_mended dc__law_mended pm__law_mended an__law_mended cd__law_mended ct__law_mended), sl__law_mended⟩)
    (c__law_mended : PySem.W.codeIn K cd__law_mended "_law_mended" = true)
    (k__law_mended : PySem.W.keepIn K (.ref f__law_mended) = true)
    (a__law_packet : PySem.W.nsIn K mainGlobals "_law_packet" = some (some (.ref f__law_packet)))
    (l__law_packet : K.lookup f__law_packet = some ⟨oc__law_packet, od__law_packet, .func (PySem.W.fnOf "_law_packet" "_law_packet" (defArgs s__law_packet) (defBody s__law_packet) (defScope s__law_packet) .none kV__law_packet dc__law_packet pm__law_packet an__law_packet cd__law_packet ct__law_packet), sl__law_packet⟩)
    (c__law_packet : PySem.W.codeIn K cd__law_packet "_law_packet" = true)
    (k__law_packet : PySem.W.keepIn K (.ref f__law_packet) = true)
    (a__law_read : PySem.W.nsIn K mainGlobals "_law_read" = some (some (.ref f__law_read)))
    (l__law_read : K.lookup f__law_read = some ⟨oc__law_read, od__law_read, .func (PySem.W.fnOf "_law_read" "_law_read" (defArgs s__law_read) (defBody s__law_read) (defScope s__law_read) .none kV__law_read dc__law_read pm__law_read an__law_read cd__law_read ct__law_read), sl__law_read⟩)
    (c__law_read : PySem.W.codeIn K cd__law_read "_law_read" = true)
    (k__law_read : PySem.W.keepIn K (.ref f__law_read) = true)
    (a_mul : PySem.W.nsIn K mainGlobals "mul" = some (some (.ref f_mul)))
    (l_mul : K.lookup f_mul = some ⟨oc_mul, od_mul, .func (PySem.W.fnOf "mul" "mul" (defArgs s_mul) (defBody s_mul) (defScope s_mul) .none kV_mul dc_mul pm_mul an_mul cd_mul ct_mul), sl_mul⟩)
    (c_mul : PySem.W.codeIn K cd_mul "mul" = true)
    (k_mul : PySem.W.keepIn K (.ref f_mul) = true)
    (a_checked : PySem.W.nsIn K mainGlobals "checked" = some (some (.ref f_checked)))
    (l_checked : K.lookup f_checked = some ⟨oc_checked, od_checked, .func (PySem.W.fnOf "checked" "checked" (defArgs s_checked) (defBody s_checked) (defScope s_checked) .none kV_checked dc_checked pm_checked an_checked cd_checked ct_checked), sl_checked⟩)
    (c_checked : PySem.W.codeIn K cd_checked "checked" = true)
    (k_checked : PySem.W.keepIn K (.ref f_checked) = true)
    (a_frame : PySem.W.nsIn K mainGlobals "frame" = some (some (.ref f_frame)))
    (l_frame : K.lookup f_frame = some ⟨oc_frame, od_frame, .func (PySem.W.fnOf "frame" "frame" (defArgs s_frame) (defBody s_frame) (defScope s_frame) .none kV_frame dc_frame pm_frame an_frame cd_frame ct_frame), sl_frame⟩)
    (c_frame : PySem.W.codeIn K cd_frame "frame" = true)
    (k_frame : PySem.W.keepIn K (.ref f_frame) = true)
    (a__law_octets : PySem.W.nsIn K mainGlobals "_law_octets" = some (some (.ref f__law_octets)))
    (l__law_octets : K.lookup f__law_octets = some ⟨oc__law_octets, od__law_octets, .func (PySem.W.fnOf "_law_octets" "_law_octets" (defArgs s__law_octets) (defBody s__law_octets) (defScope s__law_octets) .none kV__law_octets dc__law_octets pm__law_octets an__law_octets cd__law_octets ct__law_octets), sl__law_octets⟩)
    (c__law_octets : PySem.W.codeIn K cd__law_octets "_law_octets" = true)
    (k__law_octets : PySem.W.keepIn K (.ref f__law_octets) = true)
    (a__unwritten : PySem.W.nsIn K mainGlobals "_unwritten" = some (some (.ref f__unwritten)))
    (l__unwritten : K.lookup f__unwritten = some ⟨oc__unwritten, od__unwritten, .func (PySem.W.fnOf "_unwritten" "_unwritten" (defArgs s__unwritten) (defBody s__unwritten) (defScope s__unwritten) .none kV__unwritten dc__unwritten pm__unwritten an__unwritten cd__unwritten ct__unwritten), sl__unwritten⟩)
    (c__unwritten : PySem.W.codeIn K cd__unwritten "_unwritten" = true)
    (k__unwritten : PySem.W.keepIn K (.ref f__unwritten) = true)
    (a_value_at : PySem.W.nsIn K mainGlobals "value_at" = some (some (.ref f_value_at)))
    (l_value_at : K.lookup f_value_at = some ⟨oc_value_at, od_value_at, .func (PySem.W.fnOf "value_at" "value_at" (defArgs s_value_at) (defBody s_value_at) (defScope s_value_at) .none kV_value_at dc_value_at pm_value_at an_value_at cd_value_at ct_value_at), sl_value_at⟩)
    (c_value_at : PySem.W.codeIn K cd_value_at "value_at" = true)
    (k_value_at : PySem.W.keepIn K (.ref f_value_at) = true)
    (a__values : PySem.W.nsIn K mainGlobals "_values" = some (some (.ref f__values)))
    (l__values : K.lookup f__values = some ⟨oc__values, od__values, .func (PySem.W.fnOf "_values" "_values" (defArgs s__values) (defBody s__values) (defScope s__values) .none kV__values dc__values pm__values an__values cd__values ct__values), sl__values⟩)
    (c__values : PySem.W.codeIn K cd__values "_values" = true)
    (k__values : PySem.W.keepIn K (.ref f__values) = true)
    (a__power_of : PySem.W.nsIn K mainGlobals "_power_of" = some (some (.ref f__power_of)))
    (l__power_of : K.lookup f__power_of = some ⟨oc__power_of, od__power_of, .func (PySem.W.fnOf "_power_of" "_power_of" (defArgs s__power_of) (defBody s__power_of) (defScope s__power_of) .none kV__power_of dc__power_of pm__power_of an__power_of cd__power_of ct__power_of), sl__power_of⟩)
    (c__power_of : PySem.W.codeIn K cd__power_of "_power_of" = true)
    (k__power_of : PySem.W.keepIn K (.ref f__power_of) = true)
    (a_power : PySem.W.nsIn K mainGlobals "power" = some (some (.ref f_power)))
    (l_power : K.lookup f_power = some ⟨oc_power, od_power, .func (PySem.W.fnOf "power" "power" (defArgs s_power) (defBody s_power) (defScope s_power) .none kV_power dc_power pm_power an_power cd_power ct_power), sl_power⟩)
    (c_power : PySem.W.codeIn K cd_power "power" = true)
    (k_power : PySem.W.keepIn K (.ref f_power) = true)
    (a_inv : PySem.W.nsIn K mainGlobals "inv" = some (some (.ref f_inv)))
    (l_inv : K.lookup f_inv = some ⟨oc_inv, od_inv, .func (PySem.W.fnOf "inv" "inv" (defArgs s_inv) (defBody s_inv) (defScope s_inv) .none kV_inv dc_inv pm_inv an_inv cd_inv ct_inv), sl_inv⟩)
    (c_inv : PySem.W.codeIn K cd_inv "inv" = true)
    (k_inv : PySem.W.keepIn K (.ref f_inv) = true)
    (a_div : PySem.W.nsIn K mainGlobals "div" = some (some (.ref f_div)))
    (l_div : K.lookup f_div = some ⟨oc_div, od_div, .func (PySem.W.fnOf "div" "div" (defArgs s_div) (defBody s_div) (defScope s_div) .none kV_div dc_div pm_div an_div cd_div ct_div), sl_div⟩)
    (c_div : PySem.W.codeIn K cd_div "div" = true)
    (k_div : PySem.W.keepIn K (.ref f_div) = true)
    (a_mended : PySem.W.nsIn K mainGlobals "mended" = some (some (.ref f_mended)))
    (l_mended : K.lookup f_mended = some ⟨oc_mended, od_mended, .func (PySem.W.fnOf "mended" "mended" (defArgs s_mended) (defBody s_mended) (defScope s_mended) .none kV_mended dc_mended pm_mended an_mended cd_mended ct_mended), sl_mended⟩)
    (c_mended : PySem.W.codeIn K cd_mended "mended" = true)
    (k_mended : PySem.W.keepIn K (.ref f_mended) = true)
    (a_law : PySem.W.nsIn K mainGlobals "law" = some (some (.ref f_law)))
    (l_law : K.lookup f_law = some ⟨oc_law, od_law, .func (PySem.W.fnOf "law" "law" (defArgs s_law) (defBody s_law) (defScope s_law) .none kV_law dc_law pm_law an_law cd_law ct_law), sl_law⟩)
    (c_law : PySem.W.codeIn K cd_law "law" = true)
    (k_law : PySem.W.keepIn K (.ref f_law) = true)
    (z_abs : PySem.W.nsIn K mainGlobals "abs" = some none)
    (z_int : PySem.W.nsIn K mainGlobals "int" = some none)
    (z_len : PySem.W.nsIn K mainGlobals "len" = some none)
    (z_list : PySem.W.nsIn K mainGlobals "list" = some none)
    (z_max : PySem.W.nsIn K mainGlobals "max" = some none)
    (z_min : PySem.W.nsIn K mainGlobals "min" = some none)
    (z_range : PySem.W.nsIn K mainGlobals "range" = some none)
    (z_tuple : PySem.W.nsIn K mainGlobals "tuple" = some none)
    (a_ZeroElement : PySem.W.nsIn K mainGlobals "ZeroElement" = some (some (.ref C_ZeroElement)))
    (b_ZeroElement : PySem.W.subIn K (.ref C_ZeroElement) (.type "BaseException") = some true)
    (t_ZeroElement : PySem.W.typeIn K (.ref C_ZeroElement) = some (.type "type"))
    (h_ZeroElement : PySem.W.hasDictIn K C_ZeroElement = true)
    (x_ZeroElement : PySem.W.excIn K C_ZeroElement [.type "ValueError", .type "Exception", .type "BaseException", .type "object"] "ValueError.__new__" = true)
    (k_ZeroElement : PySem.W.keepIn K (.ref C_ZeroElement) = true)
    (a_BadFrame : PySem.W.nsIn K mainGlobals "BadFrame" = some (some (.ref C_BadFrame)))
    (b_BadFrame : PySem.W.subIn K (.ref C_BadFrame) (.type "BaseException") = some true)
    (t_BadFrame : PySem.W.typeIn K (.ref C_BadFrame) = some (.type "type"))
    (h_BadFrame : PySem.W.hasDictIn K C_BadFrame = true)
    (x_BadFrame : PySem.W.excIn K C_BadFrame [.type "ValueError", .type "Exception", .type "BaseException", .type "object"] "ValueError.__new__" = true)
    (k_BadFrame : PySem.W.keepIn K (.ref C_BadFrame) = true)
    (a_CHECKS : PySem.W.nsIn K mainGlobals "CHECKS" = some (some (.int 4 t_CHECKS)))
    (a_END : PySem.W.nsIn K mainGlobals "END" = some (some (.int 126 t_END)))
    (a_ESCAPE : PySem.W.nsIn K mainGlobals "ESCAPE" = some (some (.int 125 t_ESCAPE)))
    (a_LONGEST : PySem.W.nsIn K mainGlobals "LONGEST" = some (some (.int 255 t_LONGEST)))
    (a_LONGEST_PACKET : PySem.W.nsIn K mainGlobals "LONGEST_PACKET" = some (some (.int 251 t_LONGEST_PACKET)))
    (a_MOST_HELD : PySem.W.nsIn K mainGlobals "MOST_HELD" = some (some (.int 510 t_MOST_HELD)))
    (a_DIVISOR : PySem.W.nsIn K mainGlobals "DIVISOR" = some (some (.ref A_DIVISOR)))
    (l_DIVISOR : K.lookup A_DIVISOR = some ⟨.type "tuple", od_DIVISOR, .seq #[.int (15) t_DIVISOR0, .int (54) t_DIVISOR1, .int (120) t_DIVISOR2, .int (64) t_DIVISOR3] n_DIVISOR, sl_DIVISOR⟩)
    (a_POINTS : PySem.W.nsIn K mainGlobals "POINTS" = some (some (.ref A_POINTS)))
    (l_POINTS : K.lookup A_POINTS = some ⟨.type "tuple", od_POINTS, .seq #[.int (1) t_POINTS0, .int (2) t_POINTS1, .int (4) t_POINTS2, .int (8) t_POINTS3] n_POINTS, sl_POINTS⟩)
    (a_Sieve : PySem.W.nsIn K mainGlobals "Sieve" = some (some (.ref C_Sieve)))
    (pg_Sieve : PySem.W.plainGet K C_Sieve Str.empty = true)
    (hd_Sieve : PySem.W.hasDictIn K C_Sieve = true)
    (po_Sieve : PySem.W.plainOver K C_Sieve = true)
    (sa_Sieve : PySem.W.findIn K (.ref C_Sieve) "__setattr__" = some (some (.builtin "object.__setattr__")))
    (mk_Sieve : PySem.W.makesIn K C_Sieve = true)
    (kc_Sieve : PySem.W.keepIn K (.ref C_Sieve) = true)
    (n_Sieve__octets : PySem.W.findIn K (.ref C_Sieve) "_octets" = some none)
    (n_Sieve__count : PySem.W.findIn K (.ref C_Sieve) "_count" = some none)
    (n_Sieve__told : PySem.W.findIn K (.ref C_Sieve) "_told" = some none)
    (a_Sieve____init__ : PySem.W.findIn K (.ref C_Sieve) "__init__" = some (some (.ref f_Sieve____init__)))
    (i_Sieve____init__ : PySem.W.isFn K (.ref f_Sieve____init__) = true)
    (l_Sieve____init__ : K.lookup f_Sieve____init__ = some ⟨oc_Sieve____init__, od_Sieve____init__, .func (PySem.W.fnOf "__init__" "Sieve.__init__" (defArgs s_Sieve____init__) (defBody s_Sieve____init__) (defScope s_Sieve____init__) .none kV_Sieve____init__ dc_Sieve____init__ pm_Sieve____init__ an_Sieve____init__ cd_Sieve____init__ ct_Sieve____init__), sl_Sieve____init__⟩)
    (c_Sieve____init__ : PySem.W.codeIn K cd_Sieve____init__ "Sieve.__init__" = true)
    (k_Sieve____init__ : PySem.W.keepIn K (.ref f_Sieve____init__) = true)
    (a_Sieve___look : PySem.W.findIn K (.ref C_Sieve) "_look" = some (some (.ref f_Sieve___look)))
    (i_Sieve___look : PySem.W.isFn K (.ref f_Sieve___look) = true)
    (l_Sieve___look : K.lookup f_Sieve___look = some ⟨oc_Sieve___look, od_Sieve___look, .func (PySem.W.fnOf "_look" "Sieve._look" (defArgs s_Sieve___look) (defBody s_Sieve___look) (defScope s_Sieve___look) .none kV_Sieve___look dc_Sieve___look pm_Sieve___look an_Sieve___look cd_Sieve___look ct_Sieve___look), sl_Sieve___look⟩)
    (c_Sieve___look : PySem.W.codeIn K cd_Sieve___look "Sieve._look" = true)
    (k_Sieve___look : PySem.W.keepIn K (.ref f_Sieve___look) = true)
    (a_Sieve__take : PySem.W.findIn K (.ref C_Sieve) "take" = some (some (.ref f_Sieve__take)))
    (i_Sieve__take : PySem.W.isFn K (.ref f_Sieve__take) = true)
    (l_Sieve__take : K.lookup f_Sieve__take = some ⟨oc_Sieve__take, od_Sieve__take, .func (PySem.W.fnOf "take" "Sieve.take" (defArgs s_Sieve__take) (defBody s_Sieve__take) (defScope s_Sieve__take) .none kV_Sieve__take dc_Sieve__take pm_Sieve__take an_Sieve__take cd_Sieve__take ct_Sieve__take), sl_Sieve__take⟩)
    (c_Sieve__take : PySem.W.codeIn K cd_Sieve__take "Sieve.take" = true)
    (k_Sieve__take : PySem.W.keepIn K (.ref f_Sieve__take) = true)
    (a_Sieve__told : PySem.W.findIn K (.ref C_Sieve) "told" = some (some (.ref f_Sieve__told)))
    (i_Sieve__told : PySem.W.isFn K (.ref f_Sieve__told) = true)
    (l_Sieve__told : K.lookup f_Sieve__told = some ⟨oc_Sieve__told, od_Sieve__told, .func (PySem.W.fnOf "told" "Sieve.told" (defArgs s_Sieve__told) (defBody s_Sieve__told) (defScope s_Sieve__told) .none kV_Sieve__told dc_Sieve__told pm_Sieve__told an_Sieve__told cd_Sieve__told ct_Sieve__told), sl_Sieve__told⟩)
    (c_Sieve__told : PySem.W.codeIn K cd_Sieve__told "Sieve.told" = true)
    (k_Sieve__told : PySem.W.keepIn K (.ref f_Sieve__told) = true)
    (a_Sieve__held : PySem.W.findIn K (.ref C_Sieve) "held" = some (some (.ref f_Sieve__held)))
    (i_Sieve__held : PySem.W.isFn K (.ref f_Sieve__held) = true)
    (l_Sieve__held : K.lookup f_Sieve__held = some ⟨oc_Sieve__held, od_Sieve__held, .func (PySem.W.fnOf "held" "Sieve.held" (defArgs s_Sieve__held) (defBody s_Sieve__held) (defScope s_Sieve__held) .none kV_Sieve__held dc_Sieve__held pm_Sieve__held an_Sieve__held cd_Sieve__held ct_Sieve__held), sl_Sieve__held⟩)
    (c_Sieve__held : PySem.W.codeIn K cd_Sieve__held "Sieve.held" = true)
    (k_Sieve__held : PySem.W.keepIn K (.ref f_Sieve__held) = true)
    (a_ESCAPED : PySem.W.nsIn K mainGlobals "ESCAPED" = some (some (.ref A_ESCAPED)))
    (l_ESCAPED : K.lookup A_ESCAPED = some ⟨.type "dict", none, .dict #[⟨125, .int 125 t_ESCAPED0, .int 93 u_ESCAPED0⟩, ⟨126, .int 126 t_ESCAPED1, .int 94 u_ESCAPED1⟩] n_ESCAPED, #[]⟩)
    (y_ESCAPED : (A_ESCAPED == sysModules) = false)
    (a_MEANT : PySem.W.nsIn K mainGlobals "MEANT" = some (some (.ref A_MEANT)))
    (l_MEANT : K.lookup A_MEANT = some ⟨.type "dict", none, .dict #[⟨93, .int 93 t_MEANT0, .int 125 u_MEANT0⟩, ⟨94, .int 94 t_MEANT1, .int 126 u_MEANT1⟩] n_MEANT, #[]⟩)
    (y_MEANT : (A_MEANT == sysModules) = false) :
    ∃ fd : FuncData, (∀ (s : Shared) (v : Value), BindsTo s fd ⟨[v], []⟩ [("script", v)]) ∧ ∀ base : Heap, K.In base → base.Ns mainGlobals mg → FnOk l.prog w K mg base (L2.CX l.prog w) 8 fa fd ["script"] (spLaw K) := by
  have e := hfa.symm.trans (PySem.W.mg_of X G a_law)
  cases e
  have F__law_draws := fun_mk (st := s__law_draws) l__law_draws c__law_draws k__law_draws
  have F__law_spoilt := fun_mk (st := s__law_spoilt) l__law_spoilt c__law_spoilt k__law_spoilt
  have F__law_unwritten := fun_mk (st := s__law_unwritten) l__law_unwritten c__law_unwritten k__law_unwritten
  have F__law_mul := fun_mk (st := s__law_mul) l__law_mul c__law_mul k__law_mul
  have F__law_value := fun_mk (st := s__law_value) l__law_value c__law_value k__law_value
  have F__law_mended := fun_mk (st := s__law_mended) l__law_mended c__law_mended k__law_mended
  have F__law_packet := fun_mk (st := s__law_packet) l__law_packet c__law_packet k__law_packet
  have F__law_read := fun_mk (st := s__law_read) l__law_read c__law_read k__law_read
  have F_mul := fun_mk (st := s_mul) l_mul c_mul k_mul
  have F_checked := fun_mk (st := s_checked) l_checked c_checked k_checked
  have F_frame := fun_mk (st := s_frame) l_frame c_frame k_frame
  have F__law_octets := fun_mk (st := s__law_octets) l__law_octets c__law_octets k__law_octets
  have F__unwritten := fun_mk (st := s__unwritten) l__unwritten c__unwritten k__unwritten
  have F_value_at := fun_mk (st := s_value_at) l_value_at c_value_at k_value_at
  have F__values := fun_mk (st := s__values) l__values c__values k__values
  have F__power_of := fun_mk (st := s__power_of) l__power_of c__power_of k__power_of
  have F_power := fun_mk (st := s_power) l_power c_power k_power
  have F_inv := fun_mk (st := s_inv) l_inv c_inv k_inv
  have F_div := fun_mk (st := s_div) l_div c_div k_div
  have F_mended := fun_mk (st := s_mended) l_mended c_mended k_mended
  have F_law := fun_mk (st := s_law) l_law c_law k_law
  have F_Sieve____init__ := fun_mk (st := s_Sieve____init__) l_Sieve____init__ c_Sieve____init__ k_Sieve____init__
  have F_Sieve___look := fun_mk (st := s_Sieve___look) l_Sieve___look c_Sieve___look k_Sieve___look
  have F_Sieve__take := fun_mk (st := s_Sieve__take) l_Sieve__take c_Sieve__take k_Sieve__take
  have F_Sieve__told := fun_mk (st := s_Sieve__told) l_Sieve__told c_Sieve__told k_Sieve__told
  have F_Sieve__held := fun_mk (st := s_Sieve__held) l_Sieve__held c_Sieve__held k_Sieve__held
  let tx : Tx K mg := {
    a__law_draws := f__law_draws,
    d__law_draws := _,
    F__law_draws := F__law_draws,
    b__law_draws := (F__law_draws.binds (ps := ["script", "many"]) fun _ _ _ _ _ _ us hl => match us, hl with | [_, _], _ => rfl),
    g__law_draws := PySem.W.mg_of X G a__law_draws,
    a__law_spoilt := f__law_spoilt,
    d__law_spoilt := _,
    F__law_spoilt := F__law_spoilt,
    b__law_spoilt := (F__law_spoilt.binds (ps := ["stream", "draws", "many"]) fun _ _ _ _ _ _ us hl => match us, hl with | [_, _, _], _ => rfl),
    g__law_spoilt := PySem.W.mg_of X G a__law_spoilt,
    a__law_unwritten := f__law_unwritten,
    d__law_unwritten := _,
    F__law_unwritten := F__law_unwritten,
    b__law_unwritten := (F__law_unwritten.binds (ps := ["octets"]) fun _ _ _ _ _ _ us hl => match us, hl with | [_], _ => rfl),
    g__law_unwritten := PySem.W.mg_of X G a__law_unwritten,
    a__law_mul := f__law_mul,
    d__law_mul := _,
    F__law_mul := F__law_mul,
    b__law_mul := (F__law_mul.binds (ps := ["a", "b"]) fun _ _ _ _ _ _ us hl => match us, hl with | [_, _], _ => rfl),
    g__law_mul := PySem.W.mg_of X G a__law_mul,
    a__law_value := f__law_value,
    d__law_value := _,
    F__law_value := F__law_value,
    b__law_value := (F__law_value.binds (ps := ["octets", "x"]) fun _ _ _ _ _ _ us hl => match us, hl with | [_, _], _ => rfl),
    g__law_value := PySem.W.mg_of X G a__law_value,
    a__law_mended := f__law_mended,
    d__law_mended := _,
    F__law_mended := F__law_mended,
    b__law_mended := (F__law_mended.binds (ps := ["octets"]) fun _ _ _ _ _ _ us hl => match us, hl with | [_], _ => rfl),
    g__law_mended := PySem.W.mg_of X G a__law_mended,
    a__law_packet := f__law_packet,
    d__law_packet := _,
    F__law_packet := F__law_packet,
    b__law_packet := (F__law_packet.binds (ps := ["octets"]) fun _ _ _ _ _ _ us hl => match us, hl with | [_], _ => rfl),
    g__law_packet := PySem.W.mg_of X G a__law_packet,
    a__law_read := f__law_read,
    d__law_read := _,
    F__law_read := F__law_read,
    b__law_read := (F__law_read.binds (ps := ["stream"]) fun _ _ _ _ _ _ us hl => match us, hl with | [_], _ => rfl),
    g__law_read := PySem.W.mg_of X G a__law_read,
    a_mul := f_mul,
    d_mul := _,
    F_mul := F_mul,
    b_mul := (F_mul.binds (ps := ["a", "b"]) fun _ _ _ _ _ _ us hl => match us, hl with | [_, _], _ => rfl),
    g_mul := PySem.W.mg_of X G a_mul,
    a_checked := f_checked,
    d_checked := _,
    F_checked := F_checked,
    b_checked := (F_checked.binds (ps := ["octets"]) fun _ _ _ _ _ _ us hl => match us, hl with | [_], _ => rfl),
    g_checked := PySem.W.mg_of X G a_checked,
    a_frame := f_frame,
    d_frame := _,
    F_frame := F_frame,
    b_frame := (F_frame.binds (ps := ["packet"]) fun _ _ _ _ _ _ us hl => match us, hl with | [_], _ => rfl),
    g_frame := PySem.W.mg_of X G a_frame,
    a__law_octets := f__law_octets,
    d__law_octets := _,
    F__law_octets := F__law_octets,
    b__law_octets := (F__law_octets.binds (ps := ["draws", "many"]) fun _ _ _ _ _ _ us hl => match us, hl with | [_, _], _ => rfl),
    g__law_octets := PySem.W.mg_of X G a__law_octets,
    a__unwritten := f__unwritten,
    d__unwritten := _,
    F__unwritten := F__unwritten,
    b__unwritten := (F__unwritten.binds (ps := ["octets"]) fun _ _ _ _ _ _ us hl => match us, hl with | [_], _ => rfl),
    g__unwritten := PySem.W.mg_of X G a__unwritten,
    a_value_at := f_value_at,
    d_value_at := _,
    F_value_at := F_value_at,
    b_value_at := (F_value_at.binds (ps := ["octets", "x"]) fun _ _ _ _ _ _ us hl => match us, hl with | [_, _], _ => rfl),
    g_value_at := PySem.W.mg_of X G a_value_at,
    a__values := f__values,
    d__values := _,
    F__values := F__values,
    b__values := (F__values.binds (ps := ["octets"]) fun _ _ _ _ _ _ us hl => match us, hl with | [_], _ => rfl),
    g__values := PySem.W.mg_of X G a__values,
    a__power_of := f__power_of,
    d__power_of := _,
    F__power_of := F__power_of,
    b__power_of := (F__power_of.binds (ps := ["octet"]) fun _ _ _ _ _ _ us hl => match us, hl with | [_], _ => rfl),
    g__power_of := PySem.W.mg_of X G a__power_of,
    a_power := f_power,
    d_power := _,
    F_power := F_power,
    b_power := (F_power.binds (ps := ["a", "n"]) fun _ _ _ _ _ _ us hl => match us, hl with | [_, _], _ => rfl),
    g_power := PySem.W.mg_of X G a_power,
    a_inv := f_inv,
    d_inv := _,
    F_inv := F_inv,
    b_inv := (F_inv.binds (ps := ["a"]) fun _ _ _ _ _ _ us hl => match us, hl with | [_], _ => rfl),
    g_inv := PySem.W.mg_of X G a_inv,
    a_div := f_div,
    d_div := _,
    F_div := F_div,
    b_div := (F_div.binds (ps := ["a", "b"]) fun _ _ _ _ _ _ us hl => match us, hl with | [_, _], _ => rfl),
    g_div := PySem.W.mg_of X G a_div,
    a_mended := f_mended,
    d_mended := _,
    F_mended := F_mended,
    b_mended := (F_mended.binds (ps := ["octets"]) fun _ _ _ _ _ _ us hl => match us, hl with | [_], _ => rfl),
    g_mended := PySem.W.mg_of X G a_mended,
    a_law := fa,
    d_law := _,
    F_law := F_law,
    b_law := (F_law.binds (ps := ["script"]) fun _ _ _ _ _ _ us hl => match us, hl with | [_], _ => rfl),
    g_law := PySem.W.mg_of X G a_law,
    b_abs := PySem.W.mg_none_of X G z_abs,
    b_int := PySem.W.mg_none_of X G z_int,
    b_len := PySem.W.mg_none_of X G z_len,
    b_list := PySem.W.mg_none_of X G z_list,
    b_max := PySem.W.mg_none_of X G z_max,
    b_min := PySem.W.mg_none_of X G z_min,
    b_range := PySem.W.mg_none_of X G z_range,
    b_tuple := PySem.W.mg_none_of X G z_tuple,
    e_ZeroElement := C_ZeroElement,
    x_ZeroElement := ⟨PySem.W.mg_of X G a_ZeroElement, x_ZeroElement, k_ZeroElement, b_ZeroElement, t_ZeroElement⟩,
    e_BadFrame := C_BadFrame,
    x_BadFrame := ⟨PySem.W.mg_of X G a_BadFrame, x_BadFrame, k_BadFrame, b_BadFrame, t_BadFrame⟩,
    k_CHECKS := t_CHECKS,
    c_CHECKS := PySem.W.mg_of X G a_CHECKS,
    k_END := t_END,
    c_END := PySem.W.mg_of X G a_END,
    k_ESCAPE := t_ESCAPE,
    c_ESCAPE := PySem.W.mg_of X G a_ESCAPE,
    k_LONGEST := t_LONGEST,
    c_LONGEST := PySem.W.mg_of X G a_LONGEST,
    k_LONGEST_PACKET := t_LONGEST_PACKET,
    c_LONGEST_PACKET := PySem.W.mg_of X G a_LONGEST_PACKET,
    k_MOST_HELD := t_MOST_HELD,
    c_MOST_HELD := PySem.W.mg_of X G a_MOST_HELD,
    ga_DIVISOR := A_DIVISOR,
    gt_DIVISOR := PySem.W.mg_of X G a_DIVISOR,
    gv_DIVISOR := ⟨_, _, _, l_DIVISOR, rfl, rfl, Nat.le_of_ble_eq_true rfl, (Paired.cons ⟨_, rfl⟩ (Paired.cons ⟨_, rfl⟩ (Paired.cons ⟨_, rfl⟩ (Paired.cons ⟨_, rfl⟩ Paired.nil))))⟩,
    ga_POINTS := A_POINTS,
    gt_POINTS := PySem.W.mg_of X G a_POINTS,
    gv_POINTS := ⟨_, _, _, l_POINTS, rfl, rfl, Nat.le_of_ble_eq_true rfl, (Paired.cons ⟨_, rfl⟩ (Paired.cons ⟨_, rfl⟩ (Paired.cons ⟨_, rfl⟩ (Paired.cons ⟨_, rfl⟩ Paired.nil))))⟩,
    e_Sieve := C_Sieve,
    gc_Sieve := PySem.W.mg_of X G a_Sieve,
    cl_Sieve := ⟨pg_Sieve, hd_Sieve, po_Sieve, sa_Sieve⟩,
    na_Sieve__octets := n_Sieve__octets,
    na_Sieve__count := n_Sieve__count,
    na_Sieve__told := n_Sieve__told,
    a_Sieve____init__ := f_Sieve____init__,
    d_Sieve____init__ := _,
    F_Sieve____init__ := F_Sieve____init__,
    b_Sieve____init__ := (F_Sieve____init__.binds (ps := ["self"]) fun _ _ _ _ _ _ us hl => match us, hl with | [_], _ => rfl),
    mk_Sieve := ⟨mk_Sieve, a_Sieve____init__, i_Sieve____init__, kc_Sieve⟩,
    a_Sieve___look := f_Sieve___look,
    d_Sieve___look := _,
    F_Sieve___look := F_Sieve___look,
    b_Sieve___look := (F_Sieve___look.binds (ps := ["self"]) fun _ _ _ _ _ _ us hl => match us, hl with | [_], _ => rfl),
    h_Sieve___look := ⟨a_Sieve___look, i_Sieve___look, k_Sieve___look⟩,
    a_Sieve__take := f_Sieve__take,
    d_Sieve__take := _,
    F_Sieve__take := F_Sieve__take,
    b_Sieve__take := (F_Sieve__take.binds (ps := ["self", "octets"]) fun _ _ _ _ _ _ us hl => match us, hl with | [_, _], _ => rfl),
    h_Sieve__take := ⟨a_Sieve__take, i_Sieve__take, k_Sieve__take⟩,
    a_Sieve__told := f_Sieve__told,
    d_Sieve__told := _,
    F_Sieve__told := F_Sieve__told,
    b_Sieve__told := (F_Sieve__told.binds (ps := ["self"]) fun _ _ _ _ _ _ us hl => match us, hl with | [_], _ => rfl),
    h_Sieve__told := ⟨a_Sieve__told, i_Sieve__told, k_Sieve__told⟩,
    a_Sieve__held := f_Sieve__held,
    d_Sieve__held := _,
    F_Sieve__held := F_Sieve__held,
    b_Sieve__held := (F_Sieve__held.binds (ps := ["self"]) fun _ _ _ _ _ _ us hl => match us, hl with | [_], _ => rfl),
    h_Sieve__held := ⟨a_Sieve__held, i_Sieve__held, k_Sieve__held⟩,
    gda_ESCAPED := A_ESCAPED,
    gdm_ESCAPED := PySem.W.mg_of X G a_ESCAPED,
    gdv_ESCAPED := ⟨y_ESCAPED, by decide, _, _, l_ESCAPED, (Paired.cons ⟨_, _, rfl⟩ (Paired.cons ⟨_, _, rfl⟩ Paired.nil))⟩,
    gda_MEANT := A_MEANT,
    gdm_MEANT := PySem.W.mg_of X G a_MEANT,
    gdv_MEANT := ⟨y_MEANT, by decide, _, _, l_MEANT, (Paired.cons ⟨_, _, rfl⟩ (Paired.cons ⟨_, _, rfl⟩ Paired.nil))⟩ }
  exact ⟨tx.d_law, fun s v => .of_eq rfl, fun base _ _ => law_of law_true (ok_law tx)⟩
end K58
open PySem PySem.W PyProof.Rows
set_option maxHeartbeats 0 in
theorem PySem.Challenge.cw_cairnhouse_k58_sieves_of_spoilt_streams_holds : PySem.Challenge.rw_cairnhouse_k58_sieves_of_spoilt_streams.Holds := by
  w_on; o_law; k_head; (case hw => w_witness2)
  k_fill
  refine L2.walk_of (l := PySem.Challenge.rw_cairnhouse_k58_sieves_of_spoilt_streams) (n := 63) (k := 8) (x := "script") (CX := fun w => L2.CX PySem.Challenge.rw_cairnhouse_k58_sieves_of_spoilt_streams.prog w) (sp := fun w => Cn.spLaw _) rfl (by decide) rfl ⟨rfl, by decide, by decide⟩ (fun w h Y => PySem.W.kIn_of Y) ?F (fun _ _ a ns hl _ hS => ⟨a, ns, rfl, hS, hl, fun _ => rfl⟩) (fun _ _ _ _ _ h => Cn.cx_false h)
  case F =>
    intro w mg fa h KX G hmg
    refine' K58.all_mk KX G hmg ?a__law_draws ?l__law_draws ?c__law_draws ?k__law_draws ?a__law_spoilt ?l__law_spoilt ?c__law_spoilt ?k__law_spoilt ?a__law_unwritten ?l__law_unwritten ?c__law_unwritten ?k__law_unwritten ?a__law_mul ?l__law_mul ?c__law_mul ?k__law_mul ?a__law_value ?l__law_value ?c__law_value ?k__law_value ?a__law_mended ?l__law_mended ?c__law_mended ?k__law_mended ?a__law_packet ?l__law_packet ?c__law_packet ?k__law_packet ?a__law_read ?l__law_read ?c__law_read ?k__law_read ?a_mul ?l_mul ?c_mul ?k_mul ?a_checked ?l_checked ?c_checked ?k_checked ?a_frame ?l_frame ?c_frame ?k_frame ?a__law_octets ?l__law_octets ?c__law_octets ?k__law_octets ?a__unwritten ?l__unwritten ?c__unwritten ?k__unwritten ?a_value_at ?l_value_at ?c_value_at ?k_value_at ?a__values ?l__values ?c__values ?k__values ?a__power_of ?l__power_of ?c__power_of ?k__power_of ?a_power ?l_power ?c_power ?k_power ?a_inv ?l_inv ?c_inv ?k_inv ?a_div ?l_div ?c_div ?k_div ?a_mended ?l_mended ?c_mended ?k_mended ?a_law ?l_law ?c_law ?k_law ?z_abs ?z_int ?z_len ?z_list ?z_max ?z_min ?z_range ?z_tuple ?a_ZeroElement ?b_ZeroElement ?t_ZeroElement ?h_ZeroElement ?x_ZeroElement ?k_ZeroElement ?a_BadFrame ?b_BadFrame ?t_BadFrame ?h_BadFrame ?x_BadFrame ?k_BadFrame ?a_CHECKS ?a_END ?a_ESCAPE ?a_LONGEST ?a_LONGEST_PACKET ?a_MOST_HELD ?a_DIVISOR ?l_DIVISOR ?a_POINTS ?l_POINTS ?a_Sieve ?pg_Sieve ?hd_Sieve ?po_Sieve ?sa_Sieve ?mk_Sieve ?kc_Sieve ?n_Sieve__octets ?n_Sieve__count ?n_Sieve__told ?a_Sieve____init__ ?i_Sieve____init__ ?l_Sieve____init__ ?c_Sieve____init__ ?k_Sieve____init__ ?a_Sieve___look ?i_Sieve___look ?l_Sieve___look ?c_Sieve___look ?k_Sieve___look ?a_Sieve__take ?i_Sieve__take ?l_Sieve__take ?c_Sieve__take ?k_Sieve__take ?a_Sieve__told ?i_Sieve__told ?l_Sieve__told ?c_Sieve__told ?k_Sieve__told ?a_Sieve__held ?i_Sieve__held ?l_Sieve__held ?c_Sieve__held ?k_Sieve__held ?a_ESCAPED ?l_ESCAPED ?y_ESCAPED ?a_MEANT ?l_MEANT ?y_MEANT
    (case a__law_draws => k_is); (case l__law_draws => k_is); (case c__law_draws => k_is); (case k__law_draws => k_is); (case a__law_spoilt => k_is); (case l__law_spoilt => k_is); (case c__law_spoilt => k_is); (case k__law_spoilt => k_is); (case a__law_unwritten => k_is); (case l__law_unwritten => k_is); (case c__law_unwritten => k_is); (case k__law_unwritten => k_is); (case a__law_mul => k_is); (case l__law_mul => k_is); (case c__law_mul => k_is); (case k__law_mul => k_is); (case a__law_value => k_is); (case l__law_value => k_is); (case c__law_value => k_is); (case k__law_value => k_is); (case a__law_mended => k_is); (case l__law_mended => k_is); (case c__law_mended => k_is); (case k__law_mended => k_is); (case a__law_packet => k_is); (case l__law_packet => k_is); (case c__law_packet => k_is); (case k__law_packet => k_is); (case a__law_read => k_is); (case l__law_read => k_is); (case c__law_read => k_is); (case k__law_read => k_is); (case a_mul => k_is); (case l_mul => k_is); (case c_mul => k_is); (case k_mul => k_is); (case a_checked => k_is); (case l_checked => k_is); (case c_checked => k_is); (case k_checked => k_is); (case a_frame => k_is); (case l_frame => k_is); (case c_frame => k_is); (case k_frame => k_is); (case a__law_octets => k_is); (case l__law_octets => k_is); (case c__law_octets => k_is); (case k__law_octets => k_is); (case a__unwritten => k_is); (case l__unwritten => k_is); (case c__unwritten => k_is); (case k__unwritten => k_is); (case a_value_at => k_is); (case l_value_at => k_is); (case c_value_at => k_is); (case k_value_at => k_is); (case a__values => k_is); (case l__values => k_is); (case c__values => k_is); (case k__values => k_is); (case a__power_of => k_is); (case l__power_of => k_is); (case c__power_of => k_is); (case k__power_of => k_is); (case a_power => k_is); (case l_power => k_is); (case c_power => k_is); (case k_power => k_is); (case a_inv => k_is); (case l_inv => k_is); (case c_inv => k_is); (case k_inv => k_is); (case a_div => k_is); (case l_div => k_is); (case c_div => k_is); (case k_div => k_is); (case a_mended => k_is); (case l_mended => k_is); (case c_mended => k_is); (case k_mended => k_is); (case a_law => k_is); (case l_law => k_is); (case c_law => k_is); (case k_law => k_is); (case z_abs => k_is); (case z_int => k_is); (case z_len => k_is); (case z_list => k_is); (case z_max => k_is); (case z_min => k_is); (case z_range => k_is); (case z_tuple => k_is); (case a_ZeroElement => k_is); (case b_ZeroElement => k_is); (case t_ZeroElement => k_is); (case h_ZeroElement => k_is); (case x_ZeroElement => k_exc); (case k_ZeroElement => k_is); (case a_BadFrame => k_is); (case b_BadFrame => k_is); (case t_BadFrame => k_is); (case h_BadFrame => k_is); (case x_BadFrame => k_exc); (case k_BadFrame => k_is); (case a_CHECKS => k_is); (case a_END => k_is); (case a_ESCAPE => k_is); (case a_LONGEST => k_is); (case a_LONGEST_PACKET => k_is); (case a_MOST_HELD => k_is); (case a_DIVISOR => k_is); (case l_DIVISOR => k_is); (case a_POINTS => k_is); (case l_POINTS => k_is); (case a_Sieve => k_is); (case pg_Sieve => k_is); (case hd_Sieve => k_is); (case po_Sieve => k_is); (case sa_Sieve => k_is); (case mk_Sieve => k_is); (case kc_Sieve => k_is); (case n_Sieve__octets => k_is); (case n_Sieve__count => k_is); (case n_Sieve__told => k_is); (case a_Sieve____init__ => k_is); (case i_Sieve____init__ => k_is); (case l_Sieve____init__ => k_is); (case c_Sieve____init__ => k_is); (case k_Sieve____init__ => k_is); (case a_Sieve___look => k_is); (case i_Sieve___look => k_is); (case l_Sieve___look => k_is); (case c_Sieve___look => k_is); (case k_Sieve___look => k_is); (case a_Sieve__take => k_is); (case i_Sieve__take => k_is); (case l_Sieve__take => k_is); (case c_Sieve__take => k_is); (case k_Sieve__take => k_is); (case a_Sieve__told => k_is); (case i_Sieve__told => k_is); (case l_Sieve__told => k_is); (case c_Sieve__told => k_is); (case k_Sieve__told => k_is); (case a_Sieve__held => k_is); (case i_Sieve__held => k_is); (case l_Sieve__held => k_is); (case c_Sieve__held => k_is); (case k_Sieve__held => k_is); (case a_ESCAPED => k_is); (case l_ESCAPED => k_is); (case y_ESCAPED => decide +kernel); (case a_MEANT => k_is); (case l_MEANT => k_is); (case y_MEANT => decide +kernel)
