import PyProof.Rows.All
import Wide.All
import OpenK.AllK
import Wide.FinOn
import HandS.ForSpec
import HandS.ForMost
import HandS.TupAny
import HandS.NoneIn
import HandS.Conv
import HandS.Rev
import HandS.SortInts
import HandS.IsInst
import HandS.Style
import HandS.Flow
import HandS.ExcIs
import HandS.TryOnly
import HandS.ExcOwn
import HandS.Exc
import KE.KTupSum
import HandS.Iter
import HandS.RevRange
import KE.KRevSl
import HandS.Dict
import HandS.WordsDict
import HandS.More
import HandS.TupLe
import HandS.DictComp
import HandS.Small
import PySem.Challenge.RW_cairnhouse_k53_blobs_and_back
set_option Elab.async false
set_option linter.all false
set_option maxRecDepth 100000
set_option maxHeartbeats 4000000
/-! Cn0: what a value stands for (D, T), heaps that grow, the state of a body -/
namespace Cn
open PySem PySem.Spec L2

/-- a result: stuck, an exception of a class, a value -/
inductive R (α : Type) where
  | bad
  | err (c : Str)
  | ok (a : α)
def R.bind {α β : Type} (m : R α) (f : α → R β) : R β :=
  match m with
  | .bad => .bad
  | .err c => .err c
  | .ok a => f a
instance : Monad R where
  pure := R.ok
  bind := R.bind
theorem bind_ok {α β : Type} {a : α} {f : α → R β} : (R.ok a >>= f) = f a := rfl
theorem bind_bad {α β : Type} {f : α → R β} : ((R.bad : R α) >>= f) = R.bad := rfl
theorem bind_err {α β : Type} {c : Str} {f : α → R β} : ((R.err c : R α) >>= f) = R.err c := rfl
/-- what holds of a result: nothing is said of one that is stuck -/
def Po {α : Type} (m : R α) (Q : α → Prop) (E : Str → Prop) : Prop :=
  match m with
  | .bad => False
  | .err c => E c
  | .ok a => Q a
theorem Po.bind {α β : Type} {m : R α} {f : α → R β} {Q : β → Prop} {E : Str → Prop} (h : Po (m >>= f) Q E) : Po m (fun a => Po (f a) Q E) E := by
  cases m with
  | bad => exact h
  | err c => exact h
  | ok a => exact h
theorem Po.imp {α : Type} {m : R α} {Q Q' : α → Prop} {E E' : Str → Prop} (h : Po m Q E) (hq : ∀ a, m = .ok a → Q a → Q' a) (he : ∀ c, E c → E' c) : Po m Q' E' := by
  cases m with
  | bad => exact h
  | err c => exact he c h
  | ok a => exact hq a rfl h

/-- data as a whole; what is shared and stays -/
inductive D where
  /-- anything -/
  | any
  /-- this value -/
  | val (v : V)
  | non
  | bl (b : Bool)
  | int (i : Int)
  | str (s : Str)
  | tup (ds : List D)
  | lst (ds : List D)
  /-- a list that is read alone (the script, a list of the module's) -/
  | frl (ds : List D)
  | dic (ks : List Key) (ds : List D)
  | dit (ks : List (List Key)) (ds : List D)
  | obj (C : Str) (fs : List Str) (ds : List D)
/-- .. and what is one's own -/
inductive T where
  | imm (d : D)
  | lst (ts : List T)
  | dic (ks : List Key) (ts : List T)
  | dit (ks : List (List Key)) (ts : List T)
  | obj (C : Str) (fs : List Str) (ts : List T)
structure Ctx where
  K : PySem.W.Frag
  mg : Str → Option Value
mutual
/-- v stands for d in the heap M -/
def Rep (G : Ctx) (M : Hp) : D → V → Prop
  | .any, _ => True
  | .val w, v => v = w
  | .non, v => v = .non
  | .bl b, v => v = .bl b
  | .int i, v => v = .int i
  | .str s, v => v = .str s
  | .tup ds, v => ∃ a vs, v = .ref a ∧ SqT G.K M a vs ∧ Reps G M ds vs
  | .lst ds, v => ∃ a vs, v = .ref a ∧ M a = some (.lst vs) ∧ Reps G M ds vs
  | .frl ds, v => ∃ a vs, v = .ref a ∧ SqL G.K M a vs ∧ Reps G M ds vs
  | .dic ks ds, v => ∃ a kvs, v = .ref a ∧ M a = some (.dK kvs) ∧ kvs.map (·.1) = ks ∧ Reps G M ds (kvs.map (·.2))
  | .dit ks ds, v => ∃ a kvs, v = .ref a ∧ M a = some (.dT kvs) ∧ kvs.map (·.1) = ks ∧ Reps G M ds (kvs.map (·.2))
  | .obj C fs ds, v => ∃ a c dx kvs, v = .ref a ∧ G.mg C = some (.ref c) ∧ M a = some (.ins c dx kvs) ∧ kvs.map (·.1) = fs ∧ Reps G M ds (kvs.map (·.2))
def Reps (G : Ctx) (M : Hp) : List D → List V → Prop
  | [], vs => vs = []
  | d :: ds, vs => ∃ v r, vs = v :: r ∧ Rep G M d v ∧ Reps G M ds r
end
mutual
/-- v is the tree t: its own addresses are as, what is shared stands in M -/
def Own (G : Ctx) (M H : Hp) : T → V → List Addr → Prop
  | .imm d, v, as => as = [] ∧ Rep G M d v
  | .lst ts, v, as => ∃ a vs r, v = .ref a ∧ as = a :: r ∧ H a = some (.lst vs) ∧ Owns G M H ts vs r
  | .dic ks ts, v, as => ∃ a kvs r, v = .ref a ∧ as = a :: r ∧ H a = some (.dK kvs) ∧ kvs.map (·.1) = ks ∧ Owns G M H ts (kvs.map (·.2)) r
  | .dit ks ts, v, as => ∃ a kvs r, v = .ref a ∧ as = a :: r ∧ H a = some (.dT kvs) ∧ kvs.map (·.1) = ks ∧ Owns G M H ts (kvs.map (·.2)) r
  | .obj C fs ts, v, as => ∃ a c dx kvs r, v = .ref a ∧ as = a :: r ∧ G.mg C = some (.ref c) ∧ H a = some (.ins c dx kvs) ∧ kvs.map (·.1) = fs ∧ Owns G M H ts (kvs.map (·.2)) r
def Owns (G : Ctx) (M H : Hp) : List T → List V → List Addr → Prop
  | [], vs, as => vs = [] ∧ as = []
  | t :: ts, vs, as => ∃ v r a1 a2, vs = v :: r ∧ as = a1 ++ a2 ∧ Own G M H t v a1 ∧ Owns G M H ts r a2
end
section
variable {G : Ctx} {M M' H H' : Hp}
theorem same_sqt {a : Addr} {xs : List V} {K : PySem.W.Frag} (e : Same M M') (h : SqT K M a xs) : SqT K M' a xs := by
  rcases h with (h | ⟨o, h⟩) | h
  · exact .inl (.inl (e _ _ h))
  · exact .inl (.inr ⟨o, e _ _ h⟩)
  · exact .inr h
mutual
theorem Rep.mono (e : Same M M') : ∀ (d : D) (v : V), Rep G M d v → Rep G M' d v
  | .any, v, h => h
  | .val w, v, h => h
  | .non, v, h => h
  | .bl b, v, h => h
  | .int i, v, h => h
  | .str s, v, h => h
  | .tup ds, v, ⟨a, vs, h1, h2, h3⟩ => ⟨a, vs, h1, same_sqt e h2, Reps.mono e ds vs h3⟩
  | .lst ds, v, ⟨a, vs, h1, h2, h3⟩ => ⟨a, vs, h1, e _ _ h2, Reps.mono e ds vs h3⟩
  | .frl ds, v, ⟨a, vs, h1, h2, h3⟩ => ⟨a, vs, h1, e.seq h2, Reps.mono e ds vs h3⟩
  | .dic ks ds, v, ⟨a, vs, h1, h2, h4, h3⟩ => ⟨a, vs, h1, e _ _ h2, h4, Reps.mono e ds _ h3⟩
  | .dit ks ds, v, ⟨a, vs, h1, h2, h4, h3⟩ => ⟨a, vs, h1, e _ _ h2, h4, Reps.mono e ds _ h3⟩
  | .obj C fs ds, v, ⟨a, c, dx, vs, h1, h5, h2, h4, h3⟩ => ⟨a, c, dx, vs, h1, h5, e _ _ h2, h4, Reps.mono e ds _ h3⟩
theorem Reps.mono (e : Same M M') : ∀ (ds : List D) (vs : List V), Reps G M ds vs → Reps G M' ds vs
  | [], vs, h => h
  | d :: ds, vs, ⟨v, r, h1, h2, h3⟩ => ⟨v, r, h1, Rep.mono e d v h2, Reps.mono e ds r h3⟩
end
mutual
theorem Own.keep (e : Same M M') : ∀ (t : T) (v : V) (as : List Addr), (∀ a ∈ as, ∀ o, H a = some o → H' a = some o) → Own G M H t v as → Own G M' H' t v as
  | .imm d, v, as, f, ⟨h1, h2⟩ => ⟨h1, Rep.mono e d v h2⟩
  | .lst ts, v, as, f, ⟨a, vs, r, h1, h2, h3, h4⟩ => by
    subst h2
    exact ⟨a, vs, r, h1, rfl, f _ List.mem_cons_self _ h3, Owns.keep e ts _ _ (fun b hb => f b (List.mem_cons_of_mem _ hb)) h4⟩
  | .dic ks ts, v, as, f, ⟨a, vs, r, h1, h2, h3, h5, h4⟩ => by
    subst h2
    exact ⟨a, vs, r, h1, rfl, f _ List.mem_cons_self _ h3, h5, Owns.keep e ts _ _ (fun b hb => f b (List.mem_cons_of_mem _ hb)) h4⟩
  | .dit ks ts, v, as, f, ⟨a, vs, r, h1, h2, h3, h5, h4⟩ => by
    subst h2
    exact ⟨a, vs, r, h1, rfl, f _ List.mem_cons_self _ h3, h5, Owns.keep e ts _ _ (fun b hb => f b (List.mem_cons_of_mem _ hb)) h4⟩
  | .obj C fs ts, v, as, f, ⟨a, c, dx, vs, r, h1, h2, h6, h3, h5, h4⟩ => by
    subst h2
    exact ⟨a, c, dx, vs, r, h1, rfl, h6, f _ List.mem_cons_self _ h3, h5, Owns.keep e ts _ _ (fun b hb => f b (List.mem_cons_of_mem _ hb)) h4⟩
theorem Owns.keep (e : Same M M') : ∀ (ts : List T) (vs : List V) (as : List Addr), (∀ a ∈ as, ∀ o, H a = some o → H' a = some o) → Owns G M H ts vs as → Owns G M' H' ts vs as
  | [], vs, as, f, h => h
  | t :: ts, vs, as, f, ⟨v, r, a1, a2, h1, h2, h3, h4⟩ => by
    subst h2
    exact ⟨v, r, a1, a2, h1, rfl, Own.keep e t v a1 (fun b hb => f b (List.mem_append_left _ hb)) h3, Owns.keep e ts r a2 (fun b hb => f b (List.mem_append_right _ hb)) h4⟩
end
mutual
theorem Own.there : ∀ (t : T) (v : V) (as : List Addr), Own G M H t v as → ∀ a ∈ as, H a ≠ none
  | .imm d, v, as, ⟨h1, h2⟩, b, hb => by rw [h1] at hb; cases hb
  | .lst ts, v, as, ⟨a, vs, r, h1, h2, h3, h4⟩, b, hb => by
    subst h2
    rcases List.mem_cons.mp hb with z | z
    · rw [z, h3]; exact fun q => nomatch q
    · exact Owns.there ts _ _ h4 b z
  | .dic ks ts, v, as, ⟨a, vs, r, h1, h2, h3, h5, h4⟩, b, hb => by
    subst h2
    rcases List.mem_cons.mp hb with z | z
    · rw [z, h3]; exact fun q => nomatch q
    · exact Owns.there ts _ _ h4 b z
  | .dit ks ts, v, as, ⟨a, vs, r, h1, h2, h3, h5, h4⟩, b, hb => by
    subst h2
    rcases List.mem_cons.mp hb with z | z
    · rw [z, h3]; exact fun q => nomatch q
    · exact Owns.there ts _ _ h4 b z
  | .obj C fs ts, v, as, ⟨a, c, dx, vs, r, h1, h2, h6, h3, h5, h4⟩, b, hb => by
    subst h2
    rcases List.mem_cons.mp hb with z | z
    · rw [z, h3]; exact fun q => nomatch q
    · exact Owns.there ts _ _ h4 b z
theorem Owns.there : ∀ (ts : List T) (vs : List V) (as : List Addr), Owns G M H ts vs as → ∀ a ∈ as, H a ≠ none
  | [], vs, as, ⟨h1, h2⟩, b, hb => by rw [h2] at hb; cases hb
  | t :: ts, vs, as, ⟨v, r, a1, a2, h1, h2, h3, h4⟩, b, hb => by
    subst h2
    rcases List.mem_append.mp hb with z | z
    · exact Own.there t v a1 h3 b z
    · exact Owns.there ts r a2 h4 b z
end
mutual
/-- frozen -/
def fz : T → D
  | .imm d => d
  | .lst ts => .lst (fzs ts)
  | .dic ks ts => .dic ks (fzs ts)
  | .dit ks ts => .dit ks (fzs ts)
  | .obj C fs ts => .obj C fs (fzs ts)
def fzs : List T → List D
  | [] => []
  | t :: ts => fz t :: fzs ts
end
theorem fzs_map {α : Type} (e : α → T) (xs : List α) : fzs (xs.map e) = xs.map fun x => fz (e x) := by
  induction xs with
  | nil => rfl
  | cons x r ih => show fz (e x) :: fzs (r.map e) = _; rw [ih]; rfl
mutual
theorem Own.freeze (e : Same M M') : ∀ (t : T) (v : V) (as : List Addr), (∀ a ∈ as, ∀ o, H a = some o → M' a = some o) → Own G M H t v as → Rep G M' (fz t) v
  | .imm d, v, as, f, ⟨h1, h2⟩ => Rep.mono e d v h2
  | .lst ts, v, as, f, ⟨a, vs, r, h1, h2, h3, h4⟩ => by
    subst h2
    exact ⟨a, vs, h1, f _ List.mem_cons_self _ h3, Owns.freeze e ts _ _ (fun b hb => f b (List.mem_cons_of_mem _ hb)) h4⟩
  | .dic ks ts, v, as, f, ⟨a, vs, r, h1, h2, h3, h5, h4⟩ => by
    subst h2
    exact ⟨a, vs, h1, f _ List.mem_cons_self _ h3, h5, Owns.freeze e ts _ _ (fun b hb => f b (List.mem_cons_of_mem _ hb)) h4⟩
  | .dit ks ts, v, as, f, ⟨a, vs, r, h1, h2, h3, h5, h4⟩ => by
    subst h2
    exact ⟨a, vs, h1, f _ List.mem_cons_self _ h3, h5, Owns.freeze e ts _ _ (fun b hb => f b (List.mem_cons_of_mem _ hb)) h4⟩
  | .obj C fs ts, v, as, f, ⟨a, c, dx, vs, r, h1, h2, h6, h3, h5, h4⟩ => by
    subst h2
    exact ⟨a, c, dx, vs, h1, h6, f _ List.mem_cons_self _ h3, h5, Owns.freeze e ts _ _ (fun b hb => f b (List.mem_cons_of_mem _ hb)) h4⟩
theorem Owns.freeze (e : Same M M') : ∀ (ts : List T) (vs : List V) (as : List Addr), (∀ a ∈ as, ∀ o, H a = some o → M' a = some o) → Owns G M H ts vs as → Reps G M' (fzs ts) vs
  | [], vs, as, f, h => h.1
  | t :: ts, vs, as, f, ⟨v, r, a1, a2, h1, h2, h3, h4⟩ => by
    subst h2
    exact ⟨v, r, h1, Own.freeze e t v a1 (fun b hb => f b (List.mem_append_left _ hb)) h3, Owns.freeze e ts r a2 (fun b hb => f b (List.mem_append_right _ hb)) h4⟩
end
end
/-! ### lists of data by places -/
section
variable {G : Ctx} {M H : Hp}
theorem Reps.len : ∀ {ds : List D} {vs : List V}, Reps G M ds vs → vs.length = ds.length
  | [], vs, h => by rw [show vs = [] from h]; rfl
  | d :: ds, vs, ⟨v, r, h1, h2, h3⟩ => by rw [h1, List.length_cons, List.length_cons, Reps.len h3]
theorem Reps.get : ∀ {ds : List D} {vs : List V} {i : Nat} {d : D}, Reps G M ds vs → ds[i]? = some d → ∃ v, vs[i]? = some v ∧ Rep G M d v
  | [], vs, i, d, h, e => by simp at e
  | d :: ds, vs, 0, x, ⟨v, r, h1, h2, h3⟩, e => by
    have z : d = x := Option.some.inj e
    subst z; subst h1
    exact ⟨v, rfl, h2⟩
  | d :: ds, vs, i + 1, x, ⟨v, r, h1, h2, h3⟩, e => by
    subst h1
    exact Reps.get (i := i) h3 e
theorem Reps.app : ∀ {ds es : List D} {vs ws : List V}, Reps G M ds vs → Reps G M es ws → Reps G M (ds ++ es) (vs ++ ws)
  | [], es, vs, ws, h, k => by rw [show vs = [] from h]; exact k
  | d :: ds, es, vs, ws, ⟨v, r, h1, h2, h3⟩, k => ⟨v, r ++ ws, by rw [h1]; rfl, h2, Reps.app h3 k⟩
theorem Reps.drop : ∀ {ds : List D} {vs : List V} (n : Nat), Reps G M ds vs → Reps G M (ds.drop n) (vs.drop n)
  | ds, vs, 0, h => h
  | [], vs, n + 1, h => by rw [show vs = [] from h]; exact rfl
  | d :: ds, vs, n + 1, ⟨v, r, h1, h2, h3⟩ => by subst h1; exact Reps.drop n h3
theorem Reps.take : ∀ {ds : List D} {vs : List V} (n : Nat), Reps G M ds vs → Reps G M (ds.take n) (vs.take n)
  | ds, vs, 0, h => rfl
  | [], vs, n + 1, h => by rw [show vs = [] from h]; exact rfl
  | d :: ds, vs, n + 1, ⟨v, r, h1, h2, h3⟩ => by subst h1; exact ⟨v, r.take n, rfl, h2, Reps.take n h3⟩
theorem Owns.len : ∀ {ts : List T} {vs : List V} {as : List Addr}, Owns G M H ts vs as → vs.length = ts.length
  | [], vs, as, h => by rw [h.1]; rfl
  | t :: ts, vs, as, ⟨v, r, a1, a2, h1, h2, h3, h4⟩ => by rw [h1, List.length_cons, List.length_cons, Owns.len h4]
theorem Owns.get : ∀ {ts : List T} {vs : List V} {as : List Addr} {i : Nat} {t : T}, Owns G M H ts vs as → ts[i]? = some t → ∃ v a, vs[i]? = some v ∧ Own G M H t v a ∧ ∀ b ∈ a, b ∈ as
  | [], vs, as, i, t, h, e => by simp at e
  | t :: ts, vs, as, 0, x, ⟨v, r, a1, a2, h1, h2, h3, h4⟩, e => by
    have z : t = x := Option.some.inj e
    subst z; subst h1; subst h2
    exact ⟨v, a1, rfl, h3, fun b hb => List.mem_append_left _ hb⟩
  | t :: ts, vs, as, i + 1, x, ⟨v, r, a1, a2, h1, h2, h3, h4⟩, e => by
    subst h1; subst h2
    obtain ⟨w, a, q1, q2, q3⟩ := Owns.get (i := i) h4 e
    exact ⟨w, a, q1, q2, fun b hb => List.mem_append_right _ (q3 b hb)⟩
theorem Owns.app : ∀ {ts us : List T} {vs ws : List V} {as bs : List Addr}, Owns G M H ts vs as → Owns G M H us ws bs → Owns G M H (ts ++ us) (vs ++ ws) (as ++ bs)
  | [], us, vs, ws, as, bs, h, k => by rw [h.1, h.2]; exact k
  | t :: ts, us, vs, ws, as, bs, ⟨v, r, a1, a2, h1, h2, h3, h4⟩, k => ⟨v, r ++ ws, a1, a2 ++ bs, by rw [h1]; rfl, by rw [h2, List.append_assoc], h3, Owns.app h4 k⟩
theorem Owns.imm : ∀ {ds : List D} {vs : List V}, Reps G M ds vs → Owns G M H (ds.map .imm) vs []
  | [], vs, h => ⟨h, rfl⟩
  | d :: ds, vs, ⟨v, r, h1, h2, h3⟩ => ⟨v, r, [], [], h1, rfl, ⟨rfl, h2⟩, Owns.imm h3⟩
theorem Owns.of_imm : ∀ {ds : List D} {vs : List V} {as : List Addr}, Owns G M H (ds.map .imm) vs as → Reps G M ds vs ∧ as = []
  | [], vs, as, h => ⟨h.1, h.2⟩
  | d :: ds, vs, as, ⟨v, r, a1, a2, h1, h2, h3, h4⟩ => by
    obtain ⟨q1, q2⟩ := Owns.of_imm h4
    exact ⟨⟨v, r, h1, h3.2, q1⟩, by rw [h2, h3.1, q2]; rfl⟩
end
end Cn
/-! Cn1: the state of a body, judgements -/
namespace Cn
open PySem PySem.Spec L2
/-- a slot: unknown, a tree, a tree whose value is known -/
inductive Sl where
  | un
  | ow (t : T)
  | pn (v : V) (t : T)
  /-- a tree that is looked at: it stays as it is -/
  | lk (t : T)
def Sat (G : Ctx) (F M H : Hp) : List Sl → St → List Addr → Prop
  | [], σ, as => σ = [] ∧ as = []
  | .un :: Γ, σ, as => ∃ x r, σ = x :: r ∧ Sat G F M H Γ r as
  | .ow t :: Γ, σ, as => ∃ v r a1 a2, σ = some v :: r ∧ as = a1 ++ a2 ∧ Own G M H t v a1 ∧ Sat G F M H Γ r a2
  | .pn w t :: Γ, σ, as => ∃ r a1 a2, σ = some w :: r ∧ as = a1 ++ a2 ∧ Own G M H t w a1 ∧ Sat G F M H Γ r a2
  | .lk t :: Γ, σ, as => ∃ v r a0, σ = some v :: r ∧ Own G M F t v a0 ∧ Sat G F M H Γ r as
structure Fr0 (F M0 M H : Hp) (as : List Addr) : Prop where
  fh : Same F H
  mm : Same M0 M
  mh : Same M H
  nw : ∀ a, M a ≠ none → M0 a ≠ none ∨ F a = none
  nd : as.Nodup
  fa : ∀ a ∈ as, F a = none
  ma : ∀ a ∈ as, M a = none
/-- the state: F what must stay, M0 what was shared at the entry, M what is shared -/
def S (G : Ctx) (F M0 M H : Hp) (σ : St) (Γ : List Sl) : Prop := ∃ as, Fr0 F M0 M H as ∧ Sat G F M H Γ σ as
/-- the heap has grown -/
structure Gr (M H M' H' : Hp) : Prop where
  hh : Same H H'
  mm : Same M M'
  mh : Same M' H'
  nw : ∀ a, M' a ≠ none → M a ≠ none ∨ H a = none
theorem Gr.refl {M H : Hp} (h : Same M H) : Gr M H M H := ⟨.refl _, .refl _, h, fun _ z => .inl z⟩
theorem Gr.trans {M H M1 H1 M2 H2 : Hp} (a : Gr M H M1 H1) (b : Gr M1 H1 M2 H2) : Gr M H M2 H2 :=
  ⟨a.hh.trans b.hh, a.mm.trans b.mm, b.mh, fun x z => by
    rcases b.nw x z with q | q
    · exact a.nw x q
    · exact .inr (a.hh.free q)⟩
theorem Same.of_some {M H : Hp} (h : Same M H) {a : Addr} (z : M a ≠ none) : H a ≠ none := by
  cases e : M a with
  | none => exact absurd e z
  | some o => rw [h a o e]; exact fun q => nomatch q
section
variable {G : Ctx} {F M0 M M' H H' : Hp}
theorem Sat.keep (e : Same M M') : ∀ (Γ : List Sl) (σ : St) (as : List Addr), (∀ a ∈ as, ∀ o, H a = some o → H' a = some o) → Sat G F M H Γ σ as → Sat G F M' H' Γ σ as
  | [], σ, as, f, h => h
  | .un :: Γ, σ, as, f, ⟨x, r, h1, h2⟩ => ⟨x, r, h1, Sat.keep e Γ r as f h2⟩
  | .ow t :: Γ, σ, as, f, ⟨v, r, a1, a2, h1, h2, h3, h4⟩ => by
    subst h2
    exact ⟨v, r, a1, a2, h1, rfl, Own.keep e t v a1 (fun b hb => f b (List.mem_append_left _ hb)) h3, Sat.keep e Γ r a2 (fun b hb => f b (List.mem_append_right _ hb)) h4⟩
  | .pn w t :: Γ, σ, as, f, ⟨r, a1, a2, h1, h2, h3, h4⟩ => by
    subst h2
    exact ⟨r, a1, a2, h1, rfl, Own.keep e t w a1 (fun b hb => f b (List.mem_append_left _ hb)) h3, Sat.keep e Γ r a2 (fun b hb => f b (List.mem_append_right _ hb)) h4⟩
  | .lk t :: Γ, σ, as, f, ⟨v, r, a0, h1, h2, h3⟩ => ⟨v, r, a0, h1, Own.keep e t v a0 (fun _ _ _ q => q) h2, Sat.keep e Γ r as f h3⟩
theorem Sat.there : ∀ (Γ : List Sl) (σ : St) (as : List Addr), Sat G F M H Γ σ as → ∀ a ∈ as, H a ≠ none
  | [], σ, as, h, b, hb => by rw [h.2] at hb; cases hb
  | .un :: Γ, σ, as, ⟨x, r, h1, h2⟩, b, hb => Sat.there Γ r as h2 b hb
  | .ow t :: Γ, σ, as, ⟨v, r, a1, a2, h1, h2, h3, h4⟩, b, hb => by
    subst h2
    rcases List.mem_append.mp hb with z | z
    · exact Own.there t v a1 h3 b z
    · exact Sat.there Γ r a2 h4 b z
  | .pn w t :: Γ, σ, as, ⟨r, a1, a2, h1, h2, h3, h4⟩, b, hb => by
    subst h2
    rcases List.mem_append.mp hb with z | z
    · exact Own.there t w a1 h3 b z
    · exact Sat.there Γ r a2 h4 b z
  | .lk t :: Γ, σ, as, ⟨v, r, a0, h1, h2, h3⟩, b, hb => Sat.there Γ r as h3 b hb
theorem Fr0.grow {as : List Addr} (f : Fr0 F M0 M H as) (th : ∀ a ∈ as, H a ≠ none) (g : Gr M H M' H') : Fr0 F M0 M' H' as where
  fh := f.fh.trans g.hh
  mm := f.mm.trans g.mm
  mh := g.mh
  nw := fun a z => by
    rcases g.nw a z with q | q
    · exact f.nw a q
    · exact .inr (f.fh.free q)
  nd := f.nd
  fa := f.fa
  ma := fun a ha => by
    cases e : M' a with
    | none => rfl
    | some o =>
      rcases g.nw a (by rw [e]; exact fun q => nomatch q) with q | q
      · exact absurd (f.ma a ha) q
      · exact absurd q (th a ha)
theorem S.grow {σ : St} {Γ : List Sl} (h : S G F M0 M H σ Γ) (g : Gr M H M' H') : S G F M0 M' H' σ Γ := by
  obtain ⟨as, f, s⟩ := h
  exact ⟨as, f.grow (Sat.there Γ σ as s) g, Sat.keep g.mm Γ σ as (fun a _ o e => g.hh a o e) s⟩
theorem S.mh {σ : St} {Γ : List Sl} (h : S G F M0 M H σ Γ) : Same M H := let ⟨_, f, _⟩ := h; f.mh
theorem S.fh {σ : St} {Γ : List Sl} (h : S G F M0 M H σ Γ) : Same F H := let ⟨_, f, _⟩ := h; f.fh
/-- a slot that is read -/
theorem Sat.get : ∀ {Γ : List Sl} {σ : St} {as : List Addr} {i : Nat} {t : T}, Sat G F M H Γ σ as → Γ[i]? = some (.ow t) → ∃ v a, σ[i]? = some (some v) ∧ Own G M H t v a ∧ ∀ b ∈ a, b ∈ as
  | [], σ, as, i, t, h, e => by simp at e
  | .un :: Γ, σ, as, 0, t, h, e => nomatch (Option.some.inj e)
  | .un :: Γ, σ, as, i + 1, t, ⟨x, r, h1, h2⟩, e => by
    subst h1
    exact Sat.get (i := i) h2 e
  | .ow t' :: Γ, σ, as, 0, t, ⟨v, r, a1, a2, h1, h2, h3, h4⟩, e => by
    have z : t' = t := Sl.ow.inj (Option.some.inj e)
    subst z; subst h1; subst h2
    exact ⟨v, a1, rfl, h3, fun b hb => List.mem_append_left _ hb⟩
  | .ow t' :: Γ, σ, as, i + 1, t, ⟨v, r, a1, a2, h1, h2, h3, h4⟩, e => by
    subst h1; subst h2
    obtain ⟨w, a, q1, q2, q3⟩ := Sat.get (i := i) h4 e
    exact ⟨w, a, q1, q2, fun b hb => List.mem_append_right _ (q3 b hb)⟩
  | .pn w t' :: Γ, σ, as, 0, t, h, e => nomatch (Option.some.inj e)
  | .pn w t' :: Γ, σ, as, i + 1, t, ⟨r, a1, a2, h1, h2, h3, h4⟩, e => by
    subst h1; subst h2
    obtain ⟨w, a, q1, q2, q3⟩ := Sat.get (i := i) h4 e
    exact ⟨w, a, q1, q2, fun b hb => List.mem_append_right _ (q3 b hb)⟩
  | .lk t' :: Γ, σ, as, 0, t, h, e => nomatch (Option.some.inj e)
  | .lk t' :: Γ, σ, as, i + 1, t, ⟨v, r, a0, h1, h2, h3⟩, e => by
    subst h1
    exact Sat.get (i := i) h3 e
theorem Sat.getP : ∀ {Γ : List Sl} {σ : St} {as : List Addr} {i : Nat} {w : V} {t : T}, Sat G F M H Γ σ as → Γ[i]? = some (.pn w t) → σ[i]? = some (some w) ∧ ∃ a, Own G M H t w a ∧ ∀ b ∈ a, b ∈ as
  | [], σ, as, i, w, t, h, e => by simp at e
  | .un :: Γ, σ, as, 0, w, t, h, e => nomatch (Option.some.inj e)
  | .un :: Γ, σ, as, i + 1, w, t, ⟨x, r, h1, h2⟩, e => by
    subst h1
    exact Sat.getP (i := i) h2 e
  | .ow t' :: Γ, σ, as, 0, w, t, h, e => nomatch (Option.some.inj e)
  | .ow t' :: Γ, σ, as, i + 1, w, t, ⟨v, r, a1, a2, h1, h2, h3, h4⟩, e => by
    subst h1; subst h2
    obtain ⟨q0, a, q2, q3⟩ := Sat.getP (i := i) h4 e
    exact ⟨q0, a, q2, fun b hb => List.mem_append_right _ (q3 b hb)⟩
  | .pn w' t' :: Γ, σ, as, 0, w, t, ⟨r, a1, a2, h1, h2, h3, h4⟩, e => by
    obtain ⟨z1, z2⟩ := Sl.pn.inj (Option.some.inj e)
    subst z1; subst z2; subst h1; subst h2
    exact ⟨rfl, a1, h3, fun b hb => List.mem_append_left _ hb⟩
  | .pn w' t' :: Γ, σ, as, i + 1, w, t, ⟨r, a1, a2, h1, h2, h3, h4⟩, e => by
    subst h1; subst h2
    obtain ⟨q0, a, q2, q3⟩ := Sat.getP (i := i) h4 e
    exact ⟨q0, a, q2, fun b hb => List.mem_append_right _ (q3 b hb)⟩
  | .lk t' :: Γ, σ, as, 0, w, t, h, e => nomatch (Option.some.inj e)
  | .lk t' :: Γ, σ, as, i + 1, w, t, ⟨v, r, a0, h1, h2, h3⟩, e => by
    subst h1
    exact Sat.getP (i := i) h3 e
/-- a slot is stored: what it owned is let go; n: the new addresses -/
theorem Sat.put : ∀ {Γ : List Sl} {σ : St} {as n : List Addr} {i : Nat} {t : T} {v : V}, Sat G F M H Γ σ as → i < Γ.length → Own G M H t v n → ∃ bs l r, Sat G F M H (Γ.set i (.ow t)) (σ.set i (some v)) bs ∧ bs = l ++ n ++ r ∧ (l ++ r).Sublist as
  | [], σ, as, n, i, t, v, h, hi, o => absurd hi (Nat.not_lt_zero _)
  | .un :: Γ, σ, as, n, 0, t, v, ⟨x, r, h1, h2⟩, hi, o => by
    subst h1
    exact ⟨n ++ as, [], as, ⟨v, r, n, as, rfl, rfl, o, h2⟩, rfl, by simp⟩
  | .ow t' :: Γ, σ, as, n, 0, t, v, ⟨w, r, a1, a2, h1, h2, h3, h4⟩, hi, o => by
    subst h1; subst h2
    exact ⟨n ++ a2, [], a2, ⟨v, r, n, a2, rfl, rfl, o, h4⟩, rfl, by simp⟩
  | .pn w t' :: Γ, σ, as, n, 0, t, v, ⟨r, a1, a2, h1, h2, h3, h4⟩, hi, o => by
    subst h1; subst h2
    exact ⟨n ++ a2, [], a2, ⟨v, r, n, a2, rfl, rfl, o, h4⟩, rfl, by simp⟩
  | .lk t' :: Γ, σ, as, n, 0, t, v, ⟨w, r, a0, h1, h2, h3⟩, hi, o => by
    subst h1
    exact ⟨n ++ as, [], as, ⟨v, r, n, as, rfl, rfl, o, h3⟩, rfl, by simp⟩
  | .lk t' :: Γ, σ, as, n, i + 1, t, v, ⟨w, r, a0, h1, h2, h3⟩, hi, o => by
    subst h1
    obtain ⟨bs, l, r', s, e, sub⟩ := Sat.put (i := i) h3 (Nat.lt_of_succ_lt_succ hi) o
    exact ⟨bs, l, r', ⟨w, _, a0, rfl, h2, s⟩, e, sub⟩
  | .un :: Γ, σ, as, n, i + 1, t, v, ⟨x, r, h1, h2⟩, hi, o => by
    subst h1
    obtain ⟨bs, l, r', s, e, sub⟩ := Sat.put (i := i) h2 (Nat.lt_of_succ_lt_succ hi) o
    exact ⟨bs, l, r', ⟨x, _, rfl, s⟩, e, sub⟩
  | .ow t' :: Γ, σ, as, n, i + 1, t, v, ⟨w, r, a1, a2, h1, h2, h3, h4⟩, hi, o => by
    subst h1; subst h2
    obtain ⟨bs, l, r', s, e, sub⟩ := Sat.put (i := i) h4 (Nat.lt_of_succ_lt_succ hi) o
    subst e
    exact ⟨a1 ++ (l ++ n ++ r'), a1 ++ l, r', ⟨w, _, a1, _, rfl, rfl, h3, s⟩, by simp, by rw [List.append_assoc]; exact List.Sublist.append_left sub a1⟩
  | .pn w t' :: Γ, σ, as, n, i + 1, t, v, ⟨r, a1, a2, h1, h2, h3, h4⟩, hi, o => by
    subst h1; subst h2
    obtain ⟨bs, l, r', s, e, sub⟩ := Sat.put (i := i) h4 (Nat.lt_of_succ_lt_succ hi) o
    subst e
    exact ⟨a1 ++ (l ++ n ++ r'), a1 ++ l, r', ⟨_, a1, _, rfl, rfl, h3, s⟩, by simp, by rw [List.append_assoc]; exact List.Sublist.append_left sub a1⟩
/-- weaken a slot -/
theorem Sat.drop : ∀ {Γ : List Sl} {σ : St} {as : List Addr} {i : Nat}, Sat G F M H Γ σ as → ∃ bs, Sat G F M H (Γ.set i .un) σ bs ∧ bs.Sublist as
  | [], σ, as, i, h => ⟨as, h, .refl _⟩
  | .un :: Γ, σ, as, 0, ⟨x, r, h1, h2⟩ => ⟨as, ⟨x, r, h1, h2⟩, .refl _⟩
  | .ow t' :: Γ, σ, as, 0, ⟨w, r, a1, a2, h1, h2, h3, h4⟩ => ⟨a2, ⟨some w, r, h1, h4⟩, by rw [h2]; exact List.sublist_append_right _ _⟩
  | .pn w t' :: Γ, σ, as, 0, ⟨r, a1, a2, h1, h2, h3, h4⟩ => ⟨a2, ⟨some w, r, h1, h4⟩, by rw [h2]; exact List.sublist_append_right _ _⟩
  | .lk t' :: Γ, σ, as, 0, ⟨w, r, a0, h1, h2, h3⟩ => ⟨as, ⟨some w, r, h1, h3⟩, .refl _⟩
  | .lk t' :: Γ, σ, as, i + 1, ⟨w, r, a0, h1, h2, h3⟩ => by
    obtain ⟨bs, s, sub⟩ := Sat.drop (i := i) h3
    exact ⟨bs, ⟨w, r, a0, h1, h2, s⟩, sub⟩
  | .un :: Γ, σ, as, i + 1, ⟨x, r, h1, h2⟩ => by
    obtain ⟨bs, s, sub⟩ := Sat.drop (i := i) h2
    exact ⟨bs, ⟨x, r, h1, s⟩, sub⟩
  | .ow t' :: Γ, σ, as, i + 1, ⟨w, r, a1, a2, h1, h2, h3, h4⟩ => by
    obtain ⟨bs, s, sub⟩ := Sat.drop (i := i) h4
    exact ⟨a1 ++ bs, ⟨w, r, a1, bs, h1, rfl, h3, s⟩, by rw [h2]; exact List.Sublist.append_left sub a1⟩
  | .pn w t' :: Γ, σ, as, i + 1, ⟨r, a1, a2, h1, h2, h3, h4⟩ => by
    obtain ⟨bs, s, sub⟩ := Sat.drop (i := i) h4
    exact ⟨a1 ++ bs, ⟨r, a1, bs, h1, rfl, h3, s⟩, by rw [h2]; exact List.Sublist.append_left sub a1⟩
theorem Fr0.sub {as bs : List Addr} (f : Fr0 F M0 M H as) (s : bs.Sublist as) : Fr0 F M0 M H bs :=
  ⟨f.fh, f.mm, f.mh, f.nw, f.nd.sublist s, fun a h => f.fa a (s.subset h), fun a h => f.ma a (s.subset h)⟩
/-- fresh addresses beside the ones that are owned -/
theorem Fr0.add {as n l r : List Addr} (f : Fr0 F M0 M H as) (s : (l ++ r).Sublist as) (nn : n.Nodup) (nf : ∀ a ∈ n, F a = none) (nm : ∀ a ∈ n, M a = none) (dj : ∀ a ∈ n, a ∉ as) : Fr0 F M0 M H (l ++ n ++ r) where
  fh := f.fh
  mm := f.mm
  mh := f.mh
  nw := f.nw
  nd := by
    have h := f.nd.sublist s
    have dl : ∀ a ∈ l, a ∈ as := fun a z => s.subset (List.mem_append_left _ z)
    have dr : ∀ a ∈ r, a ∈ as := fun a z => s.subset (List.mem_append_right _ z)
    rw [List.nodup_append] at h
    rw [List.append_assoc, List.nodup_append]
    refine ⟨h.1, ?_, fun a ha b hb e => ?_⟩
    · rw [List.nodup_append]
      exact ⟨nn, h.2.1, fun a ha b hb e => dj a ha (by rw [e]; exact dr b hb)⟩
    · rcases List.mem_append.mp hb with z | z
      · exact dj b z (by rw [← e]; exact dl a ha)
      · exact h.2.2 a ha b z e
  fa := fun a h => by
    rcases List.mem_append.mp h with z | z
    · rcases List.mem_append.mp z with z | z
      · exact f.fa a (s.subset (List.mem_append_left _ z))
      · exact nf a z
    · exact f.fa a (s.subset (List.mem_append_right _ z))
  ma := fun a h => by
    rcases List.mem_append.mp h with z | z
    · rcases List.mem_append.mp z with z | z
      · exact f.ma a (s.subset (List.mem_append_left _ z))
      · exact nm a z
    · exact f.ma a (s.subset (List.mem_append_right _ z))
end
/-- what is wanted where an exception of the class c leaves -/
abbrev _root_.L2.Cx.G (X : Cx) : Ctx := ⟨X.K, X.mg⟩
def Er (G : Ctx) (W : WX) (c : Str) (σ : St) (H : Hp) : Prop := ∀ a, G.mg c = some (.ref a) → W (.ref a) none σ H
/-! the semantics' own readings -/
def wE (X : Cx) (e : Expr) : TE := fun σ H Q => ∀ pins s, Inv X pins σ H s → wpAny (model X.prog X.w) X.A (eval e X.env) (EP X pins σ Q) X.xe s
def wT (X : Cx) (e : Expr) : TT := fun σ H Q => ∀ pins s, Inv X pins σ H s → wpAny (model X.prog X.w) X.A (isTrue e X.env (eval e X.env)) (TP X pins σ Q) X.xe s
def wW (X : Cx) (e : Expr) : TT := fun σ H Q => ∀ whole pins s, Inv X pins σ H s → wpAny (model X.prog X.w) X.A (isTrue e X.env whole) (TP X pins σ Q) X.xe s
def wA (X : Cx) (es : List Expr) : TA := fun σ H Q => ∀ pos pins s, Inv X pins σ H s → wpAny (model X.prog X.w) X.A (spliced (backTo pos (starEach es X.env))) (AP X pins σ Q) X.xe s
def wS (X : Cx) (st : Stmt) : TS := fun D σ H => ∀ pins s, Inv X pins σ H s → wpAny (model X.prog X.w) X.A (exec st X.env) (SP X pins D) X.xe s
def wSs (X : Cx) (st : List Stmt) : TS := fun D σ H => ∀ pins s, Inv X pins σ H s → wpAny (model X.prog X.w) X.A (execs st X.env) (SP X pins D) X.xe s
def wI (X : Cx) (tg e : Expr) : TI := fun σ H R => ∀ pins s, Inv X pins σ H s → wpAny (model X.prog X.w) X.A (eval e X.env) (fun v s1 => wpAny (model X.prog X.w) X.A (pyIter v) (PIE X pins σ tg R) X.xe s1) X.xe s
def wG (X : Cx) (tg : Expr) : TG := fun v σ H Q => ∀ pins s u, Inv X pins σ H s → RelV v u → wpAny (model X.prog X.w) X.A (assign tg X.env u) (fun _ s' => ∃ σ' H', Inv X pins σ' H' s' ∧ Q σ' H') X.xe s
section
variable (X : Cx) (e tg : Expr) (es : List Expr) (st : Stmt) (ss : List Stmt)
theorem pe_w : PE X e (wE X e) := ⟨fun pins s σ H Q I h => h pins s I⟩
theorem pt_w : PT X e (wT X e) := ⟨fun pins s σ H Q I h => h pins s I⟩
theorem pw_w : PW X e (wW X e) := ⟨fun whole pins s σ H Q I h => h whole pins s I⟩
theorem pa_w : PA X es (wA X es) := ⟨fun pos pins s σ H Q I h => h pos pins s I⟩
theorem ps_w : PS X st (wS X st) := ⟨fun pins s σ H Q I h => h pins s I⟩
theorem pss_w : PSs X ss (wSs X ss) := ⟨fun pins s σ H Q I h => h pins s I⟩
theorem pi_w : PI X tg e (wI X tg e) := ⟨fun pins s σ H Q I h => h pins s I⟩
theorem pg_w : PG X tg (wG X tg) := ⟨fun pins s σ H v u Q I r h => h pins s u I r⟩
end
/-- a judgement: whatever is asked of the outcome holds behind it -/
structure JQ {Y : Type} (X : Cx) (Γ : List Sl) (w : St → Hp → Y → Prop) (Pre : Hp → Hp → Hp → Hp → St → Y → Prop) : Prop where
  run : ∀ F M0 M H σ Q, S X.G F M0 M H σ Γ → Pre F M0 M H σ Q → w σ H Q
instance {Y : Type} {X : Cx} {Γ : List Sl} {w : St → Hp → Y → Prop} {Pre : Hp → Hp → Hp → Hp → St → Y → Prop} : CoeFun (JQ X Γ w Pre) (fun _ => ∀ F M0 M H σ Q, S X.G F M0 M H σ Γ → Pre F M0 M H σ Q → w σ H Q) := ⟨fun h => h.run⟩
section
variable {X : Cx} {Γ : List Sl} {e tg : Expr} {es : List Expr} {st : Stmt} {ss : List Stmt}
theorem dmk {Pre : Hp → Hp → Hp → Hp → St → VK → Prop} (h : ∃ te, PE X e te ∧ ∀ F M0 M H σ Q, S X.G F M0 M H σ Γ → Pre F M0 M H σ Q → te σ H Q) : JQ X Γ (wE X e) Pre := ⟨fun F M0 M H σ Q s p pins sh I => by
  obtain ⟨te, pe, q⟩ := h
  exact pe.run pins sh σ H Q I (q F M0 M H σ Q s p)⟩
theorem tmk {Pre : Hp → Hp → Hp → Hp → St → (Bool → Hp → Prop) → Prop} (h : ∃ te, PT X e te ∧ ∀ F M0 M H σ Q, S X.G F M0 M H σ Γ → Pre F M0 M H σ Q → te σ H Q) : JQ X Γ (wT X e) Pre := ⟨fun F M0 M H σ Q s p pins sh I => by
  obtain ⟨te, pe, q⟩ := h
  exact pe.run pins sh σ H Q I (q F M0 M H σ Q s p)⟩
theorem wmk {Pre : Hp → Hp → Hp → Hp → St → (Bool → Hp → Prop) → Prop} (h : ∃ te, PW X e te ∧ ∀ F M0 M H σ Q, S X.G F M0 M H σ Γ → Pre F M0 M H σ Q → te σ H Q) : JQ X Γ (wW X e) Pre := ⟨fun F M0 M H σ Q s p wh pins sh I => by
  obtain ⟨te, pe, q⟩ := h
  exact pe.run wh pins sh σ H Q I (q F M0 M H σ Q s p)⟩
theorem amk {Pre : Hp → Hp → Hp → Hp → St → (List V → Hp → Prop) → Prop} (h : ∃ te, PA X es te ∧ ∀ F M0 M H σ Q, S X.G F M0 M H σ Γ → Pre F M0 M H σ Q → te σ H Q) : JQ X Γ (wA X es) Pre := ⟨fun F M0 M H σ Q s p pos pins sh I => by
  obtain ⟨te, pe, q⟩ := h
  exact pe.run pos pins sh σ H Q I (q F M0 M H σ Q s p)⟩
theorem smk {Pre : Hp → Hp → Hp → Hp → St → Ends → Prop} (h : ∃ te, PS X st te ∧ ∀ F M0 M H σ Q, S X.G F M0 M H σ Γ → Pre F M0 M H σ Q → te Q σ H) : JQ X Γ (fun σ H Q => wS X st Q σ H) Pre := ⟨fun F M0 M H σ Q s p pins sh I => by
  obtain ⟨te, pe, q⟩ := h
  exact pe.run pins sh σ H Q I (q F M0 M H σ Q s p)⟩
theorem bmk {Pre : Hp → Hp → Hp → Hp → St → Ends → Prop} (h : ∃ te, PSs X ss te ∧ ∀ F M0 M H σ Q, S X.G F M0 M H σ Γ → Pre F M0 M H σ Q → te Q σ H) : JQ X Γ (fun σ H Q => wSs X ss Q σ H) Pre := ⟨fun F M0 M H σ Q s p pins sh I => by
  obtain ⟨te, pe, q⟩ := h
  exact pe.run pins sh σ H Q I (q F M0 M H σ Q s p)⟩
end
/-- an expression whose value is shared data -/
abbrev DD (X : Cx) (W : WX) (Γ : List Sl) (e : Expr) {α : Type} (emb : α → D) (m : R α) : Prop :=
  JQ X Γ (wE X e) fun F M0 M H σ Q => Po m (fun x => ∀ v M' H', Gr M H M' H' → Rep X.G M' (emb x) v → Q v H') (fun c => ∀ M' H', Gr M H M' H' → Er X.G W c σ H')
/-- .. a new tree -/
abbrev DF (X : Cx) (W : WX) (Γ : List Sl) (e : Expr) {α : Type} (emb : α → T) (m : R α) : Prop :=
  JQ X Γ (wE X e) fun F M0 M H σ Q => Po m (fun x => ∀ v M' H' as, Gr M H M' H' → Own X.G M' H' (emb x) v as → as.Nodup → (∀ a ∈ as, H a = none ∧ M' a = none) → Q v H') (fun c => ∀ M' H', Gr M H M' H' → Er X.G W c σ H')
/-- .. a tree that is only looked at -/
abbrev DB (X : Cx) (W : WX) (Γ : List Sl) (e : Expr) {α : Type} (emb : α → T) (m : R α) : Prop :=
  JQ X Γ (wE X e) fun F M0 M H σ Q => Po m (fun x => ∀ v M' H' as, Gr M H M' H' → Own X.G M' H' (emb x) v as → Q v H') (fun c => ∀ M' H', Gr M H M' H' → Er X.G W c σ H')
/-- a test -/
abbrev DT (X : Cx) (W : WX) (Γ : List Sl) (e : Expr) (m : R Bool) : Prop :=
  JQ X Γ (wT X e) fun F M0 M H σ Q => Po m (fun x => ∀ M' H', Gr M H M' H' → Q x H') (fun c => ∀ M' H', Gr M H M' H' → Er X.G W c σ H')
abbrev DW (X : Cx) (W : WX) (Γ : List Sl) (e : Expr) (m : R Bool) : Prop :=
  JQ X Γ (wW X e) fun F M0 M H σ Q => Po m (fun x => ∀ M' H', Gr M H M' H' → Q x H') (fun c => ∀ M' H', Gr M H M' H' → Er X.G W c σ H')
/-- arguments -/
abbrev DA (X : Cx) (W : WX) (Γ : List Sl) (es : List Expr) {α : Type} (emb : α → List D) (m : R α) : Prop :=
  JQ X Γ (wA X es) fun F M0 M H σ Q => Po m (fun x => ∀ vs M' H', Gr M H M' H' → Reps X.G M' (emb x) vs → Q vs H') (fun c => ∀ M' H', Gr M H M' H' → Er X.G W c σ H')
/-- Γe knows no more than Γ -/
def Wk : List Sl → List Sl → Prop
  | [], [] => True
  | .un :: Γe, _ :: Γ => Wk Γe Γ
  | .ow t :: Γe, .ow t' :: Γ => t = t' ∧ Wk Γe Γ
  | .pn v t :: Γe, .pn v' t' :: Γ => v = v' ∧ t = t' ∧ Wk Γe Γ
  | .ow t :: Γe, .pn _ t' :: Γ => t = t' ∧ Wk Γe Γ
  | .lk t :: Γe, .lk t' :: Γ => t = t' ∧ Wk Γe Γ
  | _, _ => False
theorem Sat.wk {G : Ctx} {F M H : Hp} : ∀ {Γe Γ : List Sl} {σ : St} {as : List Addr}, Wk Γe Γ → Sat G F M H Γ σ as → ∃ bs, Sat G F M H Γe σ bs ∧ bs.Sublist as
  | [], [], σ, as, _, h => ⟨as, h, .refl _⟩
  | .un :: Γe, .un :: Γ, σ, as, w, ⟨x, r, h1, h2⟩ => by
    obtain ⟨bs, s, sub⟩ := Sat.wk (Γe := Γe) w h2
    exact ⟨bs, ⟨x, r, h1, s⟩, sub⟩
  | .un :: Γe, .ow t :: Γ, σ, as, w, ⟨v, r, a1, a2, h1, h2, h3, h4⟩ => by
    obtain ⟨bs, s, sub⟩ := Sat.wk (Γe := Γe) w h4
    exact ⟨bs, ⟨some v, r, h1, s⟩, by rw [h2]; exact sub.trans (List.sublist_append_right _ _)⟩
  | .un :: Γe, .lk t :: Γ, σ, as, w, ⟨v, r, a0, h1, h2, h3⟩ => by
    obtain ⟨bs, s, sub⟩ := Sat.wk (Γe := Γe) w h3
    exact ⟨bs, ⟨some v, r, h1, s⟩, sub⟩
  | .lk t :: Γe, .lk t' :: Γ, σ, as, ⟨e, w⟩, ⟨v, r, a0, h1, h2, h3⟩ => by
    obtain ⟨bs, s, sub⟩ := Sat.wk (Γe := Γe) w h3
    exact ⟨bs, ⟨v, r, a0, h1, by rw [e]; exact h2, s⟩, sub⟩
  | .un :: Γe, .pn v t :: Γ, σ, as, w, ⟨r, a1, a2, h1, h2, h3, h4⟩ => by
    obtain ⟨bs, s, sub⟩ := Sat.wk (Γe := Γe) w h4
    exact ⟨bs, ⟨some v, r, h1, s⟩, by rw [h2]; exact sub.trans (List.sublist_append_right _ _)⟩
  | .ow t :: Γe, .ow t' :: Γ, σ, as, ⟨e, w⟩, ⟨v, r, a1, a2, h1, h2, h3, h4⟩ => by
    obtain ⟨bs, s, sub⟩ := Sat.wk (Γe := Γe) w h4
    exact ⟨a1 ++ bs, ⟨v, r, a1, bs, h1, rfl, by rw [e]; exact h3, s⟩, by rw [h2]; exact List.Sublist.append_left sub a1⟩
  | .ow t :: Γe, .pn v t' :: Γ, σ, as, ⟨e, w⟩, ⟨r, a1, a2, h1, h2, h3, h4⟩ => by
    obtain ⟨bs, s, sub⟩ := Sat.wk (Γe := Γe) w h4
    exact ⟨a1 ++ bs, ⟨v, r, a1, bs, h1, rfl, by rw [e]; exact h3, s⟩, by rw [h2]; exact List.Sublist.append_left sub a1⟩
  | .pn v t :: Γe, .pn v' t' :: Γ, σ, as, ⟨e0, e, w⟩, ⟨r, a1, a2, h1, h2, h3, h4⟩ => by
    obtain ⟨bs, s, sub⟩ := Sat.wk (Γe := Γe) w h4
    exact ⟨a1 ++ bs, ⟨r, a1, bs, by rw [e0]; exact h1, rfl, by rw [e, e0]; exact h3, s⟩, by rw [h2]; exact List.Sublist.append_left sub a1⟩
theorem S.wk {G : Ctx} {F M0 M H : Hp} {σ : St} {Γe Γ : List Sl} (w : Wk Γe Γ) (h : S G F M0 M H σ Γ) : S G F M0 M H σ Γe := by
  obtain ⟨as, f, s⟩ := h
  obtain ⟨bs, s', sub⟩ := Sat.wk w s
  exact ⟨bs, f.sub sub, s'⟩
end Cn
/-! Cn2: expressions -/
namespace Cn
open PySem PySem.Spec L2
def isStar : Expr → Bool
  | .Starred _ _ => true
  | _ => false
theorem star_cons {e : Expr} {es : List Expr} {env : Env} (h : isStar e = false) : starEach (e :: es) env = (false, eval e env) :: starEach es env := by
  cases e with
  | Starred _ _ => cases h
  | _ => rfl
theorem star_one {e : Expr} {env : Env} (h : isStar e = false) : starEach [e] env = [(false, eval e env)] := star_cons h
def noStar : List Expr → Bool
  | [] => true
  | e :: es => !isStar e && noStar es
theorem star_none {pos : Pos} {es : List Expr} {env : Env} (h : noStar es = true) : (backTo pos (starEach es env)).any (·.1) = false := by
  induction es with
  | nil => rfl
  | cons e es ih =>
    have h : (!isStar e && noStar es) = true := h
    rw [Bool.and_eq_true] at h
    rw [star_cons (by cases z : isStar e with
      | true => rw [z] at h; cases h.1
      | false => rfl)]
    exact ih h.2
section
variable {X : Cx} {W : WX} {Γ : List Sl} {a b e : Expr} {es : List Expr} {α β γ : Type} {pos : Pos}
/-! ### from one kind to another -/
theorem db_of_dd {emb : α → D} {m : R α} (h : DD X W Γ e emb m) : DB X W Γ e (fun x => .imm (emb x)) m := by
  have p := pe_w X e; have q := h
  exact dmk ⟨_, p, fun F M0 M H σ Q s po => q F M0 M H σ Q s (po.imp (fun x _ k v M' H' g r => k v M' H' [] g ⟨rfl, r⟩) fun _ z => z)⟩
theorem df_of_dd {emb : α → D} {m : R α} (h : DD X W Γ e emb m) : DF X W Γ e (fun x => .imm (emb x)) m := by
  have p := pe_w X e; have q := h
  exact dmk ⟨_, p, fun F M0 M H σ Q s po => q F M0 M H σ Q s (po.imp (fun x _ k v M' H' g r => k v M' H' [] g ⟨rfl, r⟩ List.nodup_nil (fun _ z => nomatch z)) fun _ z => z)⟩
theorem db_of_df {emb : α → T} {m : R α} (h : DF X W Γ e emb m) : DB X W Γ e emb m := by
  have p := pe_w X e; have q := h
  exact dmk ⟨_, p, fun F M0 M H σ Q s po => q F M0 M H σ Q s (po.imp (fun x _ k v M' H' as g o _ _ => k v M' H' as g o) fun _ z => z)⟩
/-- fresh addresses are given away -/
theorem gr_freeze {M H M1 H1 : Hp} {as : List Addr} (g : Gr M H M1 H1) (th : ∀ a ∈ as, H1 a ≠ none) (fr : ∀ a ∈ as, H a = none ∧ M1 a = none) :
    ∃ M2, Gr M H M2 H1 ∧ Same M1 M2 ∧ ∀ a ∈ as, ∀ o, H1 a = some o → M2 a = some o := by
  refine ⟨fun a => if a ∈ as then H1 a else M1 a, ⟨g.hh, fun b o e => ?_, fun b o e => ?_, fun b z => ?_⟩, fun b o e => ?_, fun b hb o e => ?_⟩
  · show (if b ∈ as then H1 b else M1 b) = some o
    by_cases hb : b ∈ as
    · have := (fr b hb).2
      rw [g.mm b o e] at this; cases this
    · rw [if_neg hb]; exact g.mm b o e
  · have e' : (if b ∈ as then H1 b else M1 b) = some o := e
    by_cases hb : b ∈ as
    · rw [if_pos hb] at e'; exact e'
    · rw [if_neg hb] at e'; exact g.mh b o e'
  · have z' : (if b ∈ as then H1 b else M1 b) ≠ none := z
    by_cases hb : b ∈ as
    · exact .inr (fr b hb).1
    · rw [if_neg hb] at z'; exact g.nw b z'
  · show (if b ∈ as then H1 b else M1 b) = some o
    by_cases hb : b ∈ as
    · have := (fr b hb).2
      rw [e] at this; cases this
    · rw [if_neg hb]; exact e
  · show (if b ∈ as then H1 b else M1 b) = some o
    rw [if_pos hb]; exact e
theorem dd_of_df {emb : α → T} {emb' : α → D} {m : R α} (h : DF X W Γ e emb m) (he : ∀ x, fz (emb x) = emb' x) : DD X W Γ e emb' m := by
  have p := pe_w X e; have q := h
  refine dmk ⟨_, p, fun F M0 M H σ Q s po => q F M0 M H σ Q s (po.imp (fun x _ k v M' H' as g o nd fr => ?_) fun _ z => z)⟩
  obtain ⟨M2, g2, s2, k2⟩ := gr_freeze g (Own.there _ _ _ o) fr
  refine k v M2 H' g2 ?_
  rw [← he]
  exact Own.freeze s2 _ _ _ k2 o
theorem dd_imm {emb : α → D} {m : R α} (h : DF X W Γ e (fun x => .imm (emb x)) m) : DD X W Γ e emb m := dd_of_df h fun _ => rfl
theorem fz_list {ε : α → D} (xs : List α) : fz (.lst (xs.map fun x => .imm (ε x))) = .lst (xs.map ε) := by
  show D.lst (fzs _) = _
  rw [fzs_map]
  rfl
theorem dd_list {ε : β → D} {m : R (List β)} (h : DF X W Γ e (fun xs => .lst (xs.map fun x => .imm (ε x))) m) : DD X W Γ e (fun xs => .lst (xs.map ε)) m := dd_of_df h fun xs => fz_list xs
/-! ### names and constants -/
theorem dd_var {emb : α → D} {x : α} {n : Str} (i : Nat) (h : Γ[i]? = some (.ow (.imm (emb x)))) (hN : X.N[i]? = some n := by rfl) (hv : Vis X.env.scope n := by first | exact Or.inl rfl | exact Or.inr (Or.inl rfl) | exact Or.inr (Or.inr rfl))
    (hd : (n == ("__debug__" : Str)) = false := by decide) (hcd : (n == ("__classdict__" : Str)) = false := by decide) : DD X W Γ (.Name n pos) emb (.ok x) := dmk
  ⟨_, pe_var hN hv hd hcd, fun F M0 M H σ Q s po => by
    obtain ⟨as, f, sa⟩ := s
    obtain ⟨v, a, h1, h2, h3⟩ := Sat.get sa h
    exact ⟨v, h1, po v M H (.refl f.mh) h2.2⟩⟩
theorem db_var {emb : α → T} {x : α} {n : Str} (i : Nat) (h : Γ[i]? = some (.ow (emb x))) (hN : X.N[i]? = some n := by rfl) (hv : Vis X.env.scope n := by first | exact Or.inl rfl | exact Or.inr (Or.inl rfl) | exact Or.inr (Or.inr rfl))
    (hd : (n == ("__debug__" : Str)) = false := by decide) (hcd : (n == ("__classdict__" : Str)) = false := by decide) : DB X W Γ (.Name n pos) emb (.ok x) := dmk
  ⟨_, pe_var hN hv hd hcd, fun F M0 M H σ Q s po => by
    obtain ⟨as, f, sa⟩ := s
    obtain ⟨v, a, h1, h2, h3⟩ := Sat.get sa h
    exact ⟨v, h1, po v M H a (.refl f.mh) h2⟩⟩
theorem dd_c {v : V} {d : α → D} {x : α} (p : PE X e (tC v)) (r : ∀ M, Rep X.G M (d x) v) : DD X W Γ e d (.ok x) := dmk
  ⟨_, p, fun F M0 M H σ Q s po => po v M H (.refl s.mh) (r M)⟩
theorem dd_int {i : Int} {j} : DD X W Γ (.Constant (.int i) j pos) D.int (.ok i) := dd_c pe_int fun _ => rfl
theorem dd_bl {i : Bool} {j} : DD X W Γ (.Constant (.bool i) j pos) D.bl (.ok i) := dd_c pe_bl fun _ => rfl
theorem dd_str {i : Str} {j} : DD X W Γ (.Constant (.str i) j pos) D.str (.ok i) := dd_c pe_str fun _ => rfl
theorem dd_non {j} : DD X W Γ (.Constant .none j pos) (fun _ : Unit => D.non) (.ok ()) := dd_c pe_non fun _ => rfl
theorem dd_gint {i : Int} {t : Tok} {n : Str} (hm : X.mg n = some (.int i t)) (hg : Gl X n := by rfl) (hd : (n == ("__debug__" : Str)) = false := by decide) : DD X W Γ (.Name n pos) D.int (.ok i) := dd_c (pe_glob (v := .int i) hg hm ⟨t, rfl⟩ hd) fun _ => rfl
/-! ### two operands -/
def ofO {γ : Type} : Option γ → R γ
  | none => .bad
  | some z => .ok z
theorem Po.ofO {γ : Type} {o : Option γ} {Q : γ → Prop} {E : Str → Prop} (h : Po (ofO o) Q E) : ∃ z, o = some z ∧ Q z := by
  cases o with
  | none => exact h.elim
  | some z => exact ⟨z, rfl, h⟩
/-- what is wanted of a value that stands for z: for shared data, for a new tree -/
abbrev WD (G : Ctx) (M H : Hp) (d : D) (Q : VK) : Prop := ∀ v M' H', Gr M H M' H' → Rep G M' d v → Q v H'
abbrev WF (G : Ctx) (M H : Hp) (t : T) (Q : VK) : Prop := ∀ v M' H' as, Gr M H M' H' → Own G M' H' t v as → as.Nodup → (∀ a ∈ as, H a = none ∧ M' a = none) → Q v H'
/-- what an operator's rule makes of data -/
def Op2 (G : Ctx) (r : R2) (ea : α → D) (eb : β → D) (er : γ → D) (f : α → β → Option γ) : Prop :=
  ∀ x y z (M H : Hp) v w (Q : VK), Same M H → Rep G M (ea x) v → Rep G M (eb y) w → f x y = some z → WD G M H (er z) Q → r v w H Q
/-- .. of trees that are looked at; a new tree -/
def Op2F (G : Ctx) (r : R2) (ea : α → T) (eb : β → T) (er : γ → T) (f : α → β → Option γ) : Prop :=
  ∀ x y z (M H : Hp) v w as bs (Q : VK), Same M H → Own G M H (ea x) v as → Own G M H (eb y) w bs → f x y = some z → WF G M H (er z) Q → r v w H Q
def Op2B (G : Ctx) (r : R2) (ea : α → T) (eb : β → T) (er : γ → D) (f : α → β → Option γ) : Prop :=
  ∀ x y z (M H : Hp) v w as bs (Q : VK), Same M H → Own G M H (ea x) v as → Own G M H (eb y) w bs → f x y = some z → WD G M H (er z) Q → r v w H Q
theorem two_dd {ta tb : TE} {r : R2} {ea : α → D} {eb : β → D} {er : γ → D} {f : α → β → Option γ} {ma : R α} {mb : R β} (hr : Op2 X.G r ea eb er f) {F M0 M H : Hp} {σ : St} {Q : VK}
    (qa : ∀ F M0 M H σ Q, S X.G F M0 M H σ Γ → Po ma (fun x => WD X.G M H (ea x) Q) (fun c => ∀ M' H', Gr M H M' H' → Er X.G W c σ H') → ta σ H Q)
    (qb : ∀ F M0 M H σ Q, S X.G F M0 M H σ Γ → Po mb (fun x => WD X.G M H (eb x) Q) (fun c => ∀ M' H', Gr M H M' H' → Er X.G W c σ H') → tb σ H Q)
    (s : S X.G F M0 M H σ Γ) (po : Po (ma >>= fun x => mb >>= fun y => ofO (f x y)) (fun x => WD X.G M H (er x) Q) (fun c => ∀ M' H', Gr M H M' H' → Er X.G W c σ H')) :
    tOp r ta tb σ H Q := by
  refine qa F M0 M H σ _ s (po.bind.imp (fun x _ k v M1 H1 g1 r1 => ?_) fun _ z => z)
  refine qb F M0 M1 H1 σ _ (s.grow g1) (k.bind.imp (fun y _ k w M2 H2 g2 r2 => ?_) fun c z M' H' g => z M' H' (g1.trans g))
  obtain ⟨z, e, k⟩ := k.ofO
  exact hr x y z M2 H2 v w Q g2.mh (Rep.mono g2.mm _ _ r1) r2 e fun v' M' H' g q => k v' M' H' ((g1.trans g2).trans g) q
theorem two_db {ta tb : TE} {r : R2} {ea : α → T} {eb : β → T} {er : γ → D} {f : α → β → Option γ} {ma : R α} {mb : R β} (hr : Op2B X.G r ea eb er f) {F M0 M H : Hp} {σ : St} {Q : VK}
    (qa : ∀ F M0 M H σ Q, S X.G F M0 M H σ Γ → Po ma (fun x => ∀ v M' H' as, Gr M H M' H' → Own X.G M' H' (ea x) v as → Q v H') (fun c => ∀ M' H', Gr M H M' H' → Er X.G W c σ H') → ta σ H Q)
    (qb : ∀ F M0 M H σ Q, S X.G F M0 M H σ Γ → Po mb (fun x => ∀ v M' H' as, Gr M H M' H' → Own X.G M' H' (eb x) v as → Q v H') (fun c => ∀ M' H', Gr M H M' H' → Er X.G W c σ H') → tb σ H Q)
    (s : S X.G F M0 M H σ Γ) (po : Po (ma >>= fun x => mb >>= fun y => ofO (f x y)) (fun x => WD X.G M H (er x) Q) (fun c => ∀ M' H', Gr M H M' H' → Er X.G W c σ H')) :
    tOp r ta tb σ H Q := by
  refine qa F M0 M H σ _ s (po.bind.imp (fun x _ k v M1 H1 as g1 r1 => ?_) fun _ z => z)
  refine qb F M0 M1 H1 σ _ (s.grow g1) (k.bind.imp (fun y _ k w M2 H2 bs g2 r2 => ?_) fun c z M' H' g => z M' H' (g1.trans g))
  obtain ⟨z, e, k⟩ := k.ofO
  exact hr x y z M2 H2 v w as bs Q g2.mh (Own.keep g2.mm _ _ _ (fun a _ o q => g2.hh a o q) r1) r2 e fun v' M' H' g q => k v' M' H' ((g1.trans g2).trans g) q
theorem two_df {ta tb : TE} {r : R2} {ea : α → T} {eb : β → T} {er : γ → T} {f : α → β → Option γ} {ma : R α} {mb : R β} (hr : Op2F X.G r ea eb er f) {F M0 M H : Hp} {σ : St} {Q : VK}
    (qa : ∀ F M0 M H σ Q, S X.G F M0 M H σ Γ → Po ma (fun x => ∀ v M' H' as, Gr M H M' H' → Own X.G M' H' (ea x) v as → Q v H') (fun c => ∀ M' H', Gr M H M' H' → Er X.G W c σ H') → ta σ H Q)
    (qb : ∀ F M0 M H σ Q, S X.G F M0 M H σ Γ → Po mb (fun x => ∀ v M' H' as, Gr M H M' H' → Own X.G M' H' (eb x) v as → Q v H') (fun c => ∀ M' H', Gr M H M' H' → Er X.G W c σ H') → tb σ H Q)
    (s : S X.G F M0 M H σ Γ) (po : Po (ma >>= fun x => mb >>= fun y => ofO (f x y)) (fun x => WF X.G M H (er x) Q) (fun c => ∀ M' H', Gr M H M' H' → Er X.G W c σ H')) :
    tOp r ta tb σ H Q := by
  refine qa F M0 M H σ _ s (po.bind.imp (fun x _ k v M1 H1 as g1 r1 => ?_) fun _ z => z)
  refine qb F M0 M1 H1 σ _ (s.grow g1) (k.bind.imp (fun y _ k w M2 H2 bs g2 r2 => ?_) fun c z M' H' g => z M' H' (g1.trans g))
  obtain ⟨z, e, k⟩ := k.ofO
  exact hr x y z M2 H2 v w as bs Q g2.mh (Own.keep g2.mm _ _ _ (fun a _ o q => g2.hh a o q) r1) r2 e fun v' M' H' cs g q nd fr => k v' M' H' cs ((g1.trans g2).trans g) q nd fun a ha => ⟨(g1.hh.trans g2.hh).free (fr a ha).1, (fr a ha).2⟩
section
variable {r : R2} {op : Operator} {cop : CmpOp}
theorem dd_op {ea : α → D} {eb : β → D} {er : γ → D} {f : α → β → Option γ} {ma : R α} {mb : R β} (hr : Op2 X.G r ea eb er f) (ho : OpR X (binaryOp op) r) (ha : DD X W Γ a ea ma) (hb : DD X W Γ b eb mb) :
    DD X W Γ (.BinOp a op b pos) er (ma >>= fun x => mb >>= fun y => ofO (f x y)) := by
  have pa := pe_w X a; have qa := ha
  have pb := pe_w X b; have qb := hb
  exact dmk ⟨_, pe_op ho pa pb, fun F M0 M H σ Q s po => two_dd hr qa qb s po⟩
theorem df_op {ea : α → T} {eb : β → T} {er : γ → T} {f : α → β → Option γ} {ma : R α} {mb : R β} (hr : Op2F X.G r ea eb er f) (ho : OpR X (binaryOp op) r) (ha : DB X W Γ a ea ma) (hb : DB X W Γ b eb mb) :
    DF X W Γ (.BinOp a op b pos) er (ma >>= fun x => mb >>= fun y => ofO (f x y)) := by
  have pa := pe_w X a; have qa := ha
  have pb := pe_w X b; have qb := hb
  exact dmk ⟨_, pe_op ho pa pb, fun F M0 M H σ Q s po => two_df hr qa qb s po⟩
theorem dd_cmp {ea : α → D} {eb : β → D} {f : α → β → Option Bool} {ma : R α} {mb : R β} (hr : Op2 X.G r ea eb D.bl f) (ho : OpR X (compareOp cop) r) (hm : behindInMarks cop b = false) (ha : DD X W Γ a ea ma) (hb : DD X W Γ b eb mb) :
    DD X W Γ (.Compare a [cop] [b] pos) D.bl (ma >>= fun x => mb >>= fun y => ofO (f x y)) := by
  have pa := pe_w X a; have qa := ha
  have pb := pe_w X b; have qb := hb
  exact dmk ⟨_, pe_cmpR ho pa pb hm, fun F M0 M H σ Q s po => two_dd hr qa qb s po⟩
theorem dt_cmp {ea : α → D} {eb : β → D} {f : α → β → Option Bool} {ma : R α} {mb : R β} (hr : Op2 X.G r ea eb D.bl f) (ho : OpR X (compareOp cop) r) (hm : behindInMarks cop b = false) (ha : DD X W Γ a ea ma) (hb : DD X W Γ b eb mb) :
    DT X W Γ (.Compare a [cop] [b] pos) (ma >>= fun x => mb >>= fun y => ofO (f x y)) := by
  have pa := pe_w X a; have qa := ha
  have pb := pe_w X b; have qb := hb
  exact tmk ⟨_, pt_cmpR ho pa pb hm, fun F M0 M H σ Q s po => two_dd hr qa qb s (po.imp (fun x _ k v M' H' g q => ⟨x, q, k M' H' g⟩) fun _ z => z)⟩
theorem db_cmp {ea : α → T} {eb : β → T} {f : α → β → Option Bool} {ma : R α} {mb : R β} (hr : Op2B X.G r ea eb D.bl f) (ho : OpR X (compareOp cop) r) (hm : behindInMarks cop b = false) (ha : DB X W Γ a ea ma) (hb : DB X W Γ b eb mb) :
    DD X W Γ (.Compare a [cop] [b] pos) D.bl (ma >>= fun x => mb >>= fun y => ofO (f x y)) := by
  have pa := pe_w X a; have qa := ha
  have pb := pe_w X b; have qb := hb
  exact dmk ⟨_, pe_cmpR ho pa pb hm, fun F M0 M H σ Q s po => two_db hr qa qb s po⟩
theorem dt_cmpB {ea : α → T} {eb : β → T} {f : α → β → Option Bool} {ma : R α} {mb : R β} (hr : Op2B X.G r ea eb D.bl f) (ho : OpR X (compareOp cop) r) (hm : behindInMarks cop b = false) (ha : DB X W Γ a ea ma) (hb : DB X W Γ b eb mb) :
    DT X W Γ (.Compare a [cop] [b] pos) (ma >>= fun x => mb >>= fun y => ofO (f x y)) := by
  have pa := pe_w X a; have qa := ha
  have pb := pe_w X b; have qb := hb
  exact tmk ⟨_, pt_cmpR ho pa pb hm, fun F M0 M H σ Q s po => two_db hr qa qb s (po.imp (fun x _ k v M' H' g q => ⟨x, q, k M' H' g⟩) fun _ z => z)⟩
end
/-! ### ints -/
theorem o2_I0 {G : Ctx} {g : Int → Int → Int} : Op2 G (rI0 fun i j => .int (g i j)) D.int D.int D.int fun i j => some (g i j) := fun x y z M H v w Q mh hv hw e k =>
  ⟨x, y, hv, hw, k _ M H (.refl mh) (by rw [← Option.some.inj e]; rfl)⟩
theorem o2_B0 {G : Ctx} {g : Int → Int → Bool} : Op2 G (rI0 fun i j => .bl (g i j)) D.int D.int D.bl fun i j => some (g i j) := fun x y z M H v w Q mh hv hw e k =>
  ⟨x, y, hv, hw, k _ M H (.refl mh) (by rw [← Option.some.inj e]; rfl)⟩
theorem o2_I {G : Ctx} {C : Int → Int → Prop} {h : ∀ i j, Decidable (C i j)} {g : Int → Int → Int} : Op2 G (rI C fun i j => .int (g i j)) D.int D.int D.int fun i j => @ite _ (C i j) (h i j) (some (g i j)) none := fun x y z M H v w Q mh hv hw e k => by
  have e : (@ite _ (C x y) (h x y) (some (g x y)) none) = some z := e
  by_cases c : C x y
  · rw [if_pos c] at e
    exact ⟨x, y, hv, hw, c, k _ M H (.refl mh) (by rw [← Option.some.inj e]; rfl)⟩
  · rw [if_neg c] at e; cases e
/-- the condition is known of the operand that is written there -/
theorem o2_IP {G : Ctx} {C : Int → Int → Prop} {P : Int → Int → Prop} {g : Int → Int → Int} (h : ∀ i j, P i j → C i j) : ∀ x y z (M H : Hp) v w (Q : VK), Same M H → P x y → Rep G M (D.int x) v → Rep G M (D.int y) w → g x y = z → WD G M H (D.int z) Q → (rI C fun i j => .int (g i j)) v w H Q := fun x y z M H v w Q mh p hv hw e k =>
  ⟨x, y, hv, hw, h _ _ p, k _ M H (.refl mh) (by rw [← e]; rfl)⟩
section
variable {ma mb : R Int}
theorem dd_add (ha : DD X W Γ a D.int ma) (hb : DD X W Γ b D.int mb) : DD X W Γ (.BinOp a .Add b pos) D.int (ma >>= fun x => mb >>= fun y => .ok (x + y)) := dd_op o2_I0 op_add ha hb
theorem dd_sub (ha : DD X W Γ a D.int ma) (hb : DD X W Γ b D.int mb) : DD X W Γ (.BinOp a .Sub b pos) D.int (ma >>= fun x => mb >>= fun y => .ok (x - y)) := dd_op o2_I0 op_sub ha hb
theorem dd_and (ha : DD X W Γ a D.int ma) (hb : DD X W Γ b D.int mb) : DD X W Γ (.BinOp a .BitAnd b pos) D.int (ma >>= fun x => mb >>= fun y => .ok (Builtin.bitAnd x y)) := dd_op o2_I0 op_and ha hb
theorem dd_or (ha : DD X W Γ a D.int ma) (hb : DD X W Γ b D.int mb) : DD X W Γ (.BinOp a .BitOr b pos) D.int (ma >>= fun x => mb >>= fun y => .ok (Builtin.bitOr x y)) := dd_op o2_I0 op_or ha hb
theorem dd_xor (ha : DD X W Γ a D.int ma) (hb : DD X W Γ b D.int mb) : DD X W Γ (.BinOp a .BitXor b pos) D.int (ma >>= fun x => mb >>= fun y => .ok (Builtin.bitXor x y)) := dd_op o2_I0 op_xor ha hb
instance decMul (i j : Int) : Decidable (CMul i j) := by unfold CMul; infer_instance
instance decPow (i j : Int) : Decidable (CPow i j) := by unfold CPow; infer_instance
instance decDiv (i j : Int) : Decidable (CDiv i j) := by unfold CDiv; infer_instance
noncomputable def mulO (i j : Int) : Option Int := @ite _ (CMul i j) (Classical.propDecidable _) (some (i * j)) none
noncomputable def powO (i j : Int) : Option Int := @ite _ (CPow i j) (Classical.propDecidable _) (some (i ^ j.toNat)) none
noncomputable def shlO (i j : Int) : Option Int := @ite _ (CPow i j) (Classical.propDecidable _) (some (i * 2 ^ j.toNat)) none
noncomputable def shrO (i j : Int) : Option Int := @ite _ (0 ≤ j) (Classical.propDecidable _) (some (i / 2 ^ j.toNat)) none
noncomputable def divO (i j : Int) : Option Int := @ite _ (CDiv i j) (Classical.propDecidable _) (some (i / j)) none
noncomputable def modO (i j : Int) : Option Int := @ite _ (0 < j) (Classical.propDecidable _) (some (i % j)) none
theorem dd_mul (ha : DD X W Γ a D.int ma) (hb : DD X W Γ b D.int mb) : DD X W Γ (.BinOp a .Mult b pos) D.int (ma >>= fun x => mb >>= fun y => ofO (mulO x y)) := dd_op o2_I op_mul ha hb
theorem dd_pow (ha : DD X W Γ a D.int ma) (hb : DD X W Γ b D.int mb) : DD X W Γ (.BinOp a .Pow b pos) D.int (ma >>= fun x => mb >>= fun y => ofO (powO x y)) := dd_op o2_I op_pow ha hb
theorem dd_shl (ha : DD X W Γ a D.int ma) (hb : DD X W Γ b D.int mb) : DD X W Γ (.BinOp a .LShift b pos) D.int (ma >>= fun x => mb >>= fun y => ofO (shlO x y)) := dd_op o2_I op_shl ha hb
theorem dd_shr (ha : DD X W Γ a D.int ma) (hb : DD X W Γ b D.int mb) : DD X W Γ (.BinOp a .RShift b pos) D.int (ma >>= fun x => mb >>= fun y => ofO (shrO x y)) := dd_op o2_I op_shr ha hb
theorem dd_div (ha : DD X W Γ a D.int ma) (hb : DD X W Γ b D.int mb) : DD X W Γ (.BinOp a .FloorDiv b pos) D.int (ma >>= fun x => mb >>= fun y => ofO (divO x y)) := dd_op o2_I op_fdiv ha hb
theorem dd_mod (ha : DD X W Γ a D.int ma) (hb : DD X W Γ b D.int mb) : DD X W Γ (.BinOp a .Mod b pos) D.int (ma >>= fun x => mb >>= fun y => ofO (modO x y)) := dd_op o2_I op_mod ha hb
theorem mulO_r {x y : Int} (h : -(2 ^ 64) < y ∧ y < 2 ^ 64) : mulO x y = some (x * y) := if_pos (.inr h)
theorem mulO_l {x y : Int} (h : -(2 ^ 64) < x ∧ x < 2 ^ 64) : mulO x y = some (x * y) := if_pos (.inl h)
theorem divO_c {x y : Int} (h : 0 < y ∧ y < 1073741824) : divO x y = some (x / y) := if_pos h
theorem modO_c {x y : Int} (h : 0 < y) : modO x y = some (x % y) := if_pos h
theorem shrO_c {x y : Int} (h : 0 ≤ y) : shrO x y = some (x / 2 ^ y.toNat) := if_pos h
/-- a written operand on the right | on the left -/
theorem op_right {op : Operator} {f : Int → Int → Option Int} {g : Int → Int → Int} {y : Int} (h : DD X W Γ (.BinOp a op b pos) D.int (ma >>= fun x => (R.ok y) >>= fun y => ofO (f x y))) (e : ∀ x, f x y = some (g x y)) : DD X W Γ (.BinOp a op b pos) D.int (ma >>= fun x => .ok (g x y)) := by
  have z : (ma >>= fun x => (R.ok y) >>= fun y => ofO (f x y)) = (ma >>= fun x => R.ok (g x y)) := by
    congr 1; funext x
    show ofO (f x y) = _
    rw [e]; rfl
  rw [← z]; exact h
theorem dd_mulC {y : Int} (ha : DD X W Γ a D.int ma) (hb : DD X W Γ b D.int (.ok y)) (h : -(2 ^ 64) < y ∧ y < 2 ^ 64) : DD X W Γ (.BinOp a .Mult b pos) D.int (ma >>= fun x => .ok (x * y)) := op_right (g := fun x y => x * y) (dd_mul ha hb) fun _ => mulO_r h
theorem dd_divC {y : Int} (ha : DD X W Γ a D.int ma) (hb : DD X W Γ b D.int (.ok y)) (h : 0 < y ∧ y < 1073741824) : DD X W Γ (.BinOp a .FloorDiv b pos) D.int (ma >>= fun x => .ok (x / y)) := op_right (g := fun x y => x / y) (dd_div ha hb) fun _ => divO_c h
theorem dd_modC {y : Int} (ha : DD X W Γ a D.int ma) (hb : DD X W Γ b D.int (.ok y)) (h : 0 < y) : DD X W Γ (.BinOp a .Mod b pos) D.int (ma >>= fun x => .ok (x % y)) := op_right (g := fun x y => x % y) (dd_mod ha hb) fun _ => modO_c h
theorem dd_shrC {y : Int} (ha : DD X W Γ a D.int ma) (hb : DD X W Γ b D.int (.ok y)) (h : 0 ≤ y) : DD X W Γ (.BinOp a .RShift b pos) D.int (ma >>= fun x => .ok (x / 2 ^ y.toNat)) := op_right (g := fun x y => x / 2 ^ y.toNat) (dd_shr ha hb) fun _ => shrO_c h
theorem dd_powC {x y z : Int} (ha : DD X W Γ a D.int (.ok x)) (hb : DD X W Γ b D.int (.ok y)) (h : powO x y = some z) : DD X W Γ (.BinOp a .Pow b pos) D.int (.ok z) := by
  have q := dd_pow (pos := pos) ha hb
  have e : ((R.ok x) >>= fun x => (R.ok y) >>= fun y => ofO (powO x y)) = R.ok z := by
    show ofO (powO x y) = _
    rw [h]; rfl
  rw [e] at q; exact q
/-! comparisons of ints: f is decide of it -/
variable {cop : CmpOp} {r : R2}
theorem dd_lt (ha : DD X W Γ a D.int ma) (hb : DD X W Γ b D.int mb) : DD X W Γ (.Compare a [.Lt] [b] pos) D.bl (ma >>= fun x => mb >>= fun y => .ok (decide (x < y))) := dd_cmp o2_B0 op_lt (nomark _) ha hb
theorem dd_le (ha : DD X W Γ a D.int ma) (hb : DD X W Γ b D.int mb) : DD X W Γ (.Compare a [.LtE] [b] pos) D.bl (ma >>= fun x => mb >>= fun y => .ok (decide (x ≤ y))) := dd_cmp o2_B0 op_le (nomark _) ha hb
theorem dd_gt (ha : DD X W Γ a D.int ma) (hb : DD X W Γ b D.int mb) : DD X W Γ (.Compare a [.Gt] [b] pos) D.bl (ma >>= fun x => mb >>= fun y => .ok (decide (y < x))) := dd_cmp o2_B0 op_gt (nomark _) ha hb
theorem dd_ge (ha : DD X W Γ a D.int ma) (hb : DD X W Γ b D.int mb) : DD X W Γ (.Compare a [.GtE] [b] pos) D.bl (ma >>= fun x => mb >>= fun y => .ok (decide (y ≤ x))) := dd_cmp o2_B0 op_ge (nomark _) ha hb
theorem dt_lt (ha : DD X W Γ a D.int ma) (hb : DD X W Γ b D.int mb) : DT X W Γ (.Compare a [.Lt] [b] pos) (ma >>= fun x => mb >>= fun y => .ok (decide (x < y))) := dt_cmp o2_B0 op_lt (nomark _) ha hb
theorem dt_le (ha : DD X W Γ a D.int ma) (hb : DD X W Γ b D.int mb) : DT X W Γ (.Compare a [.LtE] [b] pos) (ma >>= fun x => mb >>= fun y => .ok (decide (x ≤ y))) := dt_cmp o2_B0 op_le (nomark _) ha hb
theorem dt_gt (ha : DD X W Γ a D.int ma) (hb : DD X W Γ b D.int mb) : DT X W Γ (.Compare a [.Gt] [b] pos) (ma >>= fun x => mb >>= fun y => .ok (decide (y < x))) := dt_cmp o2_B0 op_gt (nomark _) ha hb
theorem dt_ge (ha : DD X W Γ a D.int ma) (hb : DD X W Γ b D.int mb) : DT X W Γ (.Compare a [.GtE] [b] pos) (ma >>= fun x => mb >>= fun y => .ok (decide (y ≤ x))) := dt_cmp o2_B0 op_ge (nomark _) ha hb
theorem o2_eqI {G : Ctx} : Op2 G rEq D.int D.int D.bl fun i j => some (decide (i = j)) := fun x y z M H v w Q mh hv hw e k => by
  rw [show v = .int x from hv, show w = .int y from hw]
  refine ⟨rfl, k _ M H (.refl mh) ?_⟩
  rw [← Option.some.inj e]
  show V.bl _ = V.bl _
  congr 1
  simp
theorem o2_neI {G : Ctx} : Op2 G rNe D.int D.int D.bl fun i j => some (!decide (i = j)) := fun x y z M H v w Q mh hv hw e k => by
  rw [show v = .int x from hv, show w = .int y from hw]
  refine ⟨rfl, k _ M H (.refl mh) ?_⟩
  rw [← Option.some.inj e]
  show V.bl _ = V.bl _
  congr 1
  simp
theorem o2_eqS {G : Ctx} : Op2 G rEq D.str D.str D.bl fun i j => some (decide (i = j)) := fun x y z M H v w Q mh hv hw e k => by
  rw [show v = .str x from hv, show w = .str y from hw]
  refine ⟨rfl, k _ M H (.refl mh) ?_⟩
  rw [← Option.some.inj e]
  show V.bl _ = V.bl _
  congr 1
  simp
theorem o2_neS {G : Ctx} : Op2 G rNe D.str D.str D.bl fun i j => some (!decide (i = j)) := fun x y z M H v w Q mh hv hw e k => by
  rw [show v = .str x from hv, show w = .str y from hw]
  refine ⟨rfl, k _ M H (.refl mh) ?_⟩
  rw [← Option.some.inj e]
  show V.bl _ = V.bl _
  congr 1
  simp
theorem dd_eqI (ha : DD X W Γ a D.int ma) (hb : DD X W Γ b D.int mb) : DD X W Γ (.Compare a [.Eq] [b] pos) D.bl (ma >>= fun x => mb >>= fun y => .ok (decide (x = y))) := dd_cmp o2_eqI op_eq (nomark _) ha hb
theorem dd_neI (ha : DD X W Γ a D.int ma) (hb : DD X W Γ b D.int mb) : DD X W Γ (.Compare a [.NotEq] [b] pos) D.bl (ma >>= fun x => mb >>= fun y => .ok (!decide (x = y))) := dd_cmp o2_neI op_ne (nomark _) ha hb
theorem dt_eqI (ha : DD X W Γ a D.int ma) (hb : DD X W Γ b D.int mb) : DT X W Γ (.Compare a [.Eq] [b] pos) (ma >>= fun x => mb >>= fun y => .ok (decide (x = y))) := dt_cmp o2_eqI op_eq (nomark _) ha hb
theorem dt_neI (ha : DD X W Γ a D.int ma) (hb : DD X W Γ b D.int mb) : DT X W Γ (.Compare a [.NotEq] [b] pos) (ma >>= fun x => mb >>= fun y => .ok (!decide (x = y))) := dt_cmp o2_neI op_ne (nomark _) ha hb
theorem dd_eqS {ma mb : R Str} (ha : DD X W Γ a D.str ma) (hb : DD X W Γ b D.str mb) : DD X W Γ (.Compare a [.Eq] [b] pos) D.bl (ma >>= fun x => mb >>= fun y => .ok (decide (x = y))) := dd_cmp o2_eqS op_eq (nomark _) ha hb
theorem dd_neS {ma mb : R Str} (ha : DD X W Γ a D.str ma) (hb : DD X W Γ b D.str mb) : DD X W Γ (.Compare a [.NotEq] [b] pos) D.bl (ma >>= fun x => mb >>= fun y => .ok (!decide (x = y))) := dd_cmp o2_neS op_ne (nomark _) ha hb
theorem dt_eqS {ma mb : R Str} (ha : DD X W Γ a D.str ma) (hb : DD X W Γ b D.str mb) : DT X W Γ (.Compare a [.Eq] [b] pos) (ma >>= fun x => mb >>= fun y => .ok (decide (x = y))) := dt_cmp o2_eqS op_eq (nomark _) ha hb
theorem dt_neS {ma mb : R Str} (ha : DD X W Γ a D.str ma) (hb : DD X W Γ b D.str mb) : DT X W Γ (.Compare a [.NotEq] [b] pos) (ma >>= fun x => mb >>= fun y => .ok (!decide (x = y))) := dt_cmp o2_neS op_ne (nomark _) ha hb
/-! ### one operand -/
theorem dd_neg (ha : DD X W Γ a D.int ma) : DD X W Γ (.UnaryOp .USub a pos) D.int (ma >>= fun x => .ok (-x)) := by
  have pa := pe_w X a; have qa := ha
  exact dmk ⟨_, pe_un un_neg pa, fun F M0 M H σ Q s po => qa F M0 M H σ _ s (po.bind.imp (fun x _ k v M1 H1 g1 r1 => ⟨x, r1, k _ M1 H1 g1 rfl⟩) fun _ z => z)⟩
end
/-! ### tests -/
theorem dt_bl {m : R Bool} (h : DD X W Γ e D.bl m) (he : ∀ whole, isTrue e X.env whole = (do let v ← whole; standAt e.pos; holding [v] (truthy v)) := by intro _; rfl) : DT X W Γ e m := by
  have p := pe_w X e; have q := h
  exact tmk ⟨_, pt_val p he, fun F M0 M H σ Q s po => q F M0 M H σ _ s (po.imp (fun x _ k v M' H' g r => ⟨x, r, k M' H' g⟩) fun _ z => z)⟩
/-- how data counts as a test -/
def tru : T → Option Bool
  | .imm .non => some false
  | .imm (.bl b) => some b
  | .imm (.int i) => some (i != 0)
  | .imm (.str s) => if s.length ≤ sizeLine then some ((s.length : Int) != 0) else none
  | .imm (.lst ds) => some !ds.isEmpty
  | .imm (.frl ds) => some !ds.isEmpty
  | .imm (.tup ds) => some !ds.isEmpty
  | .lst ts => some !ts.isEmpty
  | _ => none
theorem empty_of_len {α β : Type} {xs : List α} {ys : List β} (h : xs.length = ys.length) : xs.isEmpty = ys.isEmpty := by
  cases xs <;> cases ys <;> simp_all
theorem tru_of {G : Ctx} {M H : Hp} {t : T} {v : V} {as : List Addr} {k : Bool} (mh : Same M H) (o : Own G M H t v as) (h : tru t = some k) : TruV G.K v H k := by
  cases t with
  | imm d =>
    obtain ⟨_, o⟩ := o
    cases d with
    | any => cases h
    | val _ => cases h
    | non =>
      rw [show v = .non from o]
      exact (Option.some.inj h).symm
    | bl b =>
      rw [show v = .bl b from o]
      exact (Option.some.inj h).symm
    | int i =>
      rw [show v = .int i from o]
      exact (Option.some.inj h).symm
    | str s =>
      rw [show v = .str s from o]
      have h' : (if s.length ≤ sizeLine then some ((s.length : Int) != 0) else none) = some k := h
      by_cases c : s.length ≤ sizeLine
      · rw [if_pos c] at h'
        exact ⟨c, (Option.some.inj h').symm⟩
      · rw [if_neg c] at h'; cases h'
    | tup ds =>
      obtain ⟨a, vs, e, h2, h3⟩ := o
      rw [e]
      refine .inr (.inl ⟨vs, same_sqt mh h2, ?_⟩)
      rw [← Option.some.inj h, empty_of_len h3.len]
    | lst ds =>
      obtain ⟨a, vs, e, h2, h3⟩ := o
      rw [e]
      refine .inl ⟨vs, .of (mh _ _ h2), ?_⟩
      rw [← Option.some.inj h, empty_of_len h3.len]
    | frl ds =>
      obtain ⟨a, vs, e, h2, h3⟩ := o
      rw [e]
      refine .inl ⟨vs, mh.seq h2, ?_⟩
      rw [← Option.some.inj h, empty_of_len h3.len]
    | dic _ _ => cases h
    | dit _ _ => cases h
    | obj _ _ _ => cases h
  | lst ts =>
    obtain ⟨a, vs, r, e, e2, h2, h3⟩ := o
    rw [e]
    refine .inl ⟨vs, .of h2, ?_⟩
    rw [← Option.some.inj h, empty_of_len h3.len]
  | dic _ _ => cases h
  | dit _ _ => cases h
  | obj _ _ _ => cases h
/-- an expression of any kind as a test -/
theorem dt_tru {emb : α → T} {m : R α} (h : DB X W Γ e emb m) (he : ∀ whole, isTrue e X.env whole = (do let v ← whole; standAt e.pos; holding [v] (truthy v)) := by intro _; rfl) : DT X W Γ e (m >>= fun x => ofO (tru (emb x))) := by
  have p := pe_w X e; have q := h
  refine tmk ⟨_, pt_truth p he, fun F M0 M H σ Q s po => q F M0 M H σ _ s (po.bind.imp (fun x _ k v M' H' as g o => ?_) fun _ z => z)⟩
  obtain ⟨b, e, k⟩ := k.ofO
  exact ⟨b, tru_of g.mh o e, k M' H' g⟩
theorem dt_int {m : R Int} (h : DD X W Γ e D.int m) (he : ∀ whole, isTrue e X.env whole = (do let v ← whole; standAt e.pos; holding [v] (truthy v)) := by intro _; rfl) : DT X W Γ e (m >>= fun x => .ok (x != 0)) := dt_tru (db_of_dd h) he
theorem dt_lst {emb : α → T} {m : R (List α)} (h : DB X W Γ e (fun xs => .lst (xs.map emb)) m) (he : ∀ whole, isTrue e X.env whole = (do let v ← whole; standAt e.pos; holding [v] (truthy v)) := by intro _; rfl) : DT X W Γ e (m >>= fun x => .ok !x.isEmpty) := by
  have q := dt_tru h he
  have z : (fun x : List α => ofO (tru (T.lst (x.map emb)))) = fun x => R.ok !x.isEmpty := by
    funext x
    show R.ok _ = R.ok _
    rw [List.isEmpty_map]
  rw [z] at q; exact q
theorem dw_one {op : BoolOp} {m : R Bool} (h : DT X W Γ e m) (ho : op = .And ∨ op = .Or) : DW X W Γ (.BoolOp op [e] pos) m := by
  have p := pt_w X e; have q := h
  rcases ho with rfl | rfl
  · exact wmk ⟨_, pw_and1 p, q⟩
  · exact wmk ⟨_, pw_or1 p, q⟩
theorem dw_and {m n : R Bool} {rest : List Expr} (h : DT X W Γ a m) (k : DW X W Γ (.BoolOp .And (b :: rest) pos) n) : DW X W Γ (.BoolOp .And (a :: b :: rest) pos) (m >>= fun x => if x then n else .ok false) := by
  have p := pt_w X a; have q := h
  have p' := pw_w X (.BoolOp .And (b :: rest) pos); have q' := k
  refine wmk ⟨_, pw_and p p', fun F M0 M H σ Q s po => q F M0 M H σ _ s (po.bind.imp (fun x _ k M' H' g => ?_) fun _ z => z)⟩
  cases x with
  | true => exact q' F M0 M' H' σ _ (s.grow g) (k.imp (fun y _ z M2 H2 g2 => z M2 H2 (g.trans g2)) fun c z M2 H2 g2 => z M2 H2 (g.trans g2))
  | false => exact k M' H' g
theorem dw_or {m n : R Bool} {rest : List Expr} (h : DT X W Γ a m) (k : DW X W Γ (.BoolOp .Or (b :: rest) pos) n) : DW X W Γ (.BoolOp .Or (a :: b :: rest) pos) (m >>= fun x => if x then .ok true else n) := by
  have p := pt_w X a; have q := h
  have p' := pw_w X (.BoolOp .Or (b :: rest) pos); have q' := k
  refine wmk ⟨_, pw_or p p', fun F M0 M H σ Q s po => q F M0 M H σ _ s (po.bind.imp (fun x _ k M' H' g => ?_) fun _ z => z)⟩
  cases x with
  | false => exact q' F M0 M' H' σ _ (s.grow g) (k.imp (fun y _ z M2 H2 g2 => z M2 H2 (g.trans g2)) fun c z M2 H2 g2 => z M2 H2 (g.trans g2))
  | true => exact k M' H' g
theorem dt_dw {m : R Bool} (h : DW X W Γ e m) : DT X W Γ e m := by
  have p := pw_w X e; have q := h
  exact tmk ⟨_, p.pt, q⟩
theorem dt_not {m : R Bool} (h : DT X W Γ e m) : DT X W Γ (.UnaryOp .Not e pos) (m >>= fun x => .ok !x) := by
  have p := pt_w X e; have q := h
  exact tmk ⟨_, pt_not p, fun F M0 M H σ Q s po => q F M0 M H σ _ s (po.bind.imp (fun x _ k M' H' g => k M' H' g) fun _ z => z)⟩
/-- and, or, not of bools as values -/
theorem dd_one {op : BoolOp} {m : R Bool} (h : DD X W Γ e D.bl m) : DD X W Γ (.BoolOp op [e] pos) D.bl m := by
  have p := pe_w X e; have q := h
  exact dmk ⟨_, pe_one p, q⟩
theorem dd_andB {m n : R Bool} {rest : List Expr} (h : DD X W Γ a D.bl m) (k : DD X W Γ (.BoolOp .And (b :: rest) pos) D.bl n) : DD X W Γ (.BoolOp .And (a :: b :: rest) pos) D.bl (m >>= fun x => if x then n else .ok false) := by
  have p := pe_w X a; have q := h
  have p' := pe_w X (.BoolOp .And (b :: rest) pos); have q' := k
  refine dmk ⟨_, pe_and p p', fun F M0 M H σ Q s po => q F M0 M H σ _ s (po.bind.imp (fun x _ k v M' H' g r => ⟨x, r, ?_⟩) fun _ z => z)⟩
  cases x with
  | true => exact q' F M0 M' H' σ _ (s.grow g) (k.imp (fun y _ z v M2 H2 g2 => z v M2 H2 (g.trans g2)) fun c z M2 H2 g2 => z M2 H2 (g.trans g2))
  | false => exact k _ M' H' g rfl
theorem dd_orB {m n : R Bool} {rest : List Expr} (h : DD X W Γ a D.bl m) (k : DD X W Γ (.BoolOp .Or (b :: rest) pos) D.bl n) : DD X W Γ (.BoolOp .Or (a :: b :: rest) pos) D.bl (m >>= fun x => if x then .ok true else n) := by
  have p := pe_w X a; have q := h
  have p' := pe_w X (.BoolOp .Or (b :: rest) pos); have q' := k
  refine dmk ⟨_, pe_or p p', fun F M0 M H σ Q s po => q F M0 M H σ _ s (po.bind.imp (fun x _ k v M' H' g r => ⟨x, r, ?_⟩) fun _ z => z)⟩
  cases x with
  | false => exact q' F M0 M' H' σ _ (s.grow g) (k.imp (fun y _ z v M2 H2 g2 => z v M2 H2 (g.trans g2)) fun c z M2 H2 g2 => z M2 H2 (g.trans g2))
  | true => exact k _ M' H' g rfl
theorem dd_notB {m : R Bool} (h : DD X W Γ e D.bl m) : DD X W Γ (.UnaryOp .Not e pos) D.bl (m >>= fun x => .ok !x) := by
  have p := pe_w X e; have q := h
  exact dmk ⟨_, pe_not p, fun F M0 M H σ Q s po => q F M0 M H σ _ s (po.bind.imp (fun x _ k v M' H' g r => ⟨x, r, k _ M' H' g rfl⟩) fun _ z => z)⟩
theorem df_if {c : Expr} {mc : R Bool} {emb : α → T} {m n : R α} (hc : DT X W Γ c mc) (ha : DF X W Γ a emb m) (hb : DF X W Γ b emb n) : DF X W Γ (.IfExp c a b pos) emb (mc >>= fun x => if x then m else n) := by
  have pc := pt_w X c; have qc := hc
  have pa := pe_w X a; have qa := ha
  have pb := pe_w X b; have qb := hb
  refine dmk ⟨_, pe_ifExp pc pa pb, fun F M0 M H σ Q s po => qc F M0 M H σ _ s (po.bind.imp (fun x _ k M' H' g => ?_) fun _ z => z)⟩
  cases x with
  | true => exact qa F M0 M' H' σ _ (s.grow g) (k.imp (fun y _ z v M2 H2 as g2 o nd fr => z v M2 H2 as (g.trans g2) o nd fun a ha => ⟨g.hh.free (fr a ha).1, (fr a ha).2⟩) fun c z M2 H2 g2 => z M2 H2 (g.trans g2))
  | false => exact qb F M0 M' H' σ _ (s.grow g) (k.imp (fun y _ z v M2 H2 as g2 o nd fr => z v M2 H2 as (g.trans g2) o nd fun a ha => ⟨g.hh.free (fr a ha).1, (fr a ha).2⟩) fun c z M2 H2 g2 => z M2 H2 (g.trans g2))
theorem dd_if {c : Expr} {mc : R Bool} {emb : α → D} {m n : R α} (hc : DT X W Γ c mc) (ha : DD X W Γ a emb m) (hb : DD X W Γ b emb n) : DD X W Γ (.IfExp c a b pos) emb (mc >>= fun x => if x then m else n) := dd_imm (df_if hc (df_of_dd ha) (df_of_dd hb))
/-! ### arguments, calls -/
theorem da_nil : DA X W Γ [] (fun _ : Unit => []) (.ok ()) := amk ⟨_, pa_nil, fun F M0 M H σ Q s po => po [] M H (.refl s.mh) rfl⟩
theorem da_cons {ea : α → D} {es' : β → List D} {m : R α} {n : R β} (h : DD X W Γ e ea m) (k : DA X W Γ es es' n) (hs : starEach (e :: es) X.env = (false, eval e X.env) :: starEach es X.env := by exact star_cons rfl) :
    DA X W Γ (e :: es) (fun p : α × β => ea p.1 :: es' p.2) (m >>= fun x => n >>= fun y => .ok (x, y)) := by
  have p := pe_w X e; have q := h
  have p' := pa_w X es; have q' := k
  refine amk ⟨_, pa_cons p p' hs, fun F M0 M H σ Q s po => q F M0 M H σ _ s (po.bind.imp (fun x _ k v M1 H1 g r => ?_) fun _ z => z)⟩
  exact q' F M0 M1 H1 σ _ (s.grow g) (k.bind.imp (fun y _ z vs M2 H2 g2 r2 => z _ M2 H2 (g.trans g2) ⟨v, vs, rfl, Rep.mono g2.mm _ _ r, r2⟩) fun c z M2 H2 g2 => z M2 H2 (g.trans g2))
/-- a def that changes nothing: what it is given stands for a, it hands back what stands for f a, or raises -/
def SpF (G : Ctx) {α ρ : Type} (args : α → List D) (er : ρ → T) (f : α → R ρ) : Sp := fun vs H Q E => ∃ (a : α) (M : Hp), Same M H ∧ Reps G M (args a) vs ∧
  Po (f a) (fun r => WF G M H (er r) Q) (fun c => ∀ M' H', Gr M H M' H' → ∀ C, G.mg c = some (.ref C) → E (.ref C) none H')
section
variable {k : Nat} {f : Addr} {fd : FuncData} {ps : List Str} {n : Str} {p : Pos} {ρ : Type}
theorem df_call {args : α → List D} {er : ρ → T} {g : α → R ρ} {m : R α} (Fk : FnOk X.prog X.w X.K X.mg X.base (L2.CX X.prog X.w) k f fd ps (SpF X.G args er g)) (hr : Room k X.A) (hm : X.mg n = some (.ref f)) (hk : PySem.W.keepIn X.K (.ref f) = true) (hb : Binds X.K fd ps [])
    (tk : Takes X W) (ha : DA X W Γ (e :: es) args m) (hg : Gl X n := by rfl) (hdb : (n == ("__debug__" : Str)) = false := by decide) (he : starEach (e :: es) X.env = (false, eval e X.env) :: starEach es X.env := by exact star_cons rfl) (hpl : (backTo pos (starEach es X.env)).any (·.1) = false := by exact star_none rfl) :
    DF X W Γ (.Call (.Name n p) (e :: es) [] pos) er (m >>= g) := by
  have pa := pa_w X (e :: es); have qa := ha
  refine dmk ⟨_, pe_callS Fk hr hg hm hk hb (fun σ => passAt tk σ) pa hdb he hpl, fun F M0 M H σ Q s po => ?_⟩
  refine qa F M0 M H σ _ s (po.bind.imp (fun x _ k vs M1 H1 g1 r1 => ?_) fun _ z => z)
  exact ⟨x, M1, g1.mh, r1, k.imp (fun r _ z v M2 H2 as g2 o nd fr => z v M2 H2 as (g1.trans g2) o nd fun a ha => ⟨g1.hh.free (fr a ha).1, (fr a ha).2⟩) fun c z M2 H2 g2 => z M2 H2 (g1.trans g2)⟩
end
end
end Cn
/-! Cn3: statements -/
namespace Cn
open PySem PySem.Spec L2
/-- the ways in which a block may end with an outcome -/
structure Kd where
  nx : Option (List Sl) := none
  rt : Option (T × List Sl) := none
  bk : Option (List Sl) := none
  ct : Option (List Sl) := none
abbrev Kd.n (Γ : List Sl) : Kd := { nx := some Γ }
abbrev Kd.r (t : T) (Γ : List Sl) : Kd := { rt := some (t, Γ) }
/-- .. but the falling through -/
abbrev Kd.ex (k : Kd) : Kd := { k with nx := none }
abbrev Kd.rr (k : Kd) : Kd := { rt := k.rt }
structure Kn (G : Ctx) (F M0 : Hp) (D : Ends) (k : Kd) : Prop where
  nx : ∀ Γ, k.nx = some Γ → ∀ M H σ, S G F M0 M H σ Γ → D.nx σ H
  rt : ∀ t Γ, k.rt = some (t, Γ) → ∀ M H σ v, S G F M0 M H (some v :: σ) (.ow t :: Γ) → D.rt v H
  bk : ∀ Γ, k.bk = some Γ → ∀ M H σ, S G F M0 M H σ Γ → D.bk σ H
  ct : ∀ Γ, k.ct = some Γ → ∀ M H σ, S G F M0 M H σ Γ → D.ct σ H
/-- a block; Γe: what is known where an exception leaves -/
abbrev Bk (X : Cx) (W : WX) (Γe Γ : List Sl) (ss : List Stmt) {ω : Type} (κ : ω → Kd) (m : R ω) : Prop :=
  JQ X Γ (fun σ H D => wSs X ss D σ H) fun F M0 M H σ D => Po m (fun o => Kn X.G F M0 D (κ o)) (fun c => ∀ M' H' σ', S X.G F M0 M' H' σ' Γe → Er X.G W c σ' H')
abbrev St1 (X : Cx) (W : WX) (Γe Γ : List Sl) (s : Stmt) {ω : Type} (κ : ω → Kd) (m : R ω) : Prop :=
  JQ X Γ (fun σ H D => wS X s D σ H) fun F M0 M H σ D => Po m (fun o => Kn X.G F M0 D (κ o)) (fun c => ∀ M' H' σ', S X.G F M0 M' H' σ' Γe → Er X.G W c σ' H')
/-! ### the state, stored to -/
section
variable {G : Ctx} {F M0 M M' H H' : Hp} {σ : St} {Γ : List Sl}
theorem S.put {t : T} {v : V} {n : List Addr} {i : Nat} (s : S G F M0 M H σ Γ) (g : Gr M H M' H') (o : Own G M' H' t v n) (nd : n.Nodup) (fr : ∀ a ∈ n, H a = none ∧ M' a = none) (hi : i < Γ.length) : S G F M0 M' H' (σ.set i (some v)) (Γ.set i (.ow t)) := by
  obtain ⟨as, f, sa⟩ := s
  have th := Sat.there Γ σ as sa
  have sa' := Sat.keep g.mm Γ σ as (fun a _ o e => g.hh a o e) sa
  obtain ⟨bs, l, r, sb, e, sub⟩ := Sat.put sa' hi o
  refine ⟨bs, ?_, sb⟩
  rw [e]
  exact (f.grow th g).add sub nd (fun a ha => f.fh.free (fr a ha).1) (fun a ha => (fr a ha).2) fun a ha z => th a z (fr a ha).1
theorem S.cons {t : T} {v : V} {n : List Addr} (s : S G F M0 M H σ Γ) (g : Gr M H M' H') (o : Own G M' H' t v n) (nd : n.Nodup) (fr : ∀ a ∈ n, H a = none ∧ M' a = none) : S G F M0 M' H' (some v :: σ) (.ow t :: Γ) := by
  obtain ⟨as, f, sa⟩ := s
  have th := Sat.there Γ σ as sa
  have sa' := Sat.keep g.mm Γ σ as (fun a _ o e => g.hh a o e) sa
  refine ⟨n ++ as, ?_, ⟨v, σ, n, as, rfl, rfl, o, sa'⟩⟩
  exact (f.grow th g).add (l := []) (by simp) nd (fun a ha => f.fh.free (fr a ha).1) (fun a ha => (fr a ha).2) fun a ha z => th a z (fr a ha).1
/-- the slot's tree alone, the others around it -/
theorem Sat.focus : ∀ {Γ : List Sl} {σ : St} {as : List Addr} {i : Nat} {t : T}, Sat G F M H Γ σ as → Γ[i]? = some (.ow t) →
    ∃ v l a r, σ[i]? = some (some v) ∧ as = l ++ a ++ r ∧ Own G M H t v a ∧ ∀ M' H' t' a', Same M M' → (∀ b ∈ l ++ r, ∀ o, H b = some o → H' b = some o) → Own G M' H' t' v a' → Sat G F M' H' (Γ.set i (.ow t')) σ (l ++ a' ++ r)
  | [], σ, as, i, t, h, e => by simp at e
  | .un :: Γ, σ, as, 0, t, h, e => nomatch (Option.some.inj e)
  | .un :: Γ, σ, as, i + 1, t, ⟨x, r, h1, h2⟩, e => by
    subst h1
    obtain ⟨v, l, a, r', q1, q2, q3, q4⟩ := Sat.focus (i := i) h2 e
    exact ⟨v, l, a, r', q1, q2, q3, fun M' H' t' a' m k o => ⟨x, r, rfl, q4 M' H' t' a' m k o⟩⟩
  | .ow t0 :: Γ, σ, as, 0, t, ⟨v, r, a1, a2, h1, h2, h3, h4⟩, e => by
    have z : t0 = t := Sl.ow.inj (Option.some.inj e)
    subst z; subst h1
    refine ⟨v, [], a1, a2, rfl, h2, h3, fun M' H' t' a' m k o => ⟨v, r, a', a2, rfl, rfl, o, Sat.keep m Γ r a2 (fun b hb => k b (by simpa using hb)) h4⟩⟩
  | .ow t0 :: Γ, σ, as, i + 1, t, ⟨v, r, a1, a2, h1, h2, h3, h4⟩, e => by
    subst h1; subst h2
    obtain ⟨w, l, a, r', q1, q2, q3, q4⟩ := Sat.focus (i := i) h4 e
    subst q2
    refine ⟨w, a1 ++ l, a, r', q1, by simp, q3, fun M' H' t' a' m k o => ⟨v, r, a1, l ++ a' ++ r', rfl, by simp, Own.keep m t0 v a1 (fun b hb => k b (by simp [hb])) h3, q4 M' H' t' a' m (fun b hb => k b ?_) o⟩⟩
    rw [List.append_assoc]; exact List.mem_append_right _ hb
  | .lk t0 :: Γ, σ, as, 0, t, h, e => nomatch (Option.some.inj e)
  | .lk t0 :: Γ, σ, as, i + 1, t, ⟨x, r, a0, h1, h2, h3⟩, e => by
    subst h1
    obtain ⟨v, l, a, r', q1, q2, q3, q4⟩ := Sat.focus (i := i) h3 e
    exact ⟨v, l, a, r', q1, q2, q3, fun M' H' t' a' m k o => ⟨x, r, a0, rfl, Own.keep m _ _ _ (fun _ _ _ q => q) h2, q4 M' H' t' a' m k o⟩⟩
  | .pn w0 t0 :: Γ, σ, as, 0, t, h, e => nomatch (Option.some.inj e)
  | .pn w0 t0 :: Γ, σ, as, i + 1, t, ⟨r, a1, a2, h1, h2, h3, h4⟩, e => by
    subst h1; subst h2
    obtain ⟨w, l, a, r', q1, q2, q3, q4⟩ := Sat.focus (i := i) h4 e
    subst q2
    refine ⟨w, a1 ++ l, a, r', q1, by simp, q3, fun M' H' t' a' m k o => ⟨r, a1, l ++ a' ++ r', rfl, by simp, Own.keep m t0 w0 a1 (fun b hb => k b (by simp [hb])) h3, q4 M' H' t' a' m (fun b hb => k b ?_) o⟩⟩
    rw [List.append_assoc]; exact List.mem_append_right _ hb
theorem Fr0.upd {as : List Addr} {p : Addr} {o : HO} (f : Fr0 F M0 M H as) (hp : p ∈ as) : Fr0 F M0 M (upd H p o) as where
  fh := fun b u e => by rw [upd_ne (ne_of_none e (f.fa p hp))]; exact f.fh b u e
  mm := f.mm
  mh := fun b u e => by rw [upd_ne (ne_of_none e (f.ma p hp))]; exact f.mh b u e
  nw := f.nw
  nd := f.nd
  fa := f.fa
  ma := f.ma
/-- a list of the slot's own is changed in its items; n: what comes to it -/
theorem S.listed {i : Nat} {ts ts' : List T} (s : S G F M0 M H σ Γ) (h : Γ[i]? = some (.ow (.lst ts))) :
    ∃ a vs, σ[i]? = some (some (.ref a)) ∧ H a = some (.lst vs) ∧ vs.length = ts.length ∧ (∃ as, Owns G M H ts vs as) ∧
      ∀ M' H' vs' n, Gr M H M' H' → (∀ as K', (∀ b ∈ as, b ≠ a) → Owns G M H ts vs as → Owns G M' K' ts vs as → (∀ b o, b ≠ a → H' b = some o → K' b = some o) → ∃ as', Owns G M' K' ts' vs' as' ∧ as'.Sublist (as ++ n)) → n.Nodup → (∀ b ∈ n, H b = none ∧ M' b = none) →
        S G F M0 M' (upd H' a (.lst vs')) σ (Γ.set i (.ow (.lst ts'))) := by
  obtain ⟨as, f, sa⟩ := s
  obtain ⟨v, l, a0, r, q1, q2, q3, q4⟩ := Sat.focus sa h
  obtain ⟨a, vs, r0, e1, e2, e3, e4⟩ := q3
  subst e1; subst e2
  refine ⟨a, vs, q1, e3, Owns.len e4, ⟨r0, e4⟩, fun M' H' vs' n g ho nn fr => ?_⟩
  have th := Sat.there Γ σ as sa
  have f1 := f.grow th g
  have hnd := f.nd
  rw [q2] at hnd
  have hp : a ∈ as := by rw [q2]; simp
  have nr : ∀ b ∈ r0, b ≠ a := fun b hb z => by
    subst z
    rw [List.nodup_append] at hnd
    have := hnd.1
    rw [List.nodup_append] at this
    have := this.2.1
    rw [List.nodup_cons] at this
    exact this.1 hb
  have no : ∀ b ∈ l ++ r, b ≠ a := fun b hb z => by
    subst z
    rw [List.nodup_append] at hnd
    rcases List.mem_append.mp hb with w | w
    · have q := hnd.1
      rw [List.nodup_append] at q
      exact q.2.2 b w b List.mem_cons_self rfl
    · exact hnd.2.2 b (by simp) b w rfl
  obtain ⟨as', o', sub⟩ := ho r0 (upd H' a (.lst vs')) nr e4 (Owns.keep g.mm ts vs r0 (fun b hb o e => by rw [upd_ne (nr b hb)]; exact g.hh b o e) e4)  (fun b o hb e => by rw [upd_ne hb]; exact e)
  have f2 := (f1.upd (o := .lst vs') hp).add (l := l ++ (a :: r0)) (n := n) (r := r) (by rw [q2]; exact .refl _) nn (fun b hb => f.fh.free (fr b hb).1) (fun b hb => (fr b hb).2) fun b hb z => th b z (fr b hb).1
  refine ⟨l ++ (a :: as') ++ r, f2.sub ?_, q4 M' _ _ _ g.mm (fun b hb o e => by rw [upd_ne (no b hb)]; exact g.hh b o e) ⟨a, vs', as', rfl, rfl, upd_same, o'⟩⟩
  refine List.Sublist.append ?_ (.refl _)
  rw [List.append_assoc]
  refine List.Sublist.append (.refl _) ?_
  rw [List.cons_append]
  exact List.Sublist.cons₂ a sub
theorem S.base_in {M1 : Hp} (s : S G F M0 M H σ Γ) (h1 : Same M1 M) (h0 : Same M0 M1) : S G F M1 M H σ Γ := by
  obtain ⟨as, f, sa⟩ := s
  exact ⟨as, ⟨f.fh, h1, f.mh, fun a z => by
    rcases f.nw a z with q | q
    · exact .inl (Same.of_some h0 q)
    · exact .inr q, f.nd, f.fa, f.ma⟩, sa⟩
theorem S.base_out {M1 : Hp} (s : S G F M1 M H σ Γ) (h0 : Same M0 M1) (nw : ∀ a, M1 a ≠ none → M0 a ≠ none ∨ F a = none) : S G F M0 M H σ Γ := by
  obtain ⟨as, f, sa⟩ := s
  exact ⟨as, ⟨f.fh, h0.trans f.mm, f.mh, fun a z => by
    rcases f.nw a z with q | q
    · exact nw a q
    · exact .inr q, f.nd, f.fa, f.ma⟩, sa⟩
theorem S.rel (s : S G F M0 M H σ Γ) : Same M0 M ∧ ∀ a, M a ≠ none → M0 a ≠ none ∨ F a = none := by
  obtain ⟨as, f, sa⟩ := s
  exact ⟨f.mm, f.nw⟩
theorem Kn.base {M1 : Hp} {D : Ends} {k : Kd} (h : Kn G F M0 D k) (h0 : Same M0 M1) (nw : ∀ a, M1 a ≠ none → M0 a ≠ none ∨ F a = none) : Kn G F M1 D k :=
  ⟨fun Γ e M H σ s => h.nx Γ e M H σ (s.base_out h0 nw), fun t Γ e M H σ v s => h.rt t Γ e M H σ v (s.base_out h0 nw), fun Γ e M H σ s => h.bk Γ e M H σ (s.base_out h0 nw), fun Γ e M H σ s => h.ct Γ e M H σ (s.base_out h0 nw)⟩
/-- fresh data is shared from now on -/
theorem S.len (s : S G F M0 M H σ Γ) : σ.length = Γ.length := by
  obtain ⟨as, f, sa⟩ := s
  have : ∀ (Γ : List Sl) (σ : St) (as : List Addr), Sat G F M H Γ σ as → σ.length = Γ.length := by
    intro Γ
    induction Γ with
    | nil => intro σ as h; rw [h.1]; rfl
    | cons x Γ ih =>
      intro σ as h
      cases x with
      | un => obtain ⟨x, r, h1, h2⟩ := h; rw [h1, List.length_cons, List.length_cons, ih _ _ h2]
      | ow t => obtain ⟨v, r, a1, a2, h1, h2, h3, h4⟩ := h; rw [h1, List.length_cons, List.length_cons, ih _ _ h4]
      | pn w t => obtain ⟨r, a1, a2, h1, h2, h3, h4⟩ := h; rw [h1, List.length_cons, List.length_cons, ih _ _ h4]
      | lk t => obtain ⟨v, r, a0, h1, h2, h3⟩ := h; rw [h1, List.length_cons, List.length_cons, ih _ _ h3]
  exact this Γ σ as sa
end
/-! ### blocks -/
section
variable {X : Cx} {W : WX} {Γe Γ : List Sl} {a b e c : Expr} {es : List Expr} {α β γ ω ω1 : Type} {pos : Pos} {s : Stmt} {rest A B : List Stmt}
theorem bk_nil {κ : ω → Kd} {o : ω} {Γ' : List Sl} (hk : (κ o).nx = some Γ') (hw : Wk Γ' Γ) : Bk X W Γe Γ [] κ (.ok o) :=
  bmk ⟨_, pss_nil, fun F M0 M H σ D s po => po.nx Γ' hk M H σ (s.wk hw)⟩
theorem bk_one {κ : ω → Kd} {m : R ω} (h : St1 X W Γe Γ s κ m) : Bk X W Γe Γ [s] κ m := bmk ⟨_, pss_one (ps_w X s), h⟩
/-- a statement that falls through, and the rest -/
theorem bk_cons {Γ1 : ω1 → List Sl} {κ : ω → Kd} {m : R ω1} {k : ω1 → R ω} (h1 : St1 X W Γe Γ s (fun o => .n (Γ1 o)) m) (h2 : ∀ o, Bk X W Γe (Γ1 o) rest κ (k o)) : Bk X W Γe Γ (s :: rest) κ (m >>= k) :=
  bmk ⟨_, pss_cons (ps_w X s) (pss_w X rest), fun F M0 M H σ D s po => h1 F M0 M H σ _ s (po.bind.imp (fun o _ q => ⟨fun Γ e M H σ s => by
    have e' : Γ1 o = Γ := Option.some.inj e
    subst e'
    exact h2 o F M0 M H σ D s q, fun t Γ e => (nomatch e), fun Γ e => (nomatch e), fun Γ e => (nomatch e)⟩) fun _ z => z)⟩
/-- a statement that falls through or leaves -/
def sumK {S O T : Type} (f : S → R T) (g : O → R T) : S ⊕ O → R T
  | .inl a => f a
  | .inr o => g o
def kSum {S O : Type} (f : S → Kd) (g : O → Kd) : S ⊕ O → Kd
  | .inl a => f a
  | .inr o => g o
theorem bk_consX {Γ1 : ω1 → List Sl} {κ : ω → Kd} {m : R (ω1 ⊕ ω)} {k : ω1 → R ω} (h1 : St1 X W Γe Γ s (kSum (fun o => .n (Γ1 o)) fun o => (κ o).ex) m) (h2 : ∀ o, Bk X W Γe (Γ1 o) rest κ (k o)) : Bk X W Γe Γ (s :: rest) κ (m >>= sumK k .ok) :=
  bmk ⟨_, pss_cons (ps_w X s) (pss_w X rest), fun F M0 M H σ D s po => h1 F M0 M H σ _ s (po.bind.imp (fun o _ q => by
    cases o with
    | inl o =>
      refine ⟨fun Γ e M H σ s => ?_, fun t Γ e => (nomatch e), fun Γ e => (nomatch e), fun Γ e => (nomatch e)⟩
      have e' : Γ1 o = Γ := Option.some.inj e
      subst e'
      exact h2 o F M0 M H σ D s q
    | inr o => exact ⟨fun Γ e => (nomatch e), fun t Γ e => Kn.rt q t Γ e, fun Γ e => Kn.bk q Γ e, fun Γ e => Kn.ct q Γ e⟩) fun _ z => z)⟩
theorem st_map {κ : ω → Kd} {κ' : ω1 → Kd} {m : R ω} {g : ω → ω1} (h : St1 X W Γe Γ s κ m) (e : ∀ o, κ' (g o) = κ o) : St1 X W Γe Γ s κ' (m >>= fun o => .ok (g o)) := ⟨fun F M0 M H σ D st po =>
  h F M0 M H σ D st (po.bind.imp (fun o _ (q : Kn _ _ _ _ (κ' (g o))) => by rw [← e]; exact q) fun _ z => z)⟩
theorem bk_map {ss : List Stmt} {κ : ω → Kd} {κ' : ω1 → Kd} {m : R ω} {g : ω → ω1} (h : Bk X W Γe Γ ss κ m) (e : ∀ o, Kd.rt (κ' (g o)) = (κ o).rt ∧ ((κ o).nx = none ∨ (κ' (g o)).nx = (κ o).nx) ∧ ((κ o).bk = none ∨ (κ' (g o)).bk = (κ o).bk) ∧ ((κ o).ct = none ∨ (κ' (g o)).ct = (κ o).ct)) : Bk X W Γe Γ ss κ' (m >>= fun o => .ok (g o)) := ⟨fun F M0 M H σ D st po =>
  h F M0 M H σ D st (po.bind.imp (fun o _ (q : Kn _ _ _ _ (κ' (g o))) => by
    obtain ⟨e1, e2, e3, e4⟩ := e o
    refine ⟨fun Γ z => ?_, fun t Γ z => q.rt t Γ (by rw [e1]; exact z), fun Γ z => ?_, fun Γ z => ?_⟩
    · rcases e2 with y | y
      · rw [y] at z; cases z
      · exact q.nx Γ (by rw [y]; exact z)
    · rcases e3 with y | y
      · rw [y] at z; cases z
      · exact q.bk Γ (by rw [y]; exact z)
    · rcases e4 with y | y
      · rw [y] at z; cases z
      · exact q.ct Γ (by rw [y]; exact z)) fun _ z => z)⟩
theorem er_wk {F M0 M H : Hp} {σ : St} (st : S X.G F M0 M H σ Γ) (hw : Wk Γe Γ) {c : Str} (z : ∀ M' H' σ', S X.G F M0 M' H' σ' Γe → Er X.G W c σ' H') : ∀ M' H', Gr M H M' H' → Er X.G W c σ H' := fun M' H' g => z M' H' σ ((st.grow g).wk hw)
/-! small statements -/
theorem st_pass {κ : Unit → Kd} (hk : (κ ()).nx = some Γ) : St1 X W Γe Γ (.Pass pos) κ (.ok ()) := smk ⟨_, ps_pass, fun F M0 M H σ D s po => po.nx Γ hk M H σ s⟩
theorem bk_cont {κ : ω → Kd} {o : ω} {Γ' : List Sl} (hk : (κ o).ct = some Γ') (hw : Wk Γ' Γ) : Bk X W Γe Γ (.Continue pos :: rest) κ (.ok o) :=
  bmk ⟨_, pss_cons ps_continue (pss_w X rest), fun F M0 M H σ D s po => po.ct Γ' hk M H σ (s.wk hw)⟩
theorem bk_break {κ : ω → Kd} {o : ω} {Γ' : List Sl} (hk : (κ o).bk = some Γ') (hw : Wk Γ' Γ) : Bk X W Γe Γ (.Break pos :: rest) κ (.ok o) :=
  bmk ⟨_, pss_cons ps_break (pss_w X rest), fun F M0 M H σ D s po => po.bk Γ' hk M H σ (s.wk hw)⟩
theorem S.wkc {G : Ctx} {F M0 M H : Hp} {σ : St} {v : V} {t : T} {Γr : List Sl} (st : S G F M0 M H (some v :: σ) (.ow t :: Γ)) (hr : Wk Γr Γ) : S G F M0 M H (some v :: σ) (.ow t :: Γr) := S.wk (Γe := .ow t :: Γr) (Γ := .ow t :: Γ) ⟨rfl, hr⟩ st
theorem bk_ret {emb : α → T} {m : R α} {κ : ω → Kd} {g : α → ω} {Γr : List Sl} (he : DF X W Γ e emb m) (hk : ∀ x, (κ (g x)).rt = some (emb x, Γr)) (hr : Wk Γr Γ) (hw : Wk Γe Γ) : Bk X W Γe Γ (.Return (some e) pos :: rest) κ (m >>= fun x => .ok (g x)) :=
  bmk ⟨_, pss_cons (ps_ret (pe_w X e)) (pss_w X rest), fun F M0 M H σ D s po => he F M0 M H σ _ s (po.bind.imp (fun x _ q v M' H' n gr o nd fr => by
    exact Kn.rt q _ _ (hk x) M' H' σ v ((s.cons gr o nd fr).wkc hr)) fun c z => er_wk s hw z)⟩
theorem bk_retN {κ : ω → Kd} {o : ω} {Γr : List Sl} (hk : (κ o).rt = some (.imm .non, Γr)) (hr : Wk Γr Γ) : Bk X W Γe Γ (.Return none pos :: rest) κ (.ok o) :=
  bmk ⟨_, pss_cons ps_retN (pss_w X rest), fun F M0 M H σ D s po => po.rt _ _ hk M H σ .non ((s.cons (t := .imm .non) (v := .non) (n := []) (.refl s.mh) ⟨rfl, rfl⟩ List.nodup_nil fun _ z => nomatch z).wkc hr)⟩
/-- return x, where x is the def's own tree -/
theorem Sat.move {G : Ctx} {F M H : Hp} : ∀ {Γ : List Sl} {σ : St} {as : List Addr} {i : Nat} {t : T}, Sat G F M H Γ σ as → Γ[i]? = some (.ow t) → ∃ v bs, σ[i]? = some (some v) ∧ Sat G F M H (.ow t :: Γ.set i .un) (some v :: σ) bs ∧ List.Perm bs as
  | [], σ, as, i, t, h, e => by simp at e
  | .un :: Γ, σ, as, 0, t, h, e => nomatch (Option.some.inj e)
  | .un :: Γ, σ, as, i + 1, t, ⟨x, r, h1, h2⟩, e => by
    subst h1
    obtain ⟨v, bs, q1, ⟨v', r', a1, a2, z1, z2, z3, z4⟩, q3⟩ := Sat.move (i := i) h2 e
    obtain ⟨zv, zr⟩ := List.cons.inj z1
    cases zv; subst zr
    exact ⟨v, bs, q1, ⟨v, _, a1, a2, rfl, z2, z3, ⟨x, r, rfl, z4⟩⟩, q3⟩
  | .ow t0 :: Γ, σ, as, 0, t, ⟨v, r, a1, a2, h1, h2, h3, h4⟩, e => by
    have z : t0 = t := Sl.ow.inj (Option.some.inj e)
    subst z; subst h1; subst h2
    exact ⟨v, a1 ++ a2, rfl, ⟨v, _, a1, a2, rfl, rfl, h3, ⟨some v, r, rfl, h4⟩⟩, .refl _⟩
  | .ow t0 :: Γ, σ, as, i + 1, t, ⟨w, r, b1, b2, h1, h2, h3, h4⟩, e => by
    subst h1; subst h2
    obtain ⟨v, bs, q1, ⟨v', r', a1, a2, z1, z2, z3, z4⟩, q3⟩ := Sat.move (i := i) h4 e
    obtain ⟨zv, zr⟩ := List.cons.inj z1
    cases zv; subst zr; subst z2
    refine ⟨v, a1 ++ (b1 ++ a2), q1, ⟨v, _, a1, b1 ++ a2, rfl, rfl, z3, ⟨w, r, b1, a2, rfl, rfl, h3, z4⟩⟩, ?_⟩
    rw [← List.append_assoc]
    exact (List.perm_append_comm.append_right a2).trans (by rw [List.append_assoc]; exact List.Perm.append_left b1 q3)
  | .lk t0 :: Γ, σ, as, 0, t, h, e => nomatch (Option.some.inj e)
  | .lk t0 :: Γ, σ, as, i + 1, t, ⟨x, r, a0, h1, h2, h3⟩, e => by
    subst h1
    obtain ⟨v, bs, q1, ⟨v', r', a1, a2, z1, z2, z3, z4⟩, q3⟩ := Sat.move (i := i) h3 e
    obtain ⟨zv, zr⟩ := List.cons.inj z1
    cases zv; subst zr
    exact ⟨v, bs, q1, ⟨v, _, a1, a2, rfl, z2, z3, ⟨x, r, a0, rfl, h2, z4⟩⟩, q3⟩
  | .pn w0 t0 :: Γ, σ, as, 0, t, h, e => nomatch (Option.some.inj e)
  | .pn w t0 :: Γ, σ, as, i + 1, t, ⟨r, b1, b2, h1, h2, h3, h4⟩, e => by
    subst h1; subst h2
    obtain ⟨v, bs, q1, ⟨v', r', a1, a2, z1, z2, z3, z4⟩, q3⟩ := Sat.move (i := i) h4 e
    obtain ⟨zv, zr⟩ := List.cons.inj z1
    cases zv; subst zr; subst z2
    refine ⟨v, a1 ++ (b1 ++ a2), q1, ⟨v, _, a1, b1 ++ a2, rfl, rfl, z3, ⟨r, b1, a2, rfl, rfl, h3, z4⟩⟩, ?_⟩
    rw [← List.append_assoc]
    exact (List.perm_append_comm.append_right a2).trans (by rw [List.append_assoc]; exact List.Perm.append_left b1 q3)
theorem Fr0.perm {F M0 M H : Hp} {as bs : List Addr} (f : Fr0 F M0 M H as) (p : List.Perm bs as) : Fr0 F M0 M H bs := ⟨f.fh, f.mm, f.mh, f.nw, p.symm.nodup f.nd, fun a h => f.fa a (p.mem_iff.mp h), fun a h => f.ma a (p.mem_iff.mp h)⟩
theorem bk_retV {n : Str} {p : Pos} {t : T} {κ : ω → Kd} {o : ω} {Γr : List Sl} (i : Nat) (h : Γ[i]? = some (.ow t)) (hk : (κ o).rt = some (t, Γr)) (hr : Wk Γr (Γ.set i .un)) (hN : X.N[i]? = some n := by rfl) (hv : Vis X.env.scope n := by first | exact Or.inl rfl | exact Or.inr (Or.inl rfl) | exact Or.inr (Or.inr rfl))
    (hd : (n == ("__debug__" : Str)) = false := by decide) (hcd : (n == ("__classdict__" : Str)) = false := by decide) : Bk X W Γe Γ (.Return (some (.Name n p)) pos :: rest) κ (.ok o) :=
  bmk ⟨_, pss_cons (ps_ret (pe_var hN hv hd hcd)) (pss_w X rest), fun F M0 M H σ D s po => by
    obtain ⟨as, f, sa⟩ := s
    obtain ⟨v, bs, q1, q2, q3⟩ := Sat.move sa h
    exact ⟨v, q1, po.rt _ _ hk M H σ v (S.wkc ⟨bs, f.perm q3, q2⟩ hr)⟩⟩
theorem st_set {n : Str} {p : Pos} {emb : α → T} {m : R α} (i : Nat) (he : DF X W Γ e emb m) (hw : Wk Γe Γ) (hl : Nat.blt i Γ.length = true := by rfl) (hN : X.N.Nodup) (hi : X.N[i]? = some n := by rfl) (hx : Loc X.env.scope n := by first | exact Or.inl rfl | exact Or.inr rfl)
    (hs : swapsWith e (some (.Name n p)) pos.line X.env = pure false := by rfl) (hf : X.fn n = true ∨ X.env.scope.names.lookup n = some .local := by first | exact .inl rfl | exact .inr rfl) : St1 X W Γe Γ (.Assign [.Name n p] e pos) (fun x => .n (Γ.set i (.ow (emb x)))) m :=
  smk ⟨_, ps_set hN hi hx (pe_w X e) hs hf, fun F M0 M H σ D s po => he F M0 M H σ _ s (po.imp (fun x _ q v M' H' k g o nd fr => Kn.nx q _ rfl M' H' _ (s.put g o nd fr (Nat.le_of_ble_eq_true hl))) fun c z => er_wk s hw z)⟩
theorem st_expr {emb : α → T} {m : R α} (he : DB X W Γ e emb m) (hw : Wk Γe Γ) (hs : swapsWith e none pos.line X.env = pure false := by rfl) : St1 X W Γe Γ (.Expr e pos) (fun _ => .n Γ) m :=
  smk ⟨_, ps_expr (pe_w X e) hs, fun F M0 M H σ D s po => he F M0 M H σ _ s (po.imp (fun x _ q v M' H' k g o => Kn.nx q _ rfl M' H' _ (s.grow g)) fun c z => er_wk s hw z)⟩
theorem st_if {κ : ω → Kd} {mc : R Bool} {ma mb : R ω} (hc : DT X W Γ c mc) (ha : Bk X W Γe Γ A κ ma) (hb : Bk X W Γe Γ B κ mb) (hw : Wk Γe Γ) : St1 X W Γe Γ (.If c A B pos) κ (mc >>= fun x => if x then ma else mb) :=
  smk ⟨_, ps_if (pt_w X c) (pss_w X A) (pss_w X B), fun F M0 M H σ D s po => hc F M0 M H σ _ s (po.bind.imp (fun x _ q M' H' g => by
    cases x with
    | true => exact ha F M0 M' H' σ D (s.grow g) q
    | false => exact hb F M0 M' H' σ D (s.grow g) q) fun c z => er_wk s hw z)⟩
/-- if c: A, which leaves; else B, then the rest -/
theorem bk_ifX {κ : ω → Kd} {mc : R Bool} {ma mb : R ω} (hc : DT X W Γ c mc) (ha : Bk X W Γe Γ A (fun o => (κ o).ex) ma) (hb : Bk X W Γe Γ rest κ mb) (hw : Wk Γe Γ) : Bk X W Γe Γ (.If c A [] pos :: rest) κ (mc >>= fun x => if x then ma else mb) :=
  bmk ⟨_, pss_cons (ps_if (pt_w X c) (pss_w X A) pss_nil) (pss_w X rest), fun F M0 M H σ D s po => hc F M0 M H σ _ s (po.bind.imp (fun x _ q M' H' g => by
    cases x with
    | true => exact ha F M0 M' H' σ _ (s.grow g) (q.imp (fun o _ q => ⟨fun Γ e => (nomatch e), fun t Γ e => Kn.rt q t Γ e, fun Γ e => Kn.bk q Γ e, fun Γ e => Kn.ct q Γ e⟩) fun _ z => z)
    | false => exact hb F M0 M' H' σ D (s.grow g) q) fun c z => er_wk s hw z)⟩
/-- .. with an else that falls through -/
theorem bk_ifXE {κ : ω → Kd} {mc : R Bool} {ma mb : R ω} {B : List Stmt} (hc : DT X W Γ c mc) (ha : Bk X W Γe Γ A (fun o => (κ o).ex) ma) (hb : Bk X W Γe Γ (B ++ rest) κ mb) (hw : Wk Γe Γ) (hB : ∀ (D : Ends) σ H, wSs X (B ++ rest) D σ H → wSs X B { D with nx := wSs X rest D } σ H) :
    Bk X W Γe Γ (.If c A B pos :: rest) κ (mc >>= fun x => if x then ma else mb) :=
  bmk ⟨_, pss_cons (ps_if (pt_w X c) (pss_w X A) (pss_w X B)) (pss_w X rest), fun F M0 M H σ D s po => hc F M0 M H σ _ s (po.bind.imp (fun x _ q M' H' g => by
    cases x with
    | true => exact ha F M0 M' H' σ _ (s.grow g) (q.imp (fun o _ q => ⟨fun Γ e => (nomatch e), fun t Γ e => Kn.rt q t Γ e, fun Γ e => Kn.bk q Γ e, fun Γ e => Kn.ct q Γ e⟩) fun _ z => z)
    | false => exact hB D σ H' (hb F M0 M' H' σ D (s.grow g) q)) fun c z => er_wk s hw z)⟩
end
end Cn
/-! Cn4: loops, defs, exceptions -/
namespace Cn
open PySem PySem.Spec L2
/-! ### what a loop walks -/
/-- the iterator yields what stands for ds -/
def ItD (G : Ctx) (J : It) (ds : List D) (M1 : Hp) : Prop := ∀ M H i, Same M1 M → Same M H →
  (∀ d, ds[i]? = some d → J.go i H ∧ ∀ x H', J.yld i H x H' → ∃ M', Gr M H M' H' ∧ Rep G M' d x) ∧ (ds.length ≤ i → J.stop i H)
abbrev DI (X : Cx) (W : WX) (Γ : List Sl) (tg e : Expr) {α : Type} (emb : α → List D) (m : R α) : Prop :=
  JQ X Γ (wI X tg e) fun F M0 M H σ Q => Po m (fun x => ∀ J M' H', Gr M H M' H' → ItD X.G J (emb x) M' → Q J H') (fun c => ∀ M' H', Gr M H M' H' → Er X.G W c σ H')
theorem imk {X : Cx} {Γ : List Sl} {tg e : Expr} {Pre : Hp → Hp → Hp → Hp → St → (It → Hp → Prop) → Prop} (h : ∃ te, PI X tg e te ∧ ∀ F M0 M H σ Q, S X.G F M0 M H σ Γ → Pre F M0 M H σ Q → te σ H Q) : JQ X Γ (wI X tg e) Pre := ⟨fun F M0 M H σ Q s p pins sh I => by
  obtain ⟨te, pe, q⟩ := h
  exact pe.run pins sh σ H Q I (q F M0 M H σ Q s p)⟩
section
variable {X : Cx} {W : WX} {Γe Γ : List Sl} {a b e c tg : Expr} {es : List Expr} {α β γ ω ω1 : Type} {pos : Pos}
theorem di_frl {ei : α → D} {m : R (List α)} (h : DD X W Γ e (fun xs => .frl (xs.map ei)) m) : DI X W Γ tg e (fun xs => xs.map ei) m :=
  imk ⟨_, pi_list (pe_w X e), fun F M0 M H σ Q s po => h F M0 M H σ _ s (po.imp (fun x _ q v M1 H1 g r => by
    obtain ⟨p, vs, rfl, hq, rs⟩ := r
    refine ⟨p, rfl, ⟨vs, g.mh.seq hq⟩, q _ M1 H1 g fun M H i hm hh => ⟨fun d hd => ?_, fun hi => ⟨vs, hh.seq (hm.seq hq), by rw [rs.len]; exact hi⟩⟩⟩
    obtain ⟨w, e1, r1⟩ := rs.get hd
    have hs := hh.seq (hm.seq hq)
    refine ⟨⟨vs, w, hs, e1⟩, fun x H' y => ?_⟩
    obtain ⟨e2, y⟩ := y
    subst e2
    have e3 : w = x := Option.some.inj (e1.symm.trans (y vs hs))
    subst e3
    exact ⟨M, .refl hh, Rep.mono hm _ _ r1⟩) fun _ z => z)⟩
theorem di_list {ei : α → D} {m : R (List α)} (h : DD X W Γ e (fun xs => .lst (xs.map ei)) m) : DI X W Γ tg e (fun xs => xs.map ei) m :=
  imk ⟨_, pi_list (pe_w X e), fun F M0 M H σ Q s po => h F M0 M H σ _ s (po.imp (fun x _ q v M1 H1 g r => by
    obtain ⟨p, vs, rfl, hq, rs⟩ := r
    have hq : SqL X.K M1 p vs := .of hq
    refine ⟨p, rfl, ⟨vs, g.mh.seq hq⟩, q _ M1 H1 g fun M H i hm hh => ⟨fun d hd => ?_, fun hi => ⟨vs, hh.seq (hm.seq hq), by rw [rs.len]; exact hi⟩⟩⟩
    obtain ⟨w, e1, r1⟩ := rs.get hd
    have hs := hh.seq (hm.seq hq)
    refine ⟨⟨vs, w, hs, e1⟩, fun x H' y => ?_⟩
    obtain ⟨e2, y⟩ := y
    subst e2
    have e3 : w = x := Option.some.inj (e1.symm.trans (y vs hs))
    subst e3
    exact ⟨M, .refl hh, Rep.mono hm _ _ r1⟩) fun _ z => z)⟩
theorem di_tup {ei : α → D} {m : R (List α)} (h : DD X W Γ e (fun xs => .tup (xs.map ei)) m) : DI X W Γ tg e (fun xs => xs.map ei) m :=
  imk ⟨_, pi_tup (pe_w X e), fun F M0 M H σ Q s po => h F M0 M H σ _ s (po.imp (fun x _ q v M1 H1 g r => by
    obtain ⟨p, vs, rfl, hq, rs⟩ := r
    refine ⟨p, rfl, ⟨vs, same_sqt g.mh hq⟩, q _ M1 H1 g fun M H i hm hh => ⟨fun d hd => ?_, fun hi => ⟨vs, same_sqt hh (same_sqt hm hq), by rw [rs.len]; exact hi⟩⟩⟩
    obtain ⟨w, e1, r1⟩ := rs.get hd
    have hs := same_sqt hh (same_sqt hm hq)
    refine ⟨⟨vs, w, hs, e1⟩, fun x H' y => ?_⟩
    obtain ⟨e2, y⟩ := y
    subst e2
    have e3 : w = x := Option.some.inj (e1.symm.trans (y vs hs))
    subst e3
    exact ⟨M, .refl hh, Rep.mono hm _ _ r1⟩) fun _ z => z)⟩
/-- lo, lo + 1, .. below hi -/
def irange (lo hi : Int) : List Int := (List.range (hi - lo).toNat).map fun i : Nat => lo + (i : Int)
theorem irange_get {lo hi : Int} {i : Nat} {x : Int} (h : (irange lo hi)[i]? = some x) : i < (hi - lo).toNat ∧ x = lo + i := by
  unfold irange at h
  rw [List.getElem?_map] at h
  by_cases c : i < (hi - lo).toNat
  · rw [List.getElem?_range c] at h
    exact ⟨c, (Option.some.inj h).symm⟩
  · rw [List.getElem?_eq_none (by simpa using c)] at h; cases h
theorem irange_len {lo hi : Int} : (irange lo hi).length = (hi - lo).toNat := by unfold irange; simp
theorem it_range {G : Ctx} {lo hi : Int} {M1 : Hp} : ItD G (Itr lo (hi - lo).toNat) ((irange lo hi).map D.int) M1 := fun M H i hm hh => ⟨fun d hd => by
  rw [List.getElem?_map] at hd
  cases e : (irange lo hi)[i]? with
  | none => rw [e] at hd; cases hd
  | some x =>
    rw [e] at hd
    obtain ⟨h1, h2⟩ := irange_get e
    have hd' : D.int x = d := Option.some.inj hd
    subst hd'
    refine ⟨h1, fun y H' q => ?_⟩
    obtain ⟨e1, e2⟩ := q
    subst e1; subst e2
    exact ⟨M, .refl hh, by rw [h2]; rfl⟩, fun hi => by rw [List.length_map, irange_len] at hi; exact hi⟩
noncomputable def small (i : Int) : Bool := @decide (-(2 ^ 62) ≤ i ∧ i < 2 ^ 62) (Classical.propDecidable _)
noncomputable def rangeO (lo hi : Int) : Option (List Int) := if small lo && small hi then some (irange lo hi) else none
theorem small_iff {i : Int} : small i = true ↔ -(2 ^ 62) ≤ i ∧ i < 2 ^ 62 := @decide_eq_true_iff _ (Classical.propDecidable _)
theorem rangeO_some {lo hi : Int} {x : List Int} (h : rangeO lo hi = some x) : (-(2 ^ 62) ≤ lo ∧ lo < 2 ^ 62 ∧ -(2 ^ 62) ≤ hi ∧ hi < 2 ^ 62) ∧ x = irange lo hi := by
  unfold rangeO at h
  cases c : (small lo && small hi) with
  | false => rw [c] at h; cases h
  | true =>
    rw [c] at h
    rw [Bool.and_eq_true] at c
    obtain ⟨h1, h2⟩ := c
    have h1 := small_iff.mp h1
    have h2 := small_iff.mp h2
    exact ⟨⟨h1.1, h1.2, h2.1, h2.2⟩, (Option.some.inj h).symm⟩
theorem di_range1 {m : R Int} {p : Pos} (h : DD X W Γ a D.int m) (hm : X.mg "range" = none) (hg : Gl X "range" := by rfl) (hs : starEach [a] X.env = [(false, eval a X.env)] := by exact star_one rfl) :
    DI X W Γ tg (.Call (.Name "range" p) [a] [] pos) (fun xs => xs.map D.int) (m >>= fun n => ofO (rangeO 0 n)) :=
  imk ⟨_, pi_range1 hg hm (pa_w X [a]) hs, fun F M0 M H σ Q s po => by
    have hA := da_cons h da_nil (hs := hs)
    refine hA F M0 M H σ _ s ?_
    have z : (m >>= fun x => (R.ok ()) >>= fun y => R.ok (x, y)) = m >>= fun x => R.ok (x, ()) := rfl
    rw [z]
    cases m with
    | bad => exact po
    | err c => exact po
    | ok n =>
      have po : Po (ofO (rangeO 0 n)) _ _ := po
      obtain ⟨xs, e, k⟩ := po.ofO
      obtain ⟨⟨_, _, h3, h4⟩, rfl⟩ := rangeO_some e
      intro vs M1 H1 g r
      obtain ⟨v, r', rfl, r1, r2⟩ := r
      rw [show r' = [] from r2, show v = .int n from r1]
      refine ⟨n, rfl, h3, h4, ?_⟩
      have q := k (Itr 0 (n - 0).toNat) M1 H1 g it_range
      rw [Int.sub_zero] at q
      exact q⟩
theorem di_range2 {m k : R Int} {p : Pos} (h : DD X W Γ a D.int m) (h' : DD X W Γ b D.int k) (hm : X.mg "range" = none) (hg : Gl X "range" := by rfl) (hs : starEach [a, b] X.env = [(false, eval a X.env), (false, eval b X.env)] := by rfl) (hs2 : starEach [b] X.env = [(false, eval b X.env)] := by exact star_one rfl) :
    DI X W Γ tg (.Call (.Name "range" p) [a, b] [] pos) (fun xs => xs.map D.int) (m >>= fun lo => k >>= fun hi => ofO (rangeO lo hi)) :=
  imk ⟨_, pi_range2 hg hm (pa_w X [a, b]) hs hs2, fun F M0 M H σ Q s po => by
    have hA := da_cons h (da_cons h' da_nil (hs := hs2)) (hs := by rw [hs, hs2])
    refine hA F M0 M H σ _ s ?_
    cases m with
    | bad => exact po
    | err c => exact po
    | ok lo =>
      cases k with
      | bad => exact po
      | err c => exact po
      | ok hi =>
        have po : Po (ofO (rangeO lo hi)) _ _ := po
        obtain ⟨xs, e, k⟩ := po.ofO
        obtain ⟨hb, rfl⟩ := rangeO_some e
        intro vs M1 H1 g r
        obtain ⟨v, r', rfl, r1, w, r'', rfl, r2, r3⟩ := r
        rw [show r'' = [] from r3, show v = .int lo from r1, show w = .int hi from r2]
        exact ⟨lo, hi, rfl, hb, k _ M1 H1 g it_range⟩⟩
/-! ### targets -/
def DG (X : Cx) (Γ : List Sl) (tg : Expr) (put : List Sl) (d : D) : Prop := ∀ F M0 M H σ v Q, S X.G F M0 M H σ Γ → Rep X.G M d v → (∀ M' H' σ', Same M M' → S X.G F M0 M' H' σ' put → Q σ' H') → wG X tg v σ H Q
theorem dg_name {n : Str} {d : D} (i : Nat) (hN : X.N.Nodup) (hi : X.N[i]? = some n := by rfl) (hl : Nat.blt i Γ.length = true := by rfl) (hx : Loc X.env.scope n := by first | exact Or.inl rfl | exact Or.inr rfl) (hf : X.fn n = true ∨ X.env.scope.names.lookup n = some .local := by first | exact .inl rfl | exact .inr rfl) :
    DG X Γ (.Name n pos) (Γ.set i (.ow (.imm d))) d := fun F M0 M H σ v Q s r q pins sh u I rv => by
  have p := pg_name (pos := pos) hN hi hx hf
  exact p.run pins sh σ H v u Q I rv (q M H _ (.refl _) (s.put (.refl s.mh) (show Own X.G M H (.imm d) v [] from ⟨rfl, r⟩) List.nodup_nil (fun _ z => nomatch z) (Nat.le_of_ble_eq_true hl)))
/-! ### loops -/
inductive Lo (S ω : Type) where
  | nx (s : S)
  | bk (s : S)
  | ex (o : ω)
def forX {α S ω : Type} (f : α → S → R (Lo S ω)) : List α → S → R (S ⊕ ω)
  | [], s => .ok (.inl s)
  | x :: xs, s => f x s >>= fun o => match o with
    | .nx s => forX f xs s
    | .bk s => .ok (.inl s)
    | .ex o => .ok (.inr o)
/-- a loop that is left at its end alone -/
def forS {α S : Type} (f : α → S → R S) : List α → S → R S
  | [], s => .ok s
  | x :: xs, s => f x s >>= fun s => forS f xs s
theorem forX_S {α S ω : Type} {f : α → S → R S} : ∀ (xs : List α) (s : S), forX (ω := ω) (fun x s => f x s >>= fun s => .ok (.nx s)) xs s = forS f xs s >>= fun s => .ok (.inl s)
  | [], s => rfl
  | x :: xs, s => by
    show ((f x s >>= fun s => .ok (Lo.nx s)) >>= _) = (f x s >>= fun s => forS f xs s) >>= _
    cases f x s with
    | bad => rfl
    | err c => rfl
    | ok s => exact forX_S xs s
def kLo {S ω : Type} (Γs : S → List Sl) (κ : ω → Kd) : Lo S ω → Kd
  | .nx s => { nx := some (Γs s), ct := some (Γs s) }
  | .bk s => { bk := some (Γs s) }
  | .ex o => (κ o).rr
theorem st_for {σs : Type} {Γs : σs → List Sl} {ei : α → D} {mi : R (List α)} {mb : α → σs → R (Lo σs ω)} {κ : ω → Kd} {put : α → σs → List Sl} {iter : Expr} {body : List Stmt} (s0 : σs) (hp : PassesOwn (model X.prog X.w) X.A X.env X.xe) (hc : X.calm = true)
    (hi : DI X W Γ tg iter (fun xs => xs.map ei) mi) (hg : ∀ s x, DG X (Γs s) tg (put x s) (ei x)) (hb : ∀ s x, Bk X W Γe (put x s) body (kLo Γs κ) (mb x s)) (h0 : Wk (Γs s0) Γ) (hw : Wk Γe Γ)
    (hs : ∀ x, foldedSetIterable iter X.env x = pure x := by intro _; rfl) : St1 X W Γe Γ (.For tg iter body [] pos) (kSum (fun s => .n (Γs s)) fun o => (κ o).rr) (mi >>= fun xs => forX mb xs s0) :=
  smk ⟨_, ps_for hp hc (pi_w X iter tg) (pg_w X tg) (pss_w X body) hs, fun F M0 M H σ D st po => by
    refine hi F M0 M H σ _ st (po.bind.imp (fun xs _ k J M1 H1 g1 it => ?_) fun c z => er_wk st hw z)
    have st1 := (st.grow g1)
    obtain ⟨b1, b2⟩ := st1.rel
    refine ⟨fun i m σ H => m = xs.length - i ∧ i ≤ xs.length ∧ ∃ M s, S X.G F M1 M H σ (Γs s) ∧ Po (forX mb (xs.drop i) s) (fun o => Kn X.G F M0 D (kSum (fun s => .n (Γs s)) (fun o => (κ o).rr) o)) (fun c => ∀ M' H' σ', S X.G F M0 M' H' σ' Γe → Er X.G W c σ' H'),
      ⟨xs.length, by simp, Nat.zero_le _, M1, s0, (st1.wk h0).base_in (.refl _) b1, k⟩, ?_⟩
    rintro i m σ H ⟨rfl, hi, M2, s, s2, k⟩
    have hm : Same M1 M2 := s2.rel.1
    obtain ⟨h1, h2⟩ := it M2 H i hm s2.mh
    by_cases hlt : i < xs.length
    · have ex : xs[i]? = some xs[i] := List.getElem?_eq_getElem hlt
      have ed : (xs.map ei)[i]? = some (ei xs[i]) := by rw [List.getElem?_map, ex]; rfl
      obtain ⟨go, yl⟩ := h1 _ ed
      rw [List.drop_eq_getElem_cons hlt] at k
      have k := Po.bind (m := mb xs[i] s) k
      refine .inr ⟨go, fun σ' H' => ∃ M s, S X.G F M1 M H' σ' (Γs s) ∧ Po (forX mb (xs.drop (i + 1)) s) (fun o => Kn X.G F M0 D (kSum (fun s => .n (Γs s)) (fun o => (κ o).rr) o)) (fun c => ∀ M' H' σ', S X.G F M0 M' H' σ' Γe → Er X.G W c σ' H'),
        fun σ' H' ⟨M, s, q1, q2⟩ => ⟨xs.length - (i + 1), by omega, rfl, hlt, M, s, q1, q2⟩, fun x H' y => ?_⟩
      obtain ⟨M3, g3, r3⟩ := yl x H' y
      refine hg s xs[i] F M1 M3 H' σ x _ (s2.grow g3) r3 fun M4 H4 σ4 _ s4 => ?_
      refine hb s xs[i] F M1 M4 H4 σ4 _ s4 (k.imp (fun o _ k => ?_) fun c z M' H' σ' st => z M' H' σ' (st.base_out b1 b2))
      cases o with
      | nx s' =>
        have k : Po (forX mb (xs.drop (i + 1)) s') _ _ := k
        exact ⟨fun Γ e M H σ st => ⟨M, s', by cases e; exact st, k⟩, fun t Γ e => (nomatch e), fun Γ e => (nomatch e), fun Γ e M H σ st => ⟨M, s', by cases e; exact st, k⟩⟩
      | bk s' =>
        have k : Kn X.G F M0 D (.n (Γs s')) := k
        exact ⟨fun Γ e => (nomatch e), fun t Γ e => (nomatch e), fun Γ e M H σ st => k.nx Γ e M H σ (st.base_out b1 b2), fun Γ e => (nomatch e)⟩
      | ex o =>
        have k : Kn X.G F M0 D (κ o).rr := k
        exact ⟨fun Γ e => (nomatch e), fun t Γ e M H σ v st => k.rt t Γ e M H σ v (st.base_out b1 b2), fun Γ e => (nomatch e), fun Γ e => (nomatch e)⟩
    · have e : xs.drop i = [] := List.drop_eq_nil_of_le (by omega)
      rw [e] at k
      have k : Kn X.G F M0 D (.n (Γs s)) := k
      exact .inl ⟨h2 (by rw [List.length_map]; omega), k.nx _ rfl M2 H σ (s2.base_out b1 b2)⟩⟩
theorem st_forS {σs : Type} {Γs : σs → List Sl} {ei : α → D} {mi : R (List α)} {mb : α → σs → R σs} {put : α → σs → List Sl} {iter : Expr} {body : List Stmt} (s0 : σs) (hp : PassesOwn (model X.prog X.w) X.A X.env X.xe) (hc : X.calm = true)
    (hi : DI X W Γ tg iter (fun xs => xs.map ei) mi) (hg : ∀ s x, DG X (Γs s) tg (put x s) (ei x)) (hb : ∀ s x, Bk X W Γe (put x s) body (fun s => { nx := some (Γs s), ct := some (Γs s) }) (mb x s)) (h0 : Wk (Γs s0) Γ) (hw : Wk Γe Γ)
    (hs : ∀ x, foldedSetIterable iter X.env x = pure x := by intro _; rfl) : St1 X W Γe Γ (.For tg iter body [] pos) (fun s => .n (Γs s)) (mi >>= fun xs => forS mb xs s0) := ⟨fun F M0 M H σ D st po => by
  have h := st_for (κ := fun (o : Empty) => nomatch o) (pos := pos) (mb := fun x s => mb x s >>= fun s => .ok (.nx s)) s0 hp hc hi hg (fun s x => bk_map (κ' := kLo Γs _) (g := Lo.nx) (hb s x) fun o => ⟨rfl, .inr rfl, .inr rfl, .inr rfl⟩) h0 hw hs
  refine h F M0 M H σ D st ?_
  cases mi with
  | bad => exact po
  | err c => exact po
  | ok xs =>
    show Po (forX _ xs s0) _ _
    rw [forX_S]
    have po : Po (forS mb xs s0) _ _ := po
    revert po
    cases forS mb xs s0 with
    | bad => exact id
    | err c => exact id
    | ok s => exact id⟩
def whileN {S ω : Type} (mc : S → R Bool) (mb : S → R (Lo S ω)) : Nat → S → R (S ⊕ ω)
  | 0, _ => .bad
  | n + 1, s => mc s >>= fun b => if b then (mb s >>= fun o => match o with
    | .nx s => whileN mc mb n s
    | .bk s => .ok (.inl s)
    | .ex o => .ok (.inr o)) else .ok (.inl s)
theorem whileN_succ {S ω : Type} {mc : S → R Bool} {mb : S → R (Lo S ω)} {n : Nat} {s : S} : whileN mc mb (n + 1) s = (mc s >>= fun b => if b then (mb s >>= fun o => match o with
    | .nx s => whileN mc mb n s
    | .bk s => .ok (.inl s)
    | .ex o => .ok (.inr o)) else .ok (.inl s)) := rfl
open Classical in
noncomputable def whileX {S ω : Type} (mc : S → R Bool) (mb : S → R (Lo S ω)) (s : S) : R (S ⊕ ω) := if h : ∃ n, whileN mc mb n s ≠ .bad then whileN mc mb h.choose s else .bad
theorem whileN_mono {S ω : Type} {mc : S → R Bool} {mb : S → R (Lo S ω)} : ∀ (n : Nat) (s : S), whileN mc mb n s ≠ .bad → whileN mc mb (n + 1) s = whileN mc mb n s
  | 0, s, h => absurd rfl h
  | n + 1, s, h => by
    have e1 : whileN mc mb (n + 1) s = (mc s >>= fun b => if b then (mb s >>= fun o => match o with
      | .nx s => whileN mc mb n s
      | .bk s => .ok (.inl s)
      | .ex o => .ok (.inr o)) else .ok (.inl s)) := rfl
    have e2 : whileN mc mb (n + 1 + 1) s = (mc s >>= fun b => if b then (mb s >>= fun o => match o with
      | .nx s => whileN mc mb (n + 1) s
      | .bk s => .ok (.inl s)
      | .ex o => .ok (.inr o)) else .ok (.inl s)) := rfl
    rw [e1] at h ⊢
    rw [e2]
    cases hc : mc s with
    | bad => rfl
    | err c => rfl
    | ok b =>
      cases b with
      | false => rfl
      | true =>
        rw [hc] at h
        cases hb : mb s with
        | bad => rfl
        | err c => rfl
        | ok o =>
          rw [hb] at h
          cases o with
          | nx s' => exact whileN_mono n s' h
          | bk s' => rfl
          | ex o => rfl
theorem whileN_ge {S ω : Type} {mc : S → R Bool} {mb : S → R (Lo S ω)} {n : Nat} {s : S} (h : whileN mc mb n s ≠ .bad) : ∀ k, whileN mc mb (n + k) s = whileN mc mb n s
  | 0 => rfl
  | k + 1 => by
    have ih := whileN_ge h k
    rw [← ih, ← Nat.add_assoc]
    exact whileN_mono _ _ (by rw [ih]; exact h)
theorem whileX_of {S ω : Type} {mc : S → R Bool} {mb : S → R (Lo S ω)} {n : Nat} {s : S} (h : whileN mc mb n s ≠ .bad) : whileX mc mb s = whileN mc mb n s := by
  unfold whileX
  have hx : ∃ n, whileN mc mb n s ≠ .bad := ⟨n, h⟩
  rw [dif_pos hx]
  rcases Nat.le_total n hx.choose with q | q
  · have := whileN_ge h (hx.choose - n)
    rw [show n + (hx.choose - n) = hx.choose by omega] at this
    exact this
  · have := whileN_ge hx.choose_spec (n - hx.choose)
    rw [show hx.choose + (n - hx.choose) = n by omega] at this
    exact this.symm
theorem whileX_ne {S ω : Type} {mc : S → R Bool} {mb : S → R (Lo S ω)} {s : S} (h : whileX mc mb s ≠ .bad) : ∃ n, whileN mc mb n s = whileX mc mb s := by
  by_cases hx : ∃ n, whileN mc mb n s ≠ .bad
  · obtain ⟨n, q⟩ := hx
    exact ⟨n, (whileX_of q).symm⟩
  · unfold whileX at h
    rw [dif_neg hx] at h
    exact absurd rfl h
theorem whileX_eq {S ω : Type} (mc : S → R Bool) (mb : S → R (Lo S ω)) (s : S) : whileX mc mb s = mc s >>= fun b => if b then (mb s >>= fun o => match o with
    | .nx s => whileX mc mb s
    | .bk s => .ok (.inl s)
    | .ex o => .ok (.inr o)) else .ok (.inl s) := by
  have key : ∀ n, whileN mc mb (n + 1) s = mc s >>= fun b => if b then (mb s >>= fun o => match o with
      | .nx s => whileN mc mb n s
      | .bk s => .ok (.inl s)
      | .ex o => .ok (.inr o)) else .ok (.inl s) := fun n => rfl
  cases hc : mc s with
  | bad =>
    show _ = R.bad
    by_cases hx : ∃ n, whileN mc mb n s ≠ .bad
    · obtain ⟨n, q⟩ := hx
      cases n with
      | zero => exact absurd rfl q
      | succ n => rw [key n, hc] at q; exact absurd rfl q
    · unfold whileX; rw [dif_neg hx]
  | err c =>
    have q : whileN mc mb (0 + 1) s = .err c := by rw [key 0, hc]; rfl
    rw [whileX_of (n := 0 + 1) (by rw [q]; exact fun z => nomatch z), q]; rfl
  | ok b =>
    cases b with
    | false =>
      have q : whileN mc mb (0 + 1) s = .ok (.inl s) := by rw [key 0, hc]; rfl
      rw [whileX_of (n := 0 + 1) (by rw [q]; exact fun z => nomatch z), q]; rfl
    | true =>
      show _ = (mb s >>= fun o => match o with
        | .nx s => whileX mc mb s
        | .bk s => .ok (.inl s)
        | .ex o => .ok (.inr o))
      have key2 : ∀ n, whileN mc mb (n + 1) s = mb s >>= fun o => match o with
          | .nx s => whileN mc mb n s
          | .bk s => .ok (.inl s)
          | .ex o => .ok (.inr o) := fun n => by rw [key n, hc]; rfl
      cases hb : mb s with
      | bad =>
        show _ = R.bad
        by_cases hx : ∃ n, whileN mc mb n s ≠ .bad
        · obtain ⟨n, q⟩ := hx
          cases n with
          | zero => exact absurd rfl q
          | succ n => rw [key2 n, hb] at q; exact absurd rfl q
        · unfold whileX; rw [dif_neg hx]
      | err c =>
        have q : whileN mc mb (0 + 1) s = .err c := by rw [key2 0, hb]; rfl
        rw [whileX_of (n := 0 + 1) (by rw [q]; exact fun z => nomatch z), q]; rfl
      | ok o =>
        cases o with
        | bk s' =>
          have q : whileN mc mb (0 + 1) s = .ok (.inl s') := by rw [key2 0, hb]; rfl
          rw [whileX_of (n := 0 + 1) (by rw [q]; exact fun z => nomatch z), q]; rfl
        | ex o =>
          have q : whileN mc mb (0 + 1) s = .ok (.inr o) := by rw [key2 0, hb]; rfl
          rw [whileX_of (n := 0 + 1) (by rw [q]; exact fun z => nomatch z), q]; rfl
        | nx s' =>
          show _ = whileX mc mb s'
          have key3 : ∀ n, whileN mc mb (n + 1) s = whileN mc mb n s' := fun n => by rw [key2 n, hb]; rfl
          by_cases hx : ∃ n, whileN mc mb n s' ≠ .bad
          · obtain ⟨n, q⟩ := hx
            rw [whileX_of q, whileX_of (n := n + 1) (by rw [key3]; exact q), key3]
          · have hy : ¬ ∃ n, whileN mc mb n s ≠ .bad := fun ⟨n, q⟩ => by
              cases n with
              | zero => exact q rfl
              | succ n => rw [key3] at q; exact hx ⟨n, q⟩
            unfold whileX
            rw [dif_neg hx, dif_neg hy]
theorem st_while {σs : Type} {Γs : σs → List Sl} {mc : σs → R Bool} {mb : σs → R (Lo σs ω)} {κ : ω → Kd} {body : List Stmt} (s0 : σs) (hp : PassesOwn (model X.prog X.w) X.A X.env X.xe)
    (hc : ∀ s, DT X W (Γs s) c (mc s)) (hb : ∀ s, Bk X W Γe (Γs s) body (kLo Γs κ) (mb s)) (h0 : Wk (Γs s0) Γ) (hw : ∀ s, Wk Γe (Γs s)) : St1 X W Γe Γ (.While c body [] pos) (kSum (fun s => .n (Γs s)) fun o => (κ o).rr) (whileX mc mb s0) :=
  smk ⟨_, ps_while hp (pt_w X c) (pss_w X body), fun F M0 M H σ D st po => by
    have hne : whileX mc mb s0 ≠ .bad := fun z => by rw [z] at po; exact po
    obtain ⟨n, en⟩ := whileX_ne hne
    rw [← en] at po
    refine ⟨fun m σ H => ∃ M s, S X.G F M0 M H σ (Γs s) ∧ Po (whileN mc mb m s) (fun o => Kn X.G F M0 D (kSum (fun s => .n (Γs s)) (fun o => (κ o).rr) o)) (fun c => ∀ M' H' σ', S X.G F M0 M' H' σ' Γe → Er X.G W c σ' H'),
      ⟨n, M, s0, st.wk h0, po⟩, ?_⟩
    rintro m σ H ⟨M2, s, s2, k⟩
    cases m with
    | zero => exact k.elim
    | succ m =>
      rw [whileN_succ] at k
      refine hc s F M0 M2 H σ _ s2 (k.bind.imp (fun b _ k M3 H3 g3 => ?_) fun c z => er_wk s2 (hw s) z)
      cases b with
      | false =>
        have k : Kn X.G F M0 D (.n (Γs s)) := k
        exact k.nx _ rfl M3 H3 σ (s2.grow g3)
      | true =>
        rw [if_pos rfl] at k
        refine ⟨fun σ' H' => ∃ M s, S X.G F M0 M H' σ' (Γs s) ∧ Po (whileN mc mb m s) (fun o => Kn X.G F M0 D (kSum (fun s => .n (Γs s)) (fun o => (κ o).rr) o)) (fun c => ∀ M' H' σ', S X.G F M0 M' H' σ' Γe → Er X.G W c σ' H'),
          fun σ' H' q => ⟨m, Nat.lt_succ_self m, q⟩, ?_⟩
        refine hb s F M0 M3 H3 σ _ (s2.grow g3) (k.bind.imp (fun o _ k => ?_) fun c z => z)
        cases o with
        | nx s' =>
          have k : Po (whileN mc mb m s') _ _ := k
          exact ⟨fun Γ e M H σ st => ⟨M, s', by cases e; exact st, k⟩, fun t Γ e => (nomatch e), fun Γ e => (nomatch e), fun Γ e M H σ st => ⟨M, s', by cases e; exact st, k⟩⟩
        | bk s' =>
          have k : Kn X.G F M0 D (.n (Γs s')) := k
          exact ⟨fun Γ e => (nomatch e), fun t Γ e => (nomatch e), fun Γ e M H σ st => k.nx Γ e M H σ st, fun Γ e => (nomatch e)⟩
        | ex o =>
          have k : Kn X.G F M0 D (κ o).rr := k
          exact ⟨fun Γ e => (nomatch e), fun t Γ e M H σ v st => k.rt t Γ e M H σ v st, fun Γ e => (nomatch e), fun Γ e => (nomatch e)⟩⟩
/-- a while that is left at its test alone -/
noncomputable def whileS {S : Type} (mc : S → R Bool) (mb : S → R S) (s : S) : R S := whileX (ω := Empty) mc (fun s => mb s >>= fun s => .ok (.nx s)) s >>= fun o => match o with
  | .inl s => .ok s
  | .inr o => nomatch o
theorem whileS_eq {S : Type} (mc : S → R Bool) (mb : S → R S) (s : S) : whileS mc mb s = mc s >>= fun b => if b then (mb s >>= fun s => whileS mc mb s) else .ok s := by
  unfold whileS
  rw [whileX_eq]
  cases mc s with
  | bad => rfl
  | err c => rfl
  | ok b =>
    cases b with
    | false => rfl
    | true =>
      show ((mb s >>= fun s => .ok (Lo.nx s)) >>= _) >>= _ = mb s >>= _
      cases mb s with
      | bad => rfl
      | err c => rfl
      | ok s => rfl
theorem st_whileS {σs : Type} {Γs : σs → List Sl} {mc : σs → R Bool} {mb : σs → R σs} {body : List Stmt} (s0 : σs) (hp : PassesOwn (model X.prog X.w) X.A X.env X.xe)
    (hc : ∀ s, DT X W (Γs s) c (mc s)) (hb : ∀ s, Bk X W Γe (Γs s) body (fun s => { nx := some (Γs s), ct := some (Γs s) }) (mb s)) (h0 : Wk (Γs s0) Γ) (hw : ∀ s, Wk Γe (Γs s)) : St1 X W Γe Γ (.While c body [] pos) (fun s => .n (Γs s)) (whileS mc mb s0) := ⟨fun F M0 M H σ D st po => by
  have h := st_while (κ := fun (o : Empty) => nomatch o) (pos := pos) (mb := fun s => mb s >>= fun s => .ok (.nx s)) s0 hp hc (fun s => bk_map (κ' := kLo Γs _) (g := Lo.nx) (hb s) fun o => ⟨rfl, .inr rfl, .inr rfl, .inr rfl⟩) h0 hw
  refine h F M0 M H σ D st ?_
  unfold whileS at po
  revert po
  cases whileX mc (fun s => mb s >>= fun s => R.ok (Lo.nx (ω := Empty) s)) s0 with
  | bad => exact id
  | err c => exact id
  | ok o =>
    cases o with
    | inl s => exact id
    | inr o => exact nomatch o⟩
end
/-! ### a def -/
section
variable {P : Program} {w : World} {K : PySem.W.Frag} {mg : Str → Option Value} {base : Heap}
theorem Reps.sat {G : Ctx} {F M H : Hp} : ∀ {ds : List D} {vs : List V}, Reps G M ds vs → Sat G F M H (ds.map fun d => .ow (.imm d)) (vs.map some) []
  | [], vs, h => by rw [show vs = [] from h]; exact ⟨rfl, rfl⟩
  | d :: ds, vs, ⟨v, r, h1, h2, h3⟩ => ⟨v, r.map some, [], [], by rw [h1]; rfl, rfl, ⟨rfl, h2⟩, Reps.sat h3⟩
theorem Sat.app {G : Ctx} {F M H : Hp} : ∀ {Γ Γ' : List Sl} {σ σ' : St} {as bs : List Addr}, Sat G F M H Γ σ as → Sat G F M H Γ' σ' bs → Sat G F M H (Γ ++ Γ') (σ ++ σ') (as ++ bs)
  | [], Γ', σ, σ', as, bs, ⟨h1, h2⟩, k => by rw [h1, h2]; exact k
  | .un :: Γ, Γ', σ, σ', as, bs, ⟨x, r, h1, h2⟩, k => ⟨x, r ++ σ', by rw [h1]; rfl, Sat.app h2 k⟩
  | .ow t :: Γ, Γ', σ, σ', as, bs, ⟨v, r, a1, a2, h1, h2, h3, h4⟩, k => ⟨v, r ++ σ', a1, a2 ++ bs, by rw [h1]; rfl, by rw [h2, List.append_assoc], h3, Sat.app h4 k⟩
  | .pn v t :: Γ, Γ', σ, σ', as, bs, ⟨r, a1, a2, h1, h2, h3, h4⟩, k => ⟨r ++ σ', a1, a2 ++ bs, by rw [h1]; rfl, by rw [h2, List.append_assoc], h3, Sat.app h4 k⟩
  | .lk t :: Γ, Γ', σ, σ', as, bs, ⟨v, r, a0, h1, h2, h3⟩, k => ⟨v, r ++ σ', a0, by rw [h1]; rfl, h2, Sat.app h3 k⟩
theorem Sat.uns {G : Ctx} {F M H : Hp} : ∀ (n : Nat), Sat G F M H (List.replicate n .un) (List.replicate n none) []
  | 0 => ⟨rfl, rfl⟩
  | n + 1 => ⟨none, List.replicate n none, rfl, Sat.uns n⟩
/-- how a def's end is said: it hands back f a, or falls off its end with None -/
def kRet {ρ : Type} (er : ρ → T) (n : Nat) (r : ρ) : Kd := { rt := some (er r, List.replicate n .un) }
def kRetN {ρ : Type} (er : ρ → T) (n : Nat) (r : ρ) : Kd := { rt := some (er r, List.replicate n .un), nx := some (List.replicate n .un) }
/-- THE RULE of a def that changes nothing -/
theorem fn_pure {x qual : Str} {st : Stmt} {f : Addr} {fd : FuncData} {N ps : List Str} {k : Nat} {α ρ : Type} {args : α → List D} {er : ρ → T} {g : α → R ρ} (F : Fun K x qual st f fd) (Sc : FnScope N ps (defScope st))
    (hl : ∀ a, (args a).length = ps.length)
    (hb : ∀ (cdv : Value) (A : Around) (outer : List Env) (s : Shared) (H : Hp) (E : XK), Room k (A.deeper (PyProof.Rows.envOfC qual (defScope st) s.heap.objs.size f cdv)) → ∀ a,
      Bk (cxOf (L2.CX P w) P w K mg base N qual (defScope st) f cdv A outer s H E) (fun cls d _ H => E cls d H) (List.replicate N.length .un) ((args a).map (fun d => .ow (.imm d)) ++ List.replicate (N.length - ps.length) .un) (defBody st) (kRet er N.length) (g a)) :
    FnOk P w K mg base (L2.CX P w) (k + 1) f fd ps (SpF ⟨K, mg⟩ args er g) := by
  refine F.okX Sc (fun vs H Q E h => ?_) (fun cdv A outer s H vs Q E hr h => ?_)
  · obtain ⟨a, M, _, r, _⟩ := h
    rw [r.len, hl]
  · obtain ⟨a, M, mh, r, po⟩ := h
    refine ⟨_, pss_w _ _, hb cdv A outer s H E hr a H M M H _ _ ?_ ?_⟩
    · refine ⟨[], ⟨.refl _, .refl _, mh, fun _ z => .inl z, List.nodup_nil, (fun _ z => nomatch z), fun _ z => nomatch z⟩, ?_⟩
      have e : vs.length = ps.length := by rw [r.len, hl]
      unfold L2.start
      rw [e]
      exact Sat.app (as := []) (bs := []) r.sat (Sat.uns _)
    · refine po.imp (fun x _ q => ⟨fun Γ e => (nomatch e), fun t Γ e M' H' σ v st => ?_, fun Γ e => (nomatch e), fun Γ e => (nomatch e)⟩) fun c z M' H' σ' st C hC => z M' H' ⟨st.fh, st.rel.1, st.mh, st.rel.2⟩ C hC
      have e' : (er x, List.replicate N.length Sl.un) = (t, Γ) := Option.some.inj e
      obtain ⟨e1, e2⟩ := Prod.mk.inj e'
      subst e1; subst e2
      obtain ⟨as, f, ⟨v', r', a1, a2, z1, z2, z3, z4⟩⟩ := st
      obtain ⟨z5, z6⟩ := List.cons.inj z1
      cases z5
      subst z2
      have nd := f.nd
      rw [List.nodup_append] at nd
      exact q v M' H' a1 ⟨f.fh, f.mm, f.mh, f.nw⟩ z3 nd.1 fun b hb => ⟨f.fa b (List.mem_append_left _ hb), f.ma b (List.mem_append_left _ hb)⟩
end
end Cn
/-! Cn5: lists and tuples -/
namespace Cn
open PySem PySem.Spec L2
/-! ### lists that are read -/
abbrev DL (X : Cx) (W : WX) (Γ : List Sl) (e : Expr) {α : Type} (emb : α → List D) (m : R α) : Prop :=
  JQ X Γ (wE X e) fun F M0 M H σ Q => Po m (fun x => ∀ a vs M' H', Gr M H M' H' → SqL X.K H' a vs → Reps X.G M' (emb x) vs → Q (.ref a) H') (fun c => ∀ M' H', Gr M H M' H' → Er X.G W c σ H')
/-- .. a list of the program's run -/
abbrev DLt (X : Cx) (W : WX) (Γ : List Sl) (e : Expr) {α : Type} (emb : α → List D) (m : R α) : Prop :=
  JQ X Γ (wE X e) fun F M0 M H σ Q => Po m (fun x => ∀ a vs M' H', Gr M H M' H' → H' a = some (.lst vs) → Reps X.G M' (emb x) vs → Q (.ref a) H') (fun c => ∀ M' H', Gr M H M' H' → Er X.G W c σ H')
section
variable {X : Cx} {W : WX} {Γe Γ : List Sl} {a b e c tg : Expr} {es : List Expr} {α β γ ω ω1 : Type} {pos : Pos}
theorem dl_t {emb : α → List D} {m : R α} (h : DLt X W Γ e emb m) : DL X W Γ e emb m := ⟨fun F M0 M H σ Q s po => h F M0 M H σ Q s (po.imp (fun x _ k a vs M' H' g hl r => k a vs M' H' g (.of hl) r) fun _ z => z)⟩
theorem dt_lst' {emb : α → List D} {m : R α} (h : DD X W Γ e (fun x => .lst (emb x)) m) : DLt X W Γ e emb m := ⟨fun F M0 M H σ Q s po => h F M0 M H σ Q s (po.imp (fun x _ k v M' H' g r => by
  obtain ⟨a, vs, rfl, h1, h2⟩ := r
  exact k a vs M' H' g (g.mh _ _ h1) h2) fun _ z => z)⟩
theorem dlt_imm {ei : β → D} {m : R (List β)} (h : DD X W Γ e (fun xs => .lst (xs.map ei)) m) : DLt X W Γ e (fun xs => xs.map ei) m := dt_lst' h
theorem dl_frl {ei : β → D} {m : R (List β)} (h : DD X W Γ e (fun xs => .frl (xs.map ei)) m) : DL X W Γ e (fun xs => xs.map ei) m := ⟨fun F M0 M H σ Q s po => h F M0 M H σ Q s (po.imp (fun x _ k v M' H' g r => by
  obtain ⟨a, vs, rfl, h1, h2⟩ := r
  exact k a vs M' H' g (g.mh.seq h1) h2) fun _ z => z)⟩
theorem dl_imm {ei : β → D} {m : R (List β)} (h : DD X W Γ e (fun xs => .lst (xs.map ei)) m) : DL X W Γ e (fun xs => xs.map ei) m := dl_t (dlt_imm h)
theorem map_imm {ε : β → D} (xs : List β) : (xs.map fun x => T.imm (ε x)) = (xs.map ε).map .imm := by rw [List.map_map]; rfl
theorem dlt_own {ei : β → D} {m : R (List β)} (h : DB X W Γ e (fun xs => .lst (xs.map fun x => .imm (ei x))) m) : DLt X W Γ e (fun xs => xs.map ei) m := ⟨fun F M0 M H σ Q s po => h F M0 M H σ Q s (po.imp (fun x _ k v M' H' as g o => by
  obtain ⟨a, vs, r, rfl, h1, h2, h3⟩ := o
  rw [map_imm] at h3
  exact k a vs M' H' g h2 (Owns.of_imm h3).1) fun _ z => z)⟩
theorem dl_own {ei : β → D} {m : R (List β)} (h : DB X W Γ e (fun xs => .lst (xs.map fun x => .imm (ei x))) m) : DL X W Γ e (fun xs => xs.map ei) m := dl_t (dlt_own h)
/-! ### a new list, a new tuple -/
theorem new_list {G : Ctx} {M H M1 H1 : Hp} {ds : List D} {vs : List V} {Q : VK} (g : Gr M H M1 H1) (r : Reps G M1 ds vs) (k : WF G M H (.lst (ds.map .imm)) Q) : ∀ p, H1 p = none → Q (.ref p) (upd H1 p (.lst vs)) := fun p hp => by
  have hm : M1 p = none := by
    cases e : M1 p with
    | none => rfl
    | some o => rw [g.mh p o e] at hp; cases hp
  refine k (.ref p) M1 _ [p] ⟨fun b o e => ?_, g.mm, fun b o e => ?_, g.nw⟩ ⟨p, vs, [], rfl, rfl, upd_same, Owns.imm r⟩ (by simp) fun b hb => ?_
  · rw [upd_ne (ne_of_none (g.hh b o e) hp)]; exact g.hh b o e
  · rw [upd_ne (ne_of_none e hm)]; exact g.mh b o e
  · have e : b = p := by simpa using hb
    subst e
    exact ⟨g.hh.free hp, hm⟩
theorem new_tup {G : Ctx} {M H M1 H1 : Hp} {ds : List D} {vs : List V} {Q : VK} (g : Gr M H M1 H1) (r : Reps G M1 ds vs) (k : WD G M H (.tup ds) Q) : ∀ p, H1 p = none → Q (.ref p) (upd H1 p (.tup vs)) := fun p hp => by
  have hm : M1 p = none := by
    cases e : M1 p with
    | none => rfl
    | some o => rw [g.mh p o e] at hp; cases hp
  have mm : Same M1 (upd M1 p (.tup vs)) := fun b o e => by rw [upd_ne (ne_of_none e hm)]; exact e
  refine k (.ref p) (upd M1 p (.tup vs)) _ ⟨fun b o e => ?_, g.mm.trans mm, fun b o e => ?_, fun b z => ?_⟩ ⟨p, vs, rfl, .of upd_same, Reps.mono mm _ _ r⟩
  · rw [upd_ne (ne_of_none (g.hh b o e) hp)]; exact g.hh b o e
  · by_cases hb : b = p
    · subst hb; rw [upd_same] at e ⊢; exact e
    · rw [upd_ne hb] at e ⊢; exact g.mh b o e
  · by_cases hb : b = p
    · subst hb; exact .inr (g.hh.free hp)
    · rw [upd_ne hb] at z; exact g.nw b z
theorem small_len {n : Nat} (h : n ≤ 100000) : n ≤ sizeLine := Nat.le_trans h (by decide)
/-- [a, b, ..] -/
theorem df_disp {args : α → List D} {m : R α} {ei : β → D} (h : DA X W Γ es args m) (g : α → List β) (he : ∀ x, args x = (g x).map ei := by intro _; rfl) (hz : ∀ x, Nat.ble (args x).length 100000 = true := by intro _; rfl) : DF X W Γ (.List es pos) (fun xs => .lst (xs.map fun x => .imm (ei x))) (m >>= fun x => .ok (g x)) :=
  dmk ⟨_, pe_lst (pa_w X es), fun F M0 M H σ Q s po => h F M0 M H σ _ s (po.bind.imp (fun x _ k vs M1 H1 g1 r => by
    refine ⟨by rw [r.len]; exact small_len (Nat.le_of_ble_eq_true (hz x)), new_list g1 r ?_⟩
    rw [he x, ← map_imm]
    exact k) fun _ z => z)⟩
/-- (a, b, ..) -/
theorem dd_tup {args : α → List D} {m : R α} {et : β → D} {x1} (h : DA X W Γ es args m) (g : α → β) (he : ∀ x, et (g x) = .tup (args x) := by intro _; rfl) (hz : ∀ x, Nat.ble (args x).length 100000 = true := by intro _; rfl) : DD X W Γ (.Tuple es x1 pos) et (m >>= fun x => .ok (g x)) :=
  dmk ⟨_, pe_tup (pa_w X es), fun F M0 M H σ Q s po => h F M0 M H σ _ s (po.bind.imp (fun x _ k vs M1 H1 g1 r => by
    refine ⟨by rw [r.len]; exact small_len (Nat.le_of_ble_eq_true (hz x)), new_tup g1 r ?_⟩
    rw [← he x]
    exact k) fun _ z => z)⟩
/-! ### items -/
theorem ixN_map {α β : Type} {f : α → β} {xs : List α} {i : Int} : atI (xs.map f) i = (atI xs i).map f := by
  unfold atI
  rw [List.length_map]
  cases ixN xs.length i with
  | none => rfl
  | some j => show (xs.map f)[j]? = (xs[j]?).map f; rw [List.getElem?_map]
theorem reps_at {G : Ctx} {M : Hp} {ds : List D} {vs : List V} {i : Int} {d : D} (r : Reps G M ds vs) (h : atI ds i = some d) : ∃ v, atI vs i = some v ∧ Rep G M d v := by
  unfold atI at h ⊢
  rw [r.len]
  cases e : ixN ds.length i with
  | none => rw [e] at h; cases h
  | some j =>
    rw [e] at h
    exact r.get h
theorem dd_ixL {ei : β → D} {ma : R (List β)} {mb : R Int} (ha : DL X W Γ a (fun xs => xs.map ei) ma) (hb : DD X W Γ b D.int mb) (hs : PlainIx b := by exact fun _ _ => rfl) : DD X W Γ (.Subscript a b pos) ei (ma >>= fun xs => mb >>= fun i => ofO (atI xs i)) :=
  dmk ⟨_, pe_ix ix_list (pe_w X a) (pe_w X b) hs, fun F M0 M H σ Q s po => ha F M0 M H σ _ s (po.bind.imp (fun xs _ k p vs M1 H1 g1 hl r1 => hb F M0 M1 H1 σ _ (s.grow g1) (k.bind.imp (fun i _ k v M2 H2 g2 r2 => by
    obtain ⟨z, e, k⟩ := k.ofO
    have e' : atI (xs.map ei) i = some (ei z) := by rw [ixN_map, e]; rfl
    obtain ⟨v', q1, q2⟩ := reps_at (Reps.mono g2.mm _ _ r1) e'
    exact ⟨p, vs, i, v', rfl, r2, g2.hh.seq hl, q1, k v' M2 H2 (g1.trans g2) q2⟩) fun c z M' H' g => z M' H' (g1.trans g))) fun _ z => z)⟩
theorem dd_ixT {ei : β → D} {ma : R (List β)} {mb : R Int} (ha : DD X W Γ a (fun xs => .tup (xs.map ei)) ma) (hb : DD X W Γ b D.int mb) (hs : PlainIx b := by exact fun _ _ => rfl) : DD X W Γ (.Subscript a b pos) ei (ma >>= fun xs => mb >>= fun i => ofO (atI xs i)) :=
  dmk ⟨_, pe_ix ix_tup (pe_w X a) (pe_w X b) hs, fun F M0 M H σ Q s po => ha F M0 M H σ _ s (po.bind.imp (fun xs _ k v M1 H1 g1 r1 => hb F M0 M1 H1 σ _ (s.grow g1) (k.bind.imp (fun i _ k w M2 H2 g2 r2 => by
    obtain ⟨p, vs, rfl, hl, r1⟩ := r1
    obtain ⟨z, e, k⟩ := k.ofO
    have e' : atI (xs.map ei) i = some (ei z) := by rw [ixN_map, e]; rfl
    obtain ⟨v', q1, q2⟩ := reps_at (Reps.mono g2.mm _ _ r1) e'
    exact ⟨p, vs, i, v', rfl, r2, same_sqt (g1.mh.trans g2.hh) hl, q1, k v' M2 H2 (g1.trans g2) q2⟩) fun c z M' H' g => z M' H' (g1.trans g))) fun _ z => z)⟩
/-- t[2], t a tuple of known form -/
theorem dd_ixP {et : α → D} {ei : β → D} {ma : R α} {i : Int} {j pb} (ha : DD X W Γ a et ma) (ds : α → List D) (g : α → β) (h1 : ∀ x, et x = .tup (ds x) := by intro _; rfl) (h2 : ∀ x, atI (ds x) i = some (ei (g x)) := by intro _; rfl) :
    DD X W Γ (.Subscript a (.Constant (.int i) j pb) pos) ei (ma >>= fun x => .ok (g x)) :=
  dmk ⟨_, pe_ix ix_tup (pe_w X a) (pe_w X _) (fun _ _ => rfl), fun F M0 M H σ Q s po => ha F M0 M H σ _ s (po.bind.imp (fun x _ k v M1 H1 g1 r1 => dd_int (W := W) F M0 M1 H1 σ _ (s.grow g1) (fun w M2 H2 g2 r2 => by
    rw [h1 x] at r1
    obtain ⟨p, vs, rfl, hl, r1⟩ := r1
    obtain ⟨v', q1, q2⟩ := reps_at (Reps.mono g2.mm _ _ r1) (h2 x)
    exact ⟨p, vs, i, v', rfl, r2, same_sqt (g1.mh.trans g2.hh) hl, q1, k v' M2 H2 (g1.trans g2) q2⟩)) fun _ z => z)⟩
/-! ### len -/
theorem dd_lenL {ei : β → D} {m : R (List β)} {p : Pos} (h : DL X W Γ e (fun xs => xs.map ei) m) (hm : X.mg "len" = none) (hg : Gl X "len" := by rfl) (hs : starEach [e] X.env = (false, eval e X.env) :: starEach [] X.env := by exact star_cons rfl) : DD X W Γ (.Call (.Name "len" p) [e] [] pos) D.int (m >>= fun xs => .ok (xs.length : Int)) :=
  dmk ⟨_, pe_callB call_len_seq hg hm boot_len (pa_cons (pe_w X e) pa_nil (hs := hs)) (he := hs), fun F M0 M H σ Q s po => h F M0 M H σ _ s (po.bind.imp (fun xs _ k a vs M1 H1 g1 hl r1 => ⟨a, vs, rfl, .inl hl, k _ M1 H1 g1 (by
    rw [r1.len, List.length_map]; rfl)⟩) fun _ z => z)⟩
theorem dd_lenT {ei : β → D} {m : R (List β)} {p : Pos} (h : DD X W Γ e (fun xs => .tup (xs.map ei)) m) (hm : X.mg "len" = none) (hg : Gl X "len" := by rfl) (hs : starEach [e] X.env = (false, eval e X.env) :: starEach [] X.env := by exact star_cons rfl) : DD X W Γ (.Call (.Name "len" p) [e] [] pos) D.int (m >>= fun xs => .ok (xs.length : Int)) :=
  dmk ⟨_, pe_callB call_len_seq hg hm boot_len (pa_cons (pe_w X e) pa_nil (hs := hs)) (he := hs), fun F M0 M H σ Q s po => h F M0 M H σ _ s (po.bind.imp (fun xs _ k v M1 H1 g1 r1 => by
    obtain ⟨a, vs, rfl, hl, r1⟩ := r1
    exact ⟨a, vs, rfl, .inr (same_sqt g1.mh hl), k _ M1 H1 g1 (by rw [r1.len, List.length_map]; rfl)⟩) fun _ z => z)⟩
/-! ### slices -/
def cutL {α : Type} (xs : List α) (lo hi : Option Int) : List α := (xs.drop (HT.sIx xs.length 0 lo)).take (HT.sIx xs.length xs.length hi - HT.sIx xs.length 0 lo)
theorem cutL_map {f : α → β} {xs : List α} {lo hi : Option Int} : cutL (xs.map f) lo hi = (cutL xs lo hi).map f := by
  unfold cutL
  rw [List.length_map, List.map_take, List.map_drop]
theorem reps_cut {G : Ctx} {M : Hp} {ds : List D} {vs : List V} {lo hi : Option Int} (r : Reps G M ds vs) : Reps G M (cutL ds lo hi) (cutV vs lo hi) := by
  unfold cutL cutV
  rw [r.len]
  exact (r.drop _).take _
/-- a slice's part -/
def DO (X : Cx) (W : WX) (Γ : List Sl) (e : Option Expr) (m : R (Option Int)) : Prop :=
  ∃ te, PO X e te ∧ ∀ F M0 M H σ Q, S X.G F M0 M H σ Γ → Po m (fun x => ∀ M' H', Gr M H M' H' → Q x H') (fun c => ∀ M' H', Gr M H M' H' → Er X.G W c σ H') → te σ H Q
theorem do_none : DO X W Γ none (.ok none) := ⟨_, po_none, fun F M0 M H σ Q s po => po M H (.refl s.mh)⟩
theorem do_some {m : R Int} (h : DD X W Γ e D.int m) : DO X W Γ (some e) (m >>= fun i => .ok (some i)) :=
  ⟨_, po_some (pe_w X e), fun F M0 M H σ Q s po => h F M0 M H σ _ s (po.bind.imp (fun i _ k v M1 H1 g1 r => ⟨i, r, k M1 H1 g1⟩) fun _ z => z)⟩
theorem df_slL {ei : β → D} {m : R (List β)} {lo hi : Option Expr} {ml mh : R (Option Int)} {p2 : Pos} (h : DL X W Γ e (fun xs => xs.map ei) m) (hl : DO X W Γ lo ml) (hh : DO X W Γ hi mh) :
    DF X W Γ (.Subscript e (.Slice lo hi none p2) pos) (fun xs => .lst (xs.map fun x => .imm (ei x))) (m >>= fun xs => ml >>= fun i => mh >>= fun j => .ok (cutL xs i j)) := by
  obtain ⟨tl, pl, ql⟩ := hl
  obtain ⟨th, ph, qh⟩ := hh
  exact dmk ⟨_, pe_slice sl_list (pe_w X e) pl ph, fun F M0 M H σ Q s po => h F M0 M H σ _ s (po.bind.imp (fun xs _ k a vs M1 H1 g1 hq r1 => ql F M0 M1 H1 σ _ (s.grow g1) (k.bind.imp (fun i _ k M2 H2 g2 => qh F M0 M2 H2 σ _ (s.grow (g1.trans g2)) (k.bind.imp (fun j _ k M3 H3 g3 => by
    refine ⟨a, vs, rfl, (g2.hh.trans g3.hh).seq hq, new_list ((g1.trans g2).trans g3) (ds := cutL (xs.map ei) i j) (reps_cut (Reps.mono (g2.mm.trans g3.mm) _ _ r1)) ?_⟩
    rw [cutL_map, ← map_imm]
    exact k) fun c z M' H' g => z M' H' ((g1.trans g2).trans g))) fun c z M' H' g => z M' H' (g1.trans g))) fun _ z => z)⟩
theorem dd_slT {ei : β → D} {m : R (List β)} {lo hi : Option Expr} {ml mh : R (Option Int)} {p2 : Pos} (h : DD X W Γ e (fun xs => .tup (xs.map ei)) m) (hl : DO X W Γ lo ml) (hh : DO X W Γ hi mh) :
    DD X W Γ (.Subscript e (.Slice lo hi none p2) pos) (fun xs => .tup (xs.map ei)) (m >>= fun xs => ml >>= fun i => mh >>= fun j => .ok (cutL xs i j)) := by
  obtain ⟨tl, pl, ql⟩ := hl
  obtain ⟨th, ph, qh⟩ := hh
  exact dmk ⟨_, pe_slice sl_tupA (pe_w X e) pl ph, fun F M0 M H σ Q s po => h F M0 M H σ _ s (po.bind.imp (fun xs _ k v M1 H1 g1 r1 => ql F M0 M1 H1 σ _ (s.grow g1) (k.bind.imp (fun i _ k M2 H2 g2 => qh F M0 M2 H2 σ _ (s.grow (g1.trans g2)) (k.bind.imp (fun j _ k M3 H3 g3 => by
    obtain ⟨a, vs, rfl, hq, r1⟩ := r1
    have r3 := Reps.mono (g2.mm.trans g3.mm) _ _ r1
    have k : WD X.G M H (.tup (cutL (xs.map ei) i j)) Q := by rw [cutL_map]; exact k
    refine ⟨a, vs, rfl, same_sqt (g1.mh.trans (g2.hh.trans g3.hh)) hq, fun hw => ?_, fun _ => new_tup ((g1.trans g2).trans g3) (reps_cut r3) k⟩
    refine k (.ref a) M3 H3 ((g1.trans g2).trans g3) ⟨a, vs, rfl, same_sqt (g2.mm.trans g3.mm) hq, ?_⟩
    have e1 : cutL (xs.map ei) i j = xs.map ei := by
      unfold cutL
      rw [← r1.len, hw.1, hw.2, List.drop_zero, Nat.sub_zero, r1.len, List.take_length]
    rw [e1]
    exact r3) fun c z M' H' g => z M' H' ((g1.trans g2).trans g))) fun c z M' H' g => z M' H' (g1.trans g))) fun _ z => z)⟩
/-! ### + and * -/
def catO {α : Type} (xs ys : List α) : Option (List α) := if xs.length + ys.length ≤ 16777216 then some (xs ++ ys) else none
noncomputable def repO {α : Type} (xs : List α) (k : Int) : Option (List α) := @ite _ (-(2 ^ 63) ≤ k ∧ k < 2 ^ 63 ∧ xs.length * k.toNat ≤ 16777216) (Classical.propDecidable _) (some (List.replicate k.toNat xs).flatten) none
theorem df_cat {ei : β → D} {ma mb : R (List β)} (ha : DLt X W Γ a (fun xs => xs.map ei) ma) (hb : DLt X W Γ b (fun xs => xs.map ei) mb) :
    DF X W Γ (.BinOp a .Add b pos) (fun xs => .lst (xs.map fun x => .imm (ei x))) (ma >>= fun xs => mb >>= fun ys => ofO (catO xs ys)) :=
  dmk ⟨_, pe_op op_cat (pe_w X a) (pe_w X b), fun F M0 M H σ Q s po => ha F M0 M H σ _ s (po.bind.imp (fun xs _ k p vs M1 H1 g1 hl r1 => hb F M0 M1 H1 σ _ (s.grow g1) (k.bind.imp (fun ys _ k q ws M2 H2 g2 hl2 r2 => by
    obtain ⟨z, e, k⟩ := k.ofO
    unfold catO at e
    by_cases hc : xs.length + ys.length ≤ 16777216
    · rw [if_pos hc] at e
      cases e
      refine ⟨p, q, vs, ws, rfl, rfl, g2.hh _ _ hl, hl2, ?_, new_list (g1.trans g2) (ds := xs.map ei ++ ys.map ei) ((Reps.mono g2.mm _ _ r1).app r2) ?_⟩
      · rw [r1.len, r2.len, List.length_map, List.length_map, sizeLine_eq]; exact hc
      · rw [← List.map_append, ← map_imm]
        exact k
    · rw [if_neg hc] at e; cases e) fun c z M' H' g => z M' H' (g1.trans g))) fun _ z => z)⟩
theorem dd_catT {ei : β → D} {ma mb : R (List β)} (ha : DD X W Γ a (fun xs => .tup (xs.map ei)) ma) (hb : DD X W Γ b (fun xs => .tup (xs.map ei)) mb) :
    DD X W Γ (.BinOp a .Add b pos) (fun xs => .tup (xs.map ei)) (ma >>= fun xs => mb >>= fun ys => ofO (catO xs ys)) :=
  dmk ⟨_, pe_op op_catA (pe_w X a) (pe_w X b), fun F M0 M H σ Q s po => ha F M0 M H σ _ s (po.bind.imp (fun xs _ k v M1 H1 g1 r1 => hb F M0 M1 H1 σ _ (s.grow g1) (k.bind.imp (fun ys _ k w M2 H2 g2 r2 => by
    obtain ⟨p, vs, rfl, hl, r1⟩ := r1
    obtain ⟨q, ws, rfl, hl2, r2⟩ := r2
    obtain ⟨z, e, k⟩ := k.ofO
    unfold catO at e
    by_cases hc : xs.length + ys.length ≤ 16777216
    · rw [if_pos hc] at e
      cases e
      have r1' := Reps.mono g2.mm _ _ r1
      have k : WD X.G M H (.tup (xs.map ei ++ ys.map ei)) Q := by rw [← List.map_append]; exact k
      have z1 := r1.len
      have z2 := r2.len
      refine ⟨p, q, vs, ws, rfl, rfl, same_sqt (g1.mh.trans g2.hh) hl, same_sqt g2.mh hl2, ?_, fun e => ?_, fun e => ?_, fun _ _ => new_tup (g1.trans g2) (r1'.app r2) k⟩
      · rw [z1, z2, List.length_map, List.length_map, sizeLine_eq]; exact hc
      · subst e
        have e0 : xs.map ei = [] := List.eq_nil_of_length_eq_zero z1.symm
        rw [e0, List.nil_append] at k
        exact k (.ref q) M2 H2 (g1.trans g2) ⟨q, ws, rfl, hl2, r2⟩
      · intro e
        subst e
        have e0 : ys.map ei = [] := List.eq_nil_of_length_eq_zero z2.symm
        rw [e0, List.append_nil] at k
        exact k (.ref p) M2 H2 (g1.trans g2) ⟨p, vs, rfl, same_sqt g2.mm hl, r1'⟩
    · rw [if_neg hc] at e; cases e) fun c z M' H' g => z M' H' (g1.trans g))) fun _ z => z)⟩
theorem reps_rep {G : Ctx} {M : Hp} {ds : List D} {vs : List V} (r : Reps G M ds vs) : ∀ n, Reps G M (List.replicate n ds).flatten (List.replicate n vs).flatten
  | 0 => rfl
  | n + 1 => by
    rw [List.replicate_succ, List.replicate_succ, List.flatten_cons, List.flatten_cons]
    exact r.app (reps_rep r n)
theorem df_rep {ei : β → D} {ma : R (List β)} {mb : R Int} (ha : DLt X W Γ a (fun xs => xs.map ei) ma) (hb : DD X W Γ b D.int mb) :
    DF X W Γ (.BinOp a .Mult b pos) (fun xs => .lst (xs.map fun x => .imm (ei x))) (ma >>= fun xs => mb >>= fun k => ofO (repO xs k)) :=
  dmk ⟨_, pe_op op_rep (pe_w X a) (pe_w X b), fun F M0 M H σ Q s po => ha F M0 M H σ _ s (po.bind.imp (fun xs _ k p vs M1 H1 g1 hl r1 => hb F M0 M1 H1 σ _ (s.grow g1) (k.bind.imp (fun i _ k w M2 H2 g2 r2 => by
    obtain ⟨z, e, k⟩ := k.ofO
    unfold repO at e
    by_cases hc : -(2 ^ 63) ≤ i ∧ i < 2 ^ 63 ∧ xs.length * i.toNat ≤ 16777216
    · rw [if_pos hc] at e
      cases e
      refine ⟨p, i, vs, rfl, r2, g2.hh _ _ hl, hc.1, hc.2.1, ?_, new_list (g1.trans g2) (reps_rep (Reps.mono g2.mm _ _ r1) i.toNat) ?_⟩
      · rw [r1.len, List.length_map, sizeLine_eq]; exact hc.2.2
      · have e : (List.replicate i.toNat (xs.map ei)).flatten = (List.replicate i.toNat xs).flatten.map ei := by rw [List.map_flatten, List.map_replicate]
        rw [e, ← map_imm]
        exact k
    · rw [if_neg hc] at e; cases e) fun c z M' H' g => z M' H' (g1.trans g))) fun _ z => z)⟩
/-! ### list(..), tuple(..), sum(..), sorted(..) -/
theorem df_listL {ei : β → D} {m : R (List β)} {p : Pos} (h : DL X W Γ e (fun xs => xs.map ei) m) (hm : X.mg "list" = none) (hg : Gl X "list" := by rfl) (hs : starEach [e] X.env = (false, eval e X.env) :: starEach [] X.env := by exact star_cons rfl) : DF X W Γ (.Call (.Name "list" p) [e] [] pos) (fun xs => .lst (xs.map fun x => .imm (ei x))) m :=
  dmk ⟨_, pe_callTy call_list_of hg hm (by decide +kernel) (pa_cons (pe_w X e) pa_nil (hs := hs)) (he := hs), fun F M0 M H σ Q s po => h F M0 M H σ _ s (po.imp (fun xs _ k a vs M1 H1 g1 hl r1 => ⟨a, vs, rfl, .inl hl, new_list g1 r1 (by rw [← map_imm]; exact k)⟩) fun _ z => z)⟩
theorem df_listT {ei : β → D} {m : R (List β)} {p : Pos} (h : DD X W Γ e (fun xs => .tup (xs.map ei)) m) (hm : X.mg "list" = none) (hg : Gl X "list" := by rfl) (hs : starEach [e] X.env = (false, eval e X.env) :: starEach [] X.env := by exact star_cons rfl) : DF X W Γ (.Call (.Name "list" p) [e] [] pos) (fun xs => .lst (xs.map fun x => .imm (ei x))) m :=
  dmk ⟨_, pe_callTy call_list_of hg hm (by decide +kernel) (pa_cons (pe_w X e) pa_nil (hs := hs)) (he := hs), fun F M0 M H σ Q s po => h F M0 M H σ _ s (po.imp (fun xs _ k v M1 H1 g1 r1 => by
    obtain ⟨a, vs, rfl, hl, r1⟩ := r1
    exact ⟨a, vs, rfl, .inr (same_sqt g1.mh hl), new_list g1 r1 (by rw [← map_imm]; exact k)⟩) fun _ z => z)⟩
theorem dd_tupleL {ei : β → D} {m : R (List β)} {p : Pos} (h : DL X W Γ e (fun xs => xs.map ei) m) (hm : X.mg "tuple" = none) (hg : Gl X "tuple" := by rfl) (hs : starEach [e] X.env = (false, eval e X.env) :: starEach [] X.env := by exact star_cons rfl) : DD X W Γ (.Call (.Name "tuple" p) [e] [] pos) (fun xs => .tup (xs.map ei)) m :=
  dmk ⟨_, pe_callTy call_tuple_of hg hm (by decide +kernel) (pa_cons (pe_w X e) pa_nil (hs := hs)) (he := hs), fun F M0 M H σ Q s po => h F M0 M H σ _ s (po.imp (fun xs _ k a vs M1 H1 g1 hl r1 => ⟨a, vs, rfl, .inl ⟨hl, new_tup g1 r1 k⟩⟩) fun _ z => z)⟩
theorem dd_tupleT {ei : β → D} {m : R (List β)} {p : Pos} (h : DD X W Γ e (fun xs => .tup (xs.map ei)) m) (hm : X.mg "tuple" = none) (hg : Gl X "tuple" := by rfl) (hs : starEach [e] X.env = (false, eval e X.env) :: starEach [] X.env := by exact star_cons rfl) : DD X W Γ (.Call (.Name "tuple" p) [e] [] pos) (fun xs => .tup (xs.map ei)) m :=
  dmk ⟨_, pe_callTy call_tuple_of hg hm (by decide +kernel) (pa_cons (pe_w X e) pa_nil (hs := hs)) (he := hs), fun F M0 M H σ Q s po => h F M0 M H σ _ s (po.imp (fun xs _ k v M1 H1 g1 r1 => by
    obtain ⟨a, vs, rfl, hl, r1⟩ := r1
    exact ⟨a, vs, rfl, .inr ⟨same_sqt g1.mh hl, k (.ref a) M1 H1 g1 ⟨a, vs, rfl, hl, r1⟩⟩⟩) fun _ z => z)⟩
theorem reps_ints {G : Ctx} {M : Hp} : ∀ {ns : List Int} {vs : List V}, Reps G M (ns.map D.int) vs → vs = ns.map V.int
  | [], vs, h => h
  | n :: ns, vs, ⟨v, r, h1, h2, h3⟩ => by
    rw [h1, show v = .int n from h2, reps_ints (ns := ns) h3]; rfl
theorem ints_reps {G : Ctx} {M : Hp} : ∀ (ns : List Int), Reps G M (ns.map D.int) (ns.map V.int)
  | [] => rfl
  | n :: ns => ⟨.int n, ns.map V.int, rfl, rfl, ints_reps ns⟩
theorem reps_bls {G : Ctx} {M : Hp} : ∀ {ns : List Bool} {vs : List V}, Reps G M (ns.map D.bl) vs → vs = ns.map V.bl
  | [], vs, h => h
  | n :: ns, vs, ⟨v, r, h1, h2, h3⟩ => by
    rw [h1, show v = .bl n from h2, reps_bls (ns := ns) h3]; rfl
theorem dd_sum {m : R (List Int)} {p : Pos} (hc : X.calm = true) (h : DL X W Γ e (fun xs => xs.map D.int) m) (hm : X.mg "sum" = none) (hg : Gl X "sum" := by rfl) (hs : starEach [e] X.env = (false, eval e X.env) :: starEach [] X.env := by exact star_cons rfl) : DD X W Γ (.Call (.Name "sum" p) [e] [] pos) D.int (m >>= fun xs => .ok xs.sum) :=
  dmk ⟨_, pe_callB (cr_sum hc) hg hm (by decide +kernel) (pa_cons (pe_w X e) pa_nil (hs := hs)) (he := hs), fun F M0 M H σ Q s po => h F M0 M H σ _ s (po.bind.imp (fun xs _ k a vs M1 H1 g1 hl r1 => ⟨a, xs, rfl, by rw [← reps_ints r1]; exact hl, k _ M1 H1 g1 rfl⟩) fun _ z => z)⟩
theorem dd_all {m : R (List Bool)} {p : Pos} (hc : X.calm = true) (h : DL X W Γ e (fun xs => xs.map D.bl) m) (hm : X.mg "all" = none) (hg : Gl X "all" := by rfl) (hs : starEach [e] X.env = (false, eval e X.env) :: starEach [] X.env := by exact star_cons rfl) : DD X W Γ (.Call (.Name "all" p) [e] [] pos) D.bl (m >>= fun xs => .ok (xs.all id)) :=
  dmk ⟨_, pe_callB (cr_all hc) hg hm (by decide +kernel) (pa_cons (pe_w X e) pa_nil (hs := hs)) (he := hs), fun F M0 M H σ Q s po => h F M0 M H σ _ s (po.bind.imp (fun xs _ k a vs M1 H1 g1 hl r1 => ⟨a, xs, rfl, by rw [← reps_bls r1]; exact hl, k _ M1 H1 g1 rfl⟩) fun _ z => z)⟩
theorem dd_any {m : R (List Bool)} {p : Pos} (hc : X.calm = true) (h : DL X W Γ e (fun xs => xs.map D.bl) m) (hm : X.mg "any" = none) (hg : Gl X "any" := by rfl) (hs : starEach [e] X.env = (false, eval e X.env) :: starEach [] X.env := by exact star_cons rfl) : DD X W Γ (.Call (.Name "any" p) [e] [] pos) D.bl (m >>= fun xs => .ok (xs.any id)) :=
  dmk ⟨_, pe_callB (cr_any hc) hg hm (by decide +kernel) (pa_cons (pe_w X e) pa_nil (hs := hs)) (he := hs), fun F M0 M H σ Q s po => h F M0 M H σ _ s (po.bind.imp (fun xs _ k a vs M1 H1 g1 hl r1 => ⟨a, xs, rfl, by rw [← reps_bls r1]; exact hl, k _ M1 H1 g1 rfl⟩) fun _ z => z)⟩
/-- int(n), n an int -/
theorem dd_intI {m : R Int} {p : Pos} (h : DD X W Γ e D.int m) (hm : X.mg "int" = none) (hg : Gl X "int" := by rfl) (hs : starEach [e] X.env = (false, eval e X.env) :: starEach [] X.env := by exact star_cons rfl) : DD X W Γ (.Call (.Name "int" p) [e] [] pos) D.int m :=
  dmk ⟨_, pe_callTy call_int1 hg hm (by decide +kernel) (pa_cons (pe_w X e) pa_nil (hs := hs)) (he := hs), fun F M0 M H σ Q s po => h F M0 M H σ _ s (po.imp (fun i _ k v M1 H1 g1 r1 => .inl ⟨i, by rw [show v = .int i from r1], k _ M1 H1 g1 rfl⟩) fun _ z => z)⟩
theorem dd_absI {m : R Int} {p : Pos} (h : DD X W Γ e D.int m) (hm : X.mg "abs" = none) (hg : Gl X "abs" := by rfl) (hs : starEach [e] X.env = (false, eval e X.env) :: starEach [] X.env := by exact star_cons rfl) : DD X W Γ (.Call (.Name "abs" p) [e] [] pos) D.int (m >>= fun i => .ok (if i < 0 then -i else i)) :=
  dmk ⟨_, pe_callB call_abs hg hm (by decide +kernel) (pa_cons (pe_w X e) pa_nil (hs := hs)) (he := hs), fun F M0 M H σ Q s po => h F M0 M H σ _ s (po.bind.imp (fun i _ k v M1 H1 g1 r1 => ⟨i, by rw [show v = .int i from r1], k _ M1 H1 g1 rfl⟩) fun _ z => z)⟩
theorem dd_two_ints {ma mb : R Int} {n : Str} {id : String} {p : Pos} {f : Int → Int → Int} (hr : CallR X (.builtin id) (fun xs H Q => ∃ i j, xs = [.int i, .int j] ∧ Q (.int (f i j)) H)) (ha : DD X W Γ a D.int ma) (hb : DD X W Γ b D.int mb) (hm : X.mg n = none) (hv : bootBuiltins n = some (.builtin id)) (hg : Gl X n := by rfl) (hn : n ≠ "__name__" := by decide) (hdb : (n == ("__debug__" : Str)) = false := by decide)
    (hs : starEach [a, b] X.env = (false, eval a X.env) :: starEach [b] X.env := by exact star_cons rfl) (hs2 : starEach [b] X.env = (false, eval b X.env) :: starEach [] X.env := by exact star_cons rfl) (hpl : (backTo pos (starEach [b] X.env)).any (·.1) = false := by exact star_none rfl) : DD X W Γ (.Call (.Name n p) [a, b] [] pos) D.int (ma >>= fun x => mb >>= fun y => .ok (f x y)) := by
  refine dmk ⟨_, pe_callB hr hg hm hv (pa_cons (pe_w X a) (pa_cons (pe_w X b) pa_nil (hs := hs2)) (hs := hs)) (hn := hn) (hdb := hdb) (he := hs) (hpl := hpl), fun F M0 M H σ Q s po => ha F M0 M H σ _ s (po.bind.imp (fun x _ k v M1 H1 g1 r1 => hb F M0 M1 H1 σ _ (s.grow g1) (k.bind.imp (fun y _ k w M2 H2 g2 r2 => ⟨x, y, by rw [show v = .int x from r1, show w = .int y from r2], k _ M2 H2 (g1.trans g2) rfl⟩) fun c z M' H' g => z M' H' (g1.trans g))) fun _ z => z)⟩
end
end Cn
/-! Cn6: one's own lists; targets; comprehensions -/
namespace Cn
open PySem PySem.Spec L2
section
variable {G : Ctx} {F M0 M M' H H' : Hp} {σ : St} {Γ : List Sl}
/-- a list of data, changed -/
theorem S.lset {i : Nat} {ds : List D} (s : S G F M0 M H σ Γ) (h : Γ[i]? = some (.ow (.lst (ds.map .imm)))) :
    ∃ a vs, σ[i]? = some (some (.ref a)) ∧ H a = some (.lst vs) ∧ Reps G M ds vs ∧
      ∀ M' H' vs' ds', Gr M H M' H' → Reps G M' ds' vs' → S G F M0 M' (upd H' a (.lst vs')) σ (Γ.set i (.ow (.lst (ds'.map .imm)))) := by
  obtain ⟨a, vs, h1, h2, h3, ⟨as, h4⟩, h5⟩ := s.listed (ts' := []) h
  obtain ⟨a', vs', h1', h2', _, _, _⟩ := s.listed (ts' := []) h
  refine ⟨a, vs, h1, h2, (Owns.of_imm h4).1, fun M' H' vs' ds' g r => ?_⟩
  obtain ⟨b, ws, e1, e2, _, _, k⟩ := s.listed (ts' := ds'.map .imm) h
  rw [h1] at e1
  cases e1
  exact k M' H' vs' [] g (fun as K' _ o _ _ => ⟨[], Owns.imm r, by simp⟩) List.nodup_nil (fun _ z => nomatch z)
/-- what was one's own is shared from now on -/
theorem S.freeze {i : Nat} {t : T} (s : S G F M0 M H σ Γ) (h : Γ[i]? = some (.ow t)) : ∃ M', S G F M0 M' H σ (Γ.set i (.ow (.imm (fz t)))) := by
  obtain ⟨as, f, sa⟩ := s
  obtain ⟨v, l, a, r, q1, q2, q3, q4⟩ := Sat.focus sa h
  subst q2
  have th := Own.there t v a q3
  have nd := f.nd
  rw [List.append_assoc, List.nodup_append] at nd
  have nd2 := nd.2.1
  rw [List.nodup_append] at nd2
  have dj : ∀ b ∈ l ++ r, b ∉ a := fun b hb ha => by
    rcases List.mem_append.mp hb with z | z
    · exact nd.2.2 b z b (List.mem_append_left _ ha) rfl
    · exact nd2.2.2 b ha b z rfl
  obtain ⟨M', hM⟩ : ∃ M' : Hp, M' = fun b => if b ∈ a then H b else M b := ⟨_, rfl⟩
  have m1 : ∀ b ∈ a, M' b = H b := fun b hb => by rw [hM]; show (if b ∈ a then H b else M b) = H b; rw [if_pos hb]
  have m2 : ∀ b, b ∉ a → M' b = M b := fun b hb => by rw [hM]; show (if b ∈ a then H b else M b) = M b; rw [if_neg hb]
  have ma : ∀ b ∈ a, M b = none := fun b hb => f.ma b (by simp [hb])
  have mm : Same M M' := fun b o e => by
    by_cases hb : b ∈ a
    · rw [ma b hb] at e; cases e
    · rw [m2 b hb]; exact e
  have mh : Same M' H := fun b o e => by
    by_cases hb : b ∈ a
    · rw [m1 b hb] at e; exact e
    · rw [m2 b hb] at e; exact f.mh b o e
  refine ⟨M', l ++ [] ++ r, ⟨f.fh, f.mm.trans mm, mh, fun b z => ?_, ?_, fun b hb => f.fa b ?_, fun b hb => ?_⟩, q4 M' H _ [] mm (fun b _ o e => e) ⟨rfl, Own.freeze mm t v a (fun b hb o e => by rw [m1 b hb]; exact e) q3⟩⟩
  · by_cases hb : b ∈ a
    · exact .inr (f.fa b (by simp [hb]))
    · rw [m2 b hb] at z; exact f.nw b z
  · rw [List.append_nil, List.nodup_append]
    exact ⟨nd.1, nd2.2.1, fun x hx y hy e => nd.2.2 x hx y (List.mem_append_right _ hy) e⟩
  · rw [List.append_nil] at hb
    rcases List.mem_append.mp hb with z | z <;> simp [z]
  · rw [List.append_nil] at hb
    rw [m2 b (dj b hb)]
    exact f.ma b (by rcases List.mem_append.mp hb with z | z <;> simp [z])
end
section
variable {X : Cx} {W : WX} {Γe Γ : List Sl} {a b e c tg elt iter : Expr} {es : List Expr} {α β γ ω ω1 : Type} {pos : Pos} {s : Stmt} {rest ss A B : List Stmt}
theorem bk_freeze {κ : ω → Kd} {m : R ω} {t : T} {d : D} (i : Nat) (h : Γ[i]? = some (.ow t)) (hd : fz t = d) (hb : Bk X W Γe (Γ.set i (.ow (.imm d))) ss κ m) : Bk X W Γe Γ ss κ m := ⟨fun F M0 M H σ D s po => by
  subst hd
  obtain ⟨M', s'⟩ := s.freeze h
  exact hb F M0 M' H σ D s' po⟩
theorem bk_freezeL {κ : ω → Kd} {m : R ω} {ei : β → D} {xs : List β} (i : Nat) (h : Γ[i]? = some (.ow (.lst (xs.map fun x => .imm (ei x))))) (hb : Bk X W Γe (Γ.set i (.ow (.imm (.lst (xs.map ei))))) ss κ m) : Bk X W Γe Γ ss κ m := bk_freeze i h (fz_list xs) hb
/-! ### a list of one's own is changed -/
def appO {α : Type} (xs : List α) (x : α) : Option (List α) := if xs.length < 16777216 then some (xs ++ [x]) else none
theorem own_is {ei : β → D} (xs : List β) : T.lst (xs.map fun x => T.imm (ei x)) = T.lst ((xs.map ei).map .imm) := by rw [map_imm]
theorem st_append {ei : β → D} {xs : List β} {m : R β} {n : Str} {p p1 cpos : Pos} (i : Nat) (h : Γ[i]? = some (.ow (.lst (xs.map fun x => .imm (ei x))))) (he : DD X W Γ e ei m) (hw : Wk Γe Γ) (hN : X.N[i]? = some n := by rfl) (hv : Vis X.env.scope n := by first | exact Or.inl rfl | exact Or.inr (Or.inl rfl) | exact Or.inr (Or.inr rfl))
    (hd : (n == ("__debug__" : Str)) = false := by decide) (hcd : (n == ("__classdict__" : Str)) = false := by decide)
    (hbase : attributeBase (.Name n p) "append" X.env (eval (.Name n p) X.env) = eval (.Name n p) X.env := by rfl)
    (hfew : ((backTo cpos (starEach [e] X.env)).all (fun x => !x.1) && (backToKw cpos (keywordEach [] X.env)).all (fun x => x.1.isSome)
      && decide (([e]).length + ([] : List Keyword).length + (if ([] : List Keyword).isEmpty then 0 else 1) < 30)) = true := by rfl)
    (hline : (p1.endLine == cpos.line) = true := by rfl) (hs : starEach [e] X.env = (false, eval e X.env) :: starEach [] X.env := by exact star_cons rfl) (hplain : (backTo cpos (starEach [] X.env)).any (·.1) = false := by rfl)
    (hsw : swapsWith (.Call (.Attribute (.Name n p) "append" p1) [e] [] cpos) none pos.line X.env = pure false := by rfl) :
    St1 X W Γe Γ (.Expr (.Call (.Attribute (.Name n p) "append" p1) [e] [] cpos) pos) (fun xs => .n (Γ.set i (.ow (.lst (xs.map fun x => .imm (ei x)))))) (m >>= fun x => ofO (appO xs x)) :=
  smk ⟨_, ps_expr (pe_bm PySem.F.plainAttrs_list PySem.F.slot_list_append PySem.F.type_list_append mt_append (pe_var hN hv hd hcd) (pa_cons (pe_w X e) pa_nil (hs := hs)) hbase hfew hline hs hplain) hsw, fun F M0 M H σ D st po => by
    rw [own_is] at h
    obtain ⟨a, vs, h1, h2, h3, h4⟩ := st.lset h
    refine ⟨_, h1, .inl ⟨rfl, vs, .of h2⟩, he F M0 M H σ _ st (po.bind.imp (fun x _ k v M1 H1 g1 r1 => ?_) fun c z => er_wk st hw z)⟩
    obtain ⟨z, e, k⟩ := k.ofO
    unfold appO at e
    by_cases hc : xs.length < 16777216
    · rw [if_pos hc] at e
      cases e
      refine ⟨a, vs, v, rfl, rfl, g1.hh _ _ h2, by rw [h3.len, List.length_map, sizeLine_eq]; exact hc, ?_⟩
      refine Kn.nx k _ rfl M1 _ σ ?_
      have q := h4 M1 H1 (vs ++ [v]) ((xs.map ei) ++ [ei x]) g1 ((Reps.mono g1.mm _ _ h3).app ⟨v, [], rfl, r1, rfl⟩)
      rw [own_is, List.map_append (l₁ := xs)]
      exact q
    · rw [if_neg hc] at e; cases e⟩
def extO {α : Type} (xs ys : List α) : Option (List α) := if xs.length + ys.length ≤ 16777216 then some (xs ++ ys) else none
theorem st_extend {ei : β → D} {xs : List β} {m : R (List β)} {n : Str} {p p1 cpos : Pos} (i : Nat) (h : Γ[i]? = some (.ow (.lst (xs.map fun x => .imm (ei x))))) (he : DLt X W Γ e (fun xs => xs.map ei) m) (hw : Wk Γe Γ) (hN : X.N[i]? = some n := by rfl) (hv : Vis X.env.scope n := by first | exact Or.inl rfl | exact Or.inr (Or.inl rfl) | exact Or.inr (Or.inr rfl))
    (hd : (n == ("__debug__" : Str)) = false := by decide) (hcd : (n == ("__classdict__" : Str)) = false := by decide)
    (hbase : attributeBase (.Name n p) "extend" X.env (eval (.Name n p) X.env) = eval (.Name n p) X.env := by rfl)
    (hfew : ((backTo cpos (starEach [e] X.env)).all (fun x => !x.1) && (backToKw cpos (keywordEach [] X.env)).all (fun x => x.1.isSome)
      && decide (([e]).length + ([] : List Keyword).length + (if ([] : List Keyword).isEmpty then 0 else 1) < 30)) = true := by rfl)
    (hline : (p1.endLine == cpos.line) = true := by rfl) (hs : starEach [e] X.env = (false, eval e X.env) :: starEach [] X.env := by exact star_cons rfl) (hplain : (backTo cpos (starEach [] X.env)).any (·.1) = false := by rfl)
    (hsw : swapsWith (.Call (.Attribute (.Name n p) "extend" p1) [e] [] cpos) none pos.line X.env = pure false := by rfl) :
    St1 X W Γe Γ (.Expr (.Call (.Attribute (.Name n p) "extend" p1) [e] [] cpos) pos) (fun xs => .n (Γ.set i (.ow (.lst (xs.map fun x => .imm (ei x)))))) (m >>= fun ys => ofO (extO xs ys)) :=
  smk ⟨_, ps_expr (pe_bm PySem.F.plainAttrs_list PySem.F.slot_list_extend PySem.F.type_list_extend mt_extend (pe_var hN hv hd hcd) (pa_cons (pe_w X e) pa_nil (hs := hs)) hbase hfew hline hs hplain) hsw, fun F M0 M H σ D st po => by
    rw [own_is] at h
    obtain ⟨a, vs, h1, h2, h3, h4⟩ := st.lset h
    refine ⟨_, h1, .inl ⟨rfl, vs, .of h2⟩, he F M0 M H σ _ st (po.bind.imp (fun ys _ k b ws M1 H1 g1 hb r1 => ?_) fun c z => er_wk st hw z)⟩
    obtain ⟨z, e, k⟩ := k.ofO
    unfold extO at e
    by_cases hc : xs.length + ys.length ≤ 16777216
    · rw [if_pos hc] at e
      cases e
      refine ⟨a, b, vs, ws, rfl, rfl, g1.hh _ _ h2, hb, by rw [h3.len, r1.len, List.length_map, List.length_map, sizeLine_eq]; exact hc, ?_⟩
      refine Kn.nx k _ rfl M1 _ σ ?_
      have q := h4 M1 H1 (vs ++ ws) ((xs.map ei) ++ (ys.map ei)) g1 ((Reps.mono g1.mm _ _ h3).app r1)
      rw [own_is, List.map_append (l₁ := xs)]
      exact q
    · rw [if_neg hc] at e; cases e⟩
/-- xs[k] = e -/
def setO {α : Type} (xs : List α) (i : Int) (x : α) : Option (List α) := (ixN xs.length i).map fun j => xs.set j x
theorem Reps.set {G : Ctx} {M : Hp} {v : V} {d : D} (r : Rep G M d v) : ∀ {ds : List D} {vs : List V} (i : Nat), Reps G M ds vs → Reps G M (ds.set i d) (vs.set i v)
  | [], vs, i, h => by rw [show vs = [] from h]; exact rfl
  | x :: ds, vs, 0, ⟨w, q, h1, h2, h3⟩ => by subst h1; exact ⟨v, q, rfl, r, h3⟩
  | x :: ds, vs, i + 1, ⟨w, q, h1, h2, h3⟩ => by subst h1; exact ⟨w, q.set i v, rfl, h2, Reps.set r i h3⟩
theorem st_setix {ei : β → D} {xs : List β} {m : R β} {mi : R Int} {n : Str} {p ps : Pos} (i : Nat) (h : Γ[i]? = some (.ow (.lst (xs.map fun x => .imm (ei x))))) (he : DD X W Γ e ei m) (hi : DD X W Γ b D.int mi) (hw : Wk Γe Γ) (hN : X.N[i]? = some n := by rfl) (hv : Vis X.env.scope n := by first | exact Or.inl rfl | exact Or.inr (Or.inl rfl) | exact Or.inr (Or.inr rfl))
    (hd : (n == ("__debug__" : Str)) = false := by decide) (hcd : (n == ("__classdict__" : Str)) = false := by decide)
    (ha : ∀ v, assign (.Subscript (.Name n p) b ps) X.env v = (do
      let ov ← holding [v] (eval (.Name n p) X.env)
      let iv ← holding [v, ov] (eval b X.env)
      standAt ps
      holding [v, ov, iv] (setItem ov iv v)
      release [v, ov, iv] []) := by intro _; rfl)
    (hs : swapsWithSole [.Subscript (.Name n p) b ps] e pos.line X.env = pure false := by rfl) (hsw : swappedStores [.Subscript (.Name n p) b ps] e X.env = pure none := by rfl)
    (h1 : (assignEach [.Subscript (.Name n p) b ps] X.env).map (·.2) = [assign (.Subscript (.Name n p) b ps) X.env] := by rfl) :
    St1 X W Γe Γ (.Assign [.Subscript (.Name n p) b ps] e pos) (fun xs => .n (Γ.set i (.ow (.lst (xs.map fun x => .imm (ei x)))))) (m >>= fun x => mi >>= fun k => ofO (setO xs k x)) :=
  smk ⟨_, ps_asg (pe_w X e) (pg_sub (pe_var hN hv hd hcd) (pe_w X b) set_list ha) hs hsw h1, fun F M0 M H σ D st po => by
    rw [own_is] at h
    refine he F M0 M H σ _ st (po.bind.imp (fun x _ k v M1 H1 g1 r1 => ?_) fun c z => er_wk st hw z)
    have st1 := st.grow g1
    obtain ⟨a, vs, h1, h2, h3, h4⟩ := st1.lset h
    refine ⟨_, h1, hi F M0 M1 H1 σ _ st1 (k.bind.imp (fun j _ k w M2 H2 g2 r2 => ?_) fun c z => er_wk st1 hw z)⟩
    obtain ⟨z, e, k⟩ := k.ofO
    unfold setO at e
    cases q : ixN xs.length j with
    | none => rw [q] at e; cases e
    | some l =>
      rw [q] at e
      cases e
      refine ⟨a, vs, j, l, rfl, r2, g2.hh _ _ h2, by rw [h3.len, List.length_map]; exact q, ?_⟩
      refine Kn.nx k _ rfl M2 _ σ ?_
      have q := h4 M2 H2 (vs.set l v) ((xs.map ei).set l (ei x)) g2 (Reps.set (Rep.mono g2.mm _ _ r1) l (Reps.mono g2.mm _ _ h3))
      rw [own_is, List.map_set (l := xs)]
      exact q⟩
/-- x op= e, ints -/
def AugI (X : Cx) (op : Operator) (f : Int → Int → Option Int) : Prop := ∃ ti, PIp X op ti ∧ ∀ x y z H Q, f x y = some z → Q (.int z) H → ti (.int x) (.int y) H Q
theorem PIp.of {op : Operator} {r : R2} (h : OpR X (inplaceOp op) r) : PIp X op r := fun pins s σ H x y v u Q I r1 r2 q => h pins s σ H x y v u Q I r1 r2 q
theorem aug_add : AugI X .Add fun x y => some (x + y) := ⟨_, PIp.of iop_add, fun x y z H Q e q => ⟨x, y, rfl, rfl, by cases e; exact q⟩⟩
theorem aug_sub : AugI X .Sub fun x y => some (x - y) := ⟨_, PIp.of iop_sub, fun x y z H Q e q => ⟨x, y, rfl, rfl, by cases e; exact q⟩⟩
theorem aug_xor : AugI X .BitXor fun x y => some (Builtin.bitXor x y) := ⟨_, PIp.of iop_xor, fun x y z H Q e q => ⟨x, y, rfl, rfl, by cases e; exact q⟩⟩
theorem aug_mul : AugI X .Mult mulO := ⟨_, PIp.of iop_mul, fun x y z H Q e q => by
  unfold mulO at e
  by_cases c : CMul x y
  · rw [if_pos c] at e; cases e; exact ⟨x, y, rfl, rfl, c, q⟩
  · rw [if_neg c] at e; cases e⟩
theorem st_aug {op : Operator} {f : Int → Int → Option Int} {m : R Int} {n : Str} {p : Pos} {x : Int} (hf : AugI X op f) (i : Nat) (h : Γ[i]? = some (.ow (.imm (.int x)))) (he : DD X W Γ e D.int m) (hw : Wk Γe Γ) (hN : X.N.Nodup) (hi : X.N[i]? = some n := by rfl) (hl : Nat.blt i Γ.length = true := by rfl) (hx : Loc X.env.scope n := by first | exact Or.inl rfl | exact Or.inr rfl)
    (hfn : X.fn n = true ∨ X.env.scope.names.lookup n = some .local := by first | exact .inl rfl | exact .inr rfl) : St1 X W Γe Γ (.AugAssign (.Name n p) op e pos) (fun x => .n (Γ.set i (.ow (.imm (.int x))))) (m >>= fun y => ofO (f x y)) := by
  obtain ⟨ti, hp, ht⟩ := hf
  refine smk ⟨_, ps_aug hN hi hx (pe_w X e) hp hfn, fun F M0 M H σ D st po => ?_⟩
  obtain ⟨as, fr, sa⟩ := id st
  obtain ⟨v, a, q1, q2, q3⟩ := Sat.get sa h
  refine ⟨v, q1, he F M0 M H σ _ st (po.bind.imp (fun y _ k w M1 H1 g1 r1 => ?_) fun c z => er_wk st hw z)⟩
  rw [show v = .int x from q2.2, show w = .int y from r1]
  obtain ⟨z, e, k⟩ := k.ofO
  refine ht x y z H1 _ e ?_
  exact Kn.nx k _ rfl M1 H1 _ (st.put g1 (show Own X.G M1 H1 (.imm (.int z)) (.int z) [] from ⟨rfl, rfl⟩) List.nodup_nil (fun _ z => nomatch z) (Nat.le_of_ble_eq_true hl))
/-! ### targets that are tuples -/
/-- the items of a tuple, stored one behind the other -/
def DGs (X : Cx) (Γ : List Sl) (tgs : List Expr) (put : List Sl) (ds : List D) : Prop := ∃ g, PGs X tgs g ∧ ∀ F M0 M H σ vs Q, S X.G F M0 M H σ Γ → Reps X.G M ds vs → (∀ M' H' σ', Same M M' → S X.G F M0 M' H' σ' put → Q σ' H') → g vs σ H Q
theorem dgs_nil : DGs X Γ [] Γ [] := ⟨_, pgs_nil, fun F M0 M H σ vs Q s r q => ⟨r, q M H σ (.refl _) s⟩⟩
theorem dgs_cons {tgs : List Expr} {Γ1 put : List Sl} {d : D} {ds : List D} (h : DG X Γ tg Γ1 d) (k : DGs X Γ1 tgs put ds) (hs : (assignEach (tg :: tgs) X.env).map (·.2) = assign tg X.env :: (assignEach tgs X.env).map (·.2) := by rfl) : DGs X Γ (tg :: tgs) put (d :: ds) := by
  obtain ⟨g, pg, hg⟩ := k
  refine ⟨_, pgs_cons (pg_w X tg) pg hs, fun F M0 M H σ vs Q s r q => ?_⟩
  obtain ⟨v, r', rfl, h1, h2⟩ := r
  exact ⟨v, r', rfl, h F M0 M H σ v _ s h1 fun M1 H1 σ1 m1 s1 => hg F M0 M1 H1 σ1 r' Q s1 (Reps.mono m1 _ _ h2) fun M2 H2 σ2 m2 s2 => q M2 H2 σ2 (m1.trans m2) s2⟩
theorem dg_tup {tgs : List Expr} {put : List Sl} {ds : List D} {k : Nat} (hc : X.calm = true) (h : DGs X Γ tgs put ds) (hn : (assignEach tgs X.env).length = ds.length := by rfl) (hst : (assignEach tgs X.env).findIdx? (·.1) = none := by rfl) : DG X Γ (.Tuple tgs k pos) put (.tup ds) := by
  obtain ⟨g, pg, hg⟩ := h
  intro F M0 M H σ v Q s r q pins sh u I rv
  obtain ⟨a, vs, rfl, h1, h2⟩ := r
  exact (pg_tup (pos := pos) (k := k) hc pg hn hst).run pins sh σ H _ u Q I rv ⟨a, vs, rfl, same_sqt s.mh h1, by rw [h2.len], hg F M0 M H σ vs Q s h2 q⟩
theorem dg_unl {tgs : List Expr} {put : List Sl} {ds : List D} {k : Nat} (hc : X.calm = true) (h : DGs X Γ tgs put ds) (hn : (assignEach tgs X.env).length = ds.length := by rfl) (hst : (assignEach tgs X.env).findIdx? (·.1) = none := by rfl) : DG X Γ (.Tuple tgs k pos) put (.lst ds) := by
  obtain ⟨g, pg, hg⟩ := h
  intro F M0 M H σ v Q s r q pins sh u I rv
  obtain ⟨a, vs, rfl, h1, h2⟩ := r
  exact (pg_unl (pos := pos) (k := k) hc pg hn hst).run pins sh σ H _ u Q I rv ⟨a, vs, rfl, .of (s.mh _ _ h1), by rw [h2.len], hg F M0 M H σ vs Q s h2 q⟩
theorem st_asg {emb : α → D} {m : R α} {put : α → List Sl} (he : DD X W Γ e emb m) (hg : ∀ x, DG X Γ tg (put x) (emb x)) (hw : Wk Γe Γ) (hs : swapsWithSole [tg] e pos.line X.env = pure false := by rfl) (hsw : swappedStores [tg] e X.env = pure none := by rfl)
    (h1 : (assignEach [tg] X.env).map (·.2) = [assign tg X.env] := by rfl) : St1 X W Γe Γ (.Assign [tg] e pos) (fun x => .n (put x)) m :=
  smk ⟨_, ps_asg (pe_w X e) (pg_w X tg) hs hsw h1, fun F M0 M H σ D st po => he F M0 M H σ _ st (po.imp (fun x _ k v M1 H1 g1 r1 => hg x F M0 M1 H1 σ v _ (st.grow g1) r1 fun M2 H2 σ2 _ s2 => Kn.nx k _ rfl M2 H2 σ2 s2) fun c z => er_wk st hw z)⟩
/-- .. where the number of items is known by a test alone: a list (or tuple) of any length -/
def itemsN {α : Type} (n : Nat) (xs : List α) : Option (List α) := if xs.length = n then some xs else none
/-! ### comprehensions -/
/-- an exception within a comprehension isn't carried -/
def noErr {α : Type} : R α → R α
  | .err _ => .bad
  | m => m
theorem Po.noErr {α : Type} {m : R α} {Q : α → Prop} {E : Str → Prop} (h : Po (noErr m) Q E) : Po m Q fun _ => False := by
  cases m with
  | bad => exact h
  | err c => exact h
  | ok a => exact h
def lcR {α β : Type} (c : α → R Bool) (f : α → R β) : List α → R (List β)
  | [] => .ok []
  | x :: xs => noErr (c x) >>= fun b => if b then noErr (f x) >>= fun y => lcR c f xs >>= fun ys => .ok (y :: ys) else lcR c f xs
def compR {α β : Type} (c : α → R Bool) (f : α → R β) (xs : List α) : R (List β) := if xs.length ≤ 16777216 then lcR c f xs else .bad
abbrev wNo : WX := fun _ _ _ _ => False
/-- the tests of a comprehension -/
def DTs (X : Cx) (Γ : List Sl) (ifs : List Expr) (m : R Bool) : Prop :=
  ∃ tt, PTs X ifs tt ∧ ∀ F M0 M H σ Q, S X.G F M0 M H σ Γ → Po m (fun x => ∀ M' H', Gr M H M' H' → Q x H') (fun _ => False) → tt σ H Q
theorem dts_nil : DTs X Γ [] (.ok true) := ⟨_, pts_nil, fun F M0 M H σ Q s po => po M H (.refl s.mh)⟩
theorem dts_one {m : R Bool} (h : DT X wNo Γ c m) : DTs X Γ [c] m := ⟨_, pts_one (pt_w X c), fun F M0 M H σ Q s po => h F M0 M H σ Q s (po.imp (fun _ _ k => k) fun _ z => z.elim)⟩
def wTs (X : Cx) (ifs : List Expr) : TT := fun σ H Q => ∀ pins s, Inv X pins σ H s → wpAny (model X.prog X.w) X.A (forIn ifs true fun c r => if r = true then do let ok ← isTrue c X.env (eval c X.env); pure (ForInStep.yield ok) else pure (ForInStep.yield r)) (TP X pins σ Q) X.xe s
/-- the own names forgotten -/
def wipeΓ (Γ : List Sl) : List Nat → List Sl
  | [] => Γ
  | v :: vs => (wipeΓ Γ vs).set v .un
theorem Sat.unset {G : Ctx} {F M H : Hp} : ∀ {Γ : List Sl} {σ : St} {as : List Addr} {i : Nat}, Sat G F M H Γ σ as → ∃ bs, Sat G F M H (Γ.set i .un) (σ.set i none) bs ∧ bs.Sublist as
  | [], σ, as, i, h => ⟨as, by rw [h.1]; exact ⟨rfl, h.2⟩, .refl _⟩
  | .un :: Γ, σ, as, 0, ⟨x, r, h1, h2⟩ => ⟨as, by rw [h1]; exact ⟨none, r, rfl, h2⟩, .refl _⟩
  | .ow t' :: Γ, σ, as, 0, ⟨w, r, a1, a2, h1, h2, h3, h4⟩ => ⟨a2, by rw [h1]; exact ⟨none, r, rfl, h4⟩, by rw [h2]; exact List.sublist_append_right _ _⟩
  | .pn w t' :: Γ, σ, as, 0, ⟨r, a1, a2, h1, h2, h3, h4⟩ => ⟨a2, by rw [h1]; exact ⟨none, r, rfl, h4⟩, by rw [h2]; exact List.sublist_append_right _ _⟩
  | .lk t' :: Γ, σ, as, 0, ⟨w, r, a0, h1, h2, h3⟩ => ⟨as, by rw [h1]; exact ⟨none, r, rfl, h3⟩, .refl _⟩
  | .lk t' :: Γ, σ, as, i + 1, ⟨w, r, a0, h1, h2, h3⟩ => by
    obtain ⟨bs, s, sub⟩ := Sat.unset (i := i) h3
    exact ⟨bs, by rw [h1]; exact ⟨w, _, a0, rfl, h2, s⟩, sub⟩
  | .un :: Γ, σ, as, i + 1, ⟨x, r, h1, h2⟩ => by
    obtain ⟨bs, s, sub⟩ := Sat.unset (i := i) h2
    exact ⟨bs, by rw [h1]; exact ⟨x, _, rfl, s⟩, sub⟩
  | .ow t' :: Γ, σ, as, i + 1, ⟨w, r, a1, a2, h1, h2, h3, h4⟩ => by
    obtain ⟨bs, s, sub⟩ := Sat.unset (i := i) h4
    exact ⟨a1 ++ bs, by rw [h1]; exact ⟨w, _, a1, bs, rfl, rfl, h3, s⟩, by rw [h2]; exact List.Sublist.append_left sub a1⟩
  | .pn w t' :: Γ, σ, as, i + 1, ⟨r, a1, a2, h1, h2, h3, h4⟩ => by
    obtain ⟨bs, s, sub⟩ := Sat.unset (i := i) h4
    exact ⟨a1 ++ bs, by rw [h1]; exact ⟨_, a1, bs, rfl, rfl, h3, s⟩, by rw [h2]; exact List.Sublist.append_left sub a1⟩
theorem S.wipe {G : Ctx} {F M0 M H : Hp} {σ : St} {Γ : List Sl} (s : S G F M0 M H σ Γ) : ∀ vs, S G F M0 M H (wipe σ vs) (wipeΓ Γ vs)
  | [] => s
  | v :: vs => by
    obtain ⟨as, f, sa⟩ := S.wipe s vs
    obtain ⟨bs, sb, sub⟩ := Sat.unset (i := v) sa
    exact ⟨bs, f.sub sub, sb⟩
/-- the new list at L is filled: what stood around it -/
theorem gr_list {M1 H1 M H : Hp} {L : Addr} {vs : List V} (g : Gr M1 H1 M H) (h0 : H1 L = none) (hm : M L = none) : Gr M1 H1 M (upd H L (.lst vs)) :=
  ⟨fun b o e => by rw [upd_ne (ne_of_none e h0)]; exact g.hh b o e, g.mm, fun b o e => by rw [upd_ne (ne_of_none e hm)]; exact g.mh b o e, g.nw⟩
theorem gr_keepNone {M H M' H' : Hp} (g : Gr M H M' H') {L : Addr} (hm : M L = none) (hh : H L ≠ none) : M' L = none := by
  cases e : M' L with
  | none => rfl
  | some o =>
    rcases g.nw L (by rw [e]; exact fun z => nomatch z) with q | q
    · exact absurd hm q
    · exact absurd q hh
/-- the context of a comprehension's block -/
abbrev blkX (X : Cx) (scope : Scope) (s : Shared) (H : Hp) (C : Addr) (cl : List (Str × Addr)) (fp : List Addr) : Cx := X.blk s H scope (compEnvC scope cl C X.env) fp
/-- the reading of a comprehension, from its parts' -/
theorem lc_reads {G : Ctx} {own : List (Str × Nat)} {et : β → T} {ei : α → D} {cf : α → R Bool} {f : α → R β} {wi : TI} {g : TG} {tt : TT} {te : TE} {mi : R (List α)} {put : α → List Sl} {F M0 M H : Hp} {σ : St} {Q : VK} {E : Str → Prop}
    (st : S G F M0 M H σ Γ)
    (hi : ∀ R : It → Hp → Prop, Po mi (fun xs => ∀ J M' H', Gr M H M' H' → ItD G J (xs.map ei) M' → R J H') E → wi σ H R)
    (hg : ∀ x F M0 M H σ' v (Q : St → Hp → Prop), S G F M0 M H σ' (wipeΓ Γ (own.map (·.2))) → σ' = wipe σ (own.map (·.2)) → Rep G M (ei x) v → (∀ M' H' σ2, Gr M H M' H' → S G F M0 M' H' σ2 (put x) → wipe σ2 (own.map (·.2)) = σ' → Q σ2 H') → g v σ' H Q)
    (ht : ∀ x F M0 M H σ' Q, S G F M0 M H σ' (put x) → Po (cf x) (fun b => ∀ M' H', Gr M H M' H' → Q b H') (fun _ => False) → tt σ' H Q)
    (he : ∀ x F M0 M H σ' Q, S G F M0 M H σ' (put x) → Po (f x) (fun y => WF G M H (et y) Q) (fun _ => False) → te σ' H Q)
    (po : Po (mi >>= fun xs => compR cf f xs) (fun ys => WF G M H (.lst (ys.map et)) Q) E) : tLc wi g tt te (own.map (·.2)) σ H Q := by
  refine hi _ (po.bind.imp (fun xs _ k J M1 H1 g1 it => ?_) fun c z => z)
  have k : Po (if xs.length ≤ 16777216 then lcR cf f xs else .bad) _ E := k
  by_cases hz : xs.length ≤ 16777216
  case neg => rw [if_neg hz] at k; exact k.elim
  rw [if_pos hz] at k
  intro L hL
  have hML : M1 L = none := by
    cases e : M1 L with
    | none => rfl
    | some o => rw [g1.mh L o e] at hL; cases hL
  have hHL : H L = none := g1.hh.free hL
  refine ⟨fun i m H2 => m = xs.length - i ∧ i ≤ xs.length ∧ ∃ M2 ys acc as, Gr M1 H1 M2 H2 ∧ M2 L = none ∧ H2 L = some (.lst acc) ∧ acc.length ≤ i ∧ Owns G M2 H2 (ys.map et) acc as ∧ as.Nodup ∧ (∀ a ∈ as, H1 a = none ∧ M2 a = none ∧ a ≠ L) ∧
      Po (lcR cf f (xs.drop i)) (fun zs => WF G M H (.lst ((ys ++ zs).map et)) Q) E, ⟨xs.length, by simp, Nat.zero_le _, M1, [], [], [], gr_list (.refl g1.mh) hL hML, hML, upd_same, Nat.le_refl _, (show Owns G M1 _ (([] : List β).map et) [] [] from ⟨rfl, rfl⟩), List.nodup_nil, (fun _ z => nomatch z), k⟩, ?_⟩
  rintro i m H2 ⟨rfl, hi2, M2, ys, acc, as, g2, hM2, hH2, hl, ow, nd, fr, k⟩
  obtain ⟨i1, i2⟩ := it M2 H2 i g2.mm g2.mh
  by_cases hlt : i < xs.length
  · have ex : xs[i]? = some xs[i] := List.getElem?_eq_getElem hlt
    obtain ⟨go, yl⟩ := i1 (ei xs[i]) (by rw [List.getElem?_map, ex]; rfl)
    rw [List.drop_eq_getElem_cons hlt] at k
    have k := (Po.bind (m := noErr (cf xs[i])) k)
    refine .inr ⟨go, fun H' => ∃ M3 ys acc as, Gr M1 H1 M3 H' ∧ M3 L = none ∧ H' L = some (.lst acc) ∧ acc.length ≤ i + 1 ∧ Owns G M3 H' (ys.map et) acc as ∧ as.Nodup ∧ (∀ a ∈ as, H1 a = none ∧ M3 a = none ∧ a ≠ L) ∧
      Po (lcR cf f (xs.drop (i + 1))) (fun zs => WF G M H (.lst ((ys ++ zs).map et)) Q) E, fun H' q => ⟨xs.length - (i + 1), by omega, rfl, hlt, q⟩, fun x H' y => ?_⟩
    obtain ⟨M3, g3, r3⟩ := yl x H' y
    have g13 := g2.trans g3
    have st3 := ((st.grow g1).grow g13).wipe (own.map (·.2))
    refine hg xs[i] F M0 M3 H' _ x _ st3 rfl r3 fun M4 H4 σ4 g4 s4 ew => ⟨ew, ?_⟩
    refine ht xs[i] F M0 M4 H4 σ4 _ s4 (k.noErr.imp (fun b _ k M5 H5 g5 => ?_) fun _ z => z)
    have g25 := (g3.trans g4).trans g5
    have hH5 : H5 L = some (.lst acc) := g25.hh _ _ hH2
    have hM5 : M5 L = none := gr_keepNone g25 hM2 (by rw [hH2]; exact fun z => nomatch z)
    have ow5 := Owns.keep g25.mm _ _ _ (fun a _ o e => g25.hh a o e) ow
    have fr5 : ∀ a ∈ as, H1 a = none ∧ M5 a = none ∧ a ≠ L := fun a ha => ⟨(fr a ha).1, gr_keepNone g25 (fr a ha).2.1 (Owns.there _ _ _ ow a ha), (fr a ha).2.2⟩
    cases b with
    | false =>
      rw [if_neg Bool.false_ne_true] at k
      exact ⟨M5, ys, acc, as, g2.trans g25, hM5, hH5, by omega, ow5, nd, fr5, k⟩
    | true =>
      rw [if_pos rfl] at k
      have k := (Po.bind (m := noErr (f xs[i])) k)
      rw [if_pos rfl]
      refine he xs[i] F M0 M5 H5 σ4 _ (s4.grow g5) (k.noErr.imp (fun y _ k v M6 H6 bs g6 o6 nd6 fr6 => ?_) fun _ z => z)
      have hH6 : H6 L = some (.lst acc) := g6.hh _ _ hH5
      have hM6 : M6 L = none := gr_keepNone g6 hM5 (by rw [hH5]; exact fun z => nomatch z)
      have bL : ∀ a ∈ bs, a ≠ L := fun a ha z => by
        have := (fr6 a ha).1
        rw [z, hH5] at this; cases this
      refine ⟨acc, hH6, Nat.lt_of_lt_of_le (Nat.lt_of_le_of_lt hl hlt) (by rw [sizeLine_eq]; exact hz), M6, ys ++ [y], acc ++ [v], as ++ bs, gr_list ((g2.trans g25).trans g6) hL hM6, hM6, upd_same, by rw [List.length_append, List.length_singleton]; omega, ?_, ?_, fun a ha => ?_, ?_⟩
      · rw [List.map_append]
        refine Owns.app (Owns.keep g6.mm _ _ _ (fun a ha o e => by rw [upd_ne (fr5 a ha).2.2]; exact g6.hh a o e) ow5) ?_
        exact ⟨v, [], bs, [], rfl, by simp, Own.keep (.refl _) _ _ _ (fun a ha o e => by rw [upd_ne (bL a ha)]; exact e) o6, ⟨rfl, rfl⟩⟩
      · rw [List.nodup_append]
        refine ⟨nd, nd6, fun a ha b hb e => ?_⟩
        subst e
        exact Owns.there _ _ _ ow5 a ha (fr6 a hb).1
      · rcases List.mem_append.mp ha with z | z
        · exact ⟨(fr5 a z).1, gr_keepNone g6 (fr5 a z).2.1 (Owns.there _ _ _ ow5 a z), (fr5 a z).2.2⟩
        · exact ⟨(g2.trans g25).hh.free (fr6 a z).1, (fr6 a z).2, bL a z⟩
      · refine k.bind.imp (fun zs _ k => ?_) fun _ z => z
        have k : WF G M H (.lst ((ys ++ (y :: zs)).map et)) Q := k
        rw [List.append_assoc]
        exact k
  · have e : xs.drop i = [] := List.drop_eq_nil_of_le (by omega)
    rw [e] at k
    have k : WF G M H (.lst ((ys ++ []).map et)) Q := k
    rw [List.append_nil] at k
    refine .inl ⟨i2 (by rw [List.length_map]; omega), k (.ref L) M2 H2 (L :: as) (g1.trans g2) ⟨L, acc, as, rfl, rfl, hH2, ow⟩ ?_ fun a ha => ?_⟩
    · rw [List.nodup_cons]
      exact ⟨fun z => (fr L z).2.2 rfl, nd⟩
    · rcases List.mem_cons.mp ha with z | z
      · rw [z]; exact ⟨hHL, hM2⟩
      · exact ⟨g1.hh.free (fr a z).1, (fr a z).2.1⟩
/-- a target of names alone -/
def DGc (X : Cx) (vs : List Nat) (Γ : List Sl) (tg : Expr) (put : List Sl) (d : D) : Prop := ∀ F M0 M H σ v Q, S X.G F M0 M H σ Γ → Rep X.G M d v → (∀ σ', S X.G F M0 M H σ' put → wipe σ' vs = wipe σ vs → Q σ' H) → wG X tg v σ H Q
theorem wipe_set {x : Option V} {i : Nat} : ∀ {vs : List Nat} {σ : St}, i ∈ vs → wipe (σ.set i x) vs = wipe σ vs
  | [], σ, h => nomatch h
  | v :: vs, σ, h => by
    show (wipe (σ.set i x) vs).set v none = (wipe σ vs).set v none
    by_cases hv : i ∈ vs
    · rw [wipe_set hv]
    · have e : i = v := by
        rcases List.mem_cons.mp h with z | z
        · exact z
        · exact absurd z hv
      subst e
      have key : ∀ (vs : List Nat) (σ : St), i ∉ vs → wipe (σ.set i x) vs = (wipe σ vs).set i x := by
        intro vs
        induction vs with
        | nil => intro σ _; rfl
        | cons w ws ih =>
          intro σ hw
          show (wipe (σ.set i x) ws).set w none = ((wipe σ ws).set w none).set i x
          rw [ih σ (fun z => hw (List.mem_cons_of_mem _ z)), List.set_comm _ _ (fun z => hw (by rw [z]; exact List.mem_cons_self))]
      rw [key vs σ hv, List.set_set]
theorem wipe_idem {σ : St} : ∀ {vs : List Nat}, wipe (wipe σ vs) vs = wipe σ vs
  | [] => rfl
  | v :: vs => by
    show (wipe ((wipe σ vs).set v none) vs).set v none = (wipe σ vs).set v none
    by_cases hv : v ∈ vs
    · rw [wipe_set hv, wipe_idem]
    · have key : ∀ (vs : List Nat) (σ : St), v ∉ vs → wipe (σ.set v none) vs = (wipe σ vs).set v none := by
        intro vs
        induction vs with
        | nil => intro σ _; rfl
        | cons w ws ih =>
          intro σ hw
          show (wipe (σ.set v none) ws).set w none = ((wipe σ ws).set w none).set v none
          rw [ih σ (fun z => hw (List.mem_cons_of_mem _ z)), List.set_comm _ _ (fun z => hw (by rw [z]; exact List.mem_cons_self))]
      rw [key vs _ hv, List.set_set, wipe_idem]
theorem dgc_name {n : Str} {d : D} {vs : List Nat} (i : Nat) (hN : X.N.Nodup) (hi : X.N[i]? = some n := by rfl) (hl : Nat.blt i Γ.length = true := by rfl) (hx : Loc X.env.scope n := by first | exact Or.inl rfl | exact Or.inr rfl) (hf : X.fn n = true ∨ X.env.scope.names.lookup n = some .local := by first | exact .inl rfl | exact .inr rfl) (hv : i ∈ vs := by decide) :
    DGc X vs Γ (.Name n pos) (Γ.set i (.ow (.imm d))) d := fun F M0 M H σ v Q s r q pins sh u I rv => by
  have p := pg_name (pos := pos) hN hi hx hf
  exact p.run pins sh σ H v u Q I rv (q _ (s.put (.refl s.mh) (show Own X.G M H (.imm d) v [] from ⟨rfl, r⟩) List.nodup_nil (fun _ z => nomatch z) (Nat.le_of_ble_eq_true hl)) (wipe_set hv))
def DGcs (X : Cx) (ws : List Nat) (Γ : List Sl) (tgs : List Expr) (put : List Sl) (ds : List D) : Prop := ∃ g, PGs X tgs g ∧ ∀ F M0 M H σ vs Q, S X.G F M0 M H σ Γ → Reps X.G M ds vs → (∀ σ', S X.G F M0 M H σ' put → wipe σ' ws = wipe σ ws → Q σ' H) → g vs σ H Q
theorem dgcs_nil {ws : List Nat} : DGcs X ws Γ [] Γ [] := ⟨_, pgs_nil, fun F M0 M H σ vs Q s r q => ⟨r, q σ s rfl⟩⟩
theorem dgcs_cons {ws : List Nat} {tgs : List Expr} {Γ1 put : List Sl} {d : D} {ds : List D} (h : DGc X ws Γ tg Γ1 d) (k : DGcs X ws Γ1 tgs put ds) (hs : (assignEach (tg :: tgs) X.env).map (·.2) = assign tg X.env :: (assignEach tgs X.env).map (·.2) := by rfl) : DGcs X ws Γ (tg :: tgs) put (d :: ds) := by
  obtain ⟨g, pg, hg⟩ := k
  refine ⟨_, pgs_cons (pg_w X tg) pg hs, fun F M0 M H σ vs Q s r q => ?_⟩
  obtain ⟨v, r', rfl, h1, h2⟩ := r
  exact ⟨v, r', rfl, h F M0 M H σ v _ s h1 fun σ1 s1 e1 => hg F M0 M H σ1 r' Q s1 h2 fun σ2 s2 e2 => q σ2 s2 (e2.trans e1)⟩
theorem dgc_tup {ws : List Nat} {tgs : List Expr} {put : List Sl} {ds : List D} {k : Nat} (hc : X.calm = true) (h : DGcs X ws Γ tgs put ds) (hn : (assignEach tgs X.env).length = ds.length := by rfl) (hst : (assignEach tgs X.env).findIdx? (·.1) = none := by rfl) : DGc X ws Γ (.Tuple tgs k pos) put (.tup ds) := by
  obtain ⟨g, pg, hg⟩ := h
  intro F M0 M H σ v Q s r q pins sh u I rv
  obtain ⟨a, vs, rfl, h1, h2⟩ := r
  exact (pg_tup (pos := pos) (k := k) hc pg hn hst).run pins sh σ H _ u Q I rv ⟨a, vs, rfl, same_sqt s.mh h1, by rw [h2.len], hg F M0 M H σ vs Q s h2 q⟩
theorem df_lc {scope : Scope} {ifs : List Expr} {et : β → T} {ei : α → D} {cf : α → R Bool} {f : α → R β} {mi : R (List α)} {put : α → List Sl} (own : List (Str × Nat)) (hc : X.calm = true) (hN : X.N.Nodup) (hi : DI X W Γ tg iter (fun xs => xs.map ei) mi) (hw : Wk Γ Γ)
    (hg : ∀ s H C cl fp x, DGc (blkX X scope s H C cl fp) (own.map (·.2)) (wipeΓ Γ (own.map (·.2))) tg (put x) (ei x))
    (ht : ∀ s H C cl fp x, DTs (blkX X scope s H C cl fp) (put x) ifs (cf x)) (he : ∀ s H C cl fp x, DF (blkX X scope s H C cl fp) wNo (put x) elt et (f x))
    (N' : List Str) (sc' : Scope) (hn1 : X.N = N' := by rfl) (hn2 : X.env.scope = sc' := by rfl) (ok : blkC N' sc' scope own = true := by decide +kernel) (hs : ∀ x, foldedSetIterable iter X.env x = pure x := by intro _; rfl) :
    DF X W Γ (.ListComp elt [⟨tg, iter, ifs, 0⟩] scope pos) (fun ys => .lst (ys.map et)) (mi >>= fun xs => compR cf f xs) :=
  dmk ⟨_, pe_lc (own := own) (g := fun v σ H Q => ∀ s Hh C cl fp, wG (blkX X scope s Hh C cl fp) tg v σ H Q) (tt := fun σ H Q => ∀ s Hh C cl fp, wTs (blkX X scope s Hh C cl fp) ifs σ H Q) (te := fun σ H Q => ∀ s Hh C cl fp, wE (blkX X scope s Hh C cl fp) elt σ H Q) hc hN (pi_w X iter tg) (blkOk_by (by rw [hn1, hn2]; exact ok))
    (fun s Hh C cl fp => ⟨fun pins sh σ H v u Q I r h => h s Hh C cl fp pins sh u I r⟩) (fun s Hh C cl fp => ⟨fun pins sh σ H Q I h => h s Hh C cl fp pins sh I⟩) (fun s Hh C cl fp => ⟨fun pins sh σ H Q I h => h s Hh C cl fp pins sh I⟩) hs,
    fun F M0 M H σ Q st po => lc_reads (put := put) (E := fun c => ∀ M' H', Gr M H M' H' → Er X.G W c σ H') st (fun R po => hi F M0 M H σ R st po)
      (fun x F M0 M H σ' v Q s e r q s0 Hh C cl fp => hg s0 Hh C cl fp x F M0 M H σ' v Q s r fun σ2 s2 e2 => q M H σ2 (.refl s.mh) s2 (by rw [e2, e, wipe_idem]))
      (fun x F M0 M H σ' Q s po s0 Hh C cl fp => by
        obtain ⟨tt, pt, qt⟩ := ht s0 Hh C cl fp x
        exact fun pins sh I => pt.run pins sh σ' H Q I (qt F M0 M H σ' Q s po))
      (fun x F M0 M H σ' Q s po s0 Hh C cl fp => he s0 Hh C cl fp x F M0 M H σ' Q s (po.imp (fun _ _ k => k) fun _ z => z.elim)) po⟩
theorem st_setLc {n : Str} {py pos2 : Pos} {scope : Scope} {ifs : List Expr} {et : β → T} {ei : α → D} {cf : α → R Bool} {f : α → R β} {mi : R (List α)} {put : α → List Sl} (i : Nat) (own : List (Str × Nat)) (hc : X.calm = true) (hN : X.N.Nodup) (hi : DI X W Γ tg iter (fun xs => xs.map ei) mi)
    (hg : ∀ s H C cl fp x, DGc (blkX X scope s H C cl fp) (own.map (·.2)) (wipeΓ Γ (own.map (·.2))) tg (put x) (ei x))
    (ht : ∀ s H C cl fp x, DTs (blkX X scope s H C cl fp) (put x) ifs (cf x)) (he : ∀ s H C cl fp x, DF (blkX X scope s H C cl fp) wNo (put x) elt et (f x)) (hw : Wk Γe Γ)
    (N' : List Str) (sc' : Scope) (hn1 : X.N = N' := by rfl) (hn2 : X.env.scope = sc' := by rfl) (ok : blkC N' sc' scope own = true := by decide +kernel) (hs : ∀ x, foldedSetIterable iter X.env x = pure x := by intro _; rfl)
    (hy : X.N[i]? = some n := by rfl) (hyl : X.env.scope.names.lookup n = some .local := by rfl) (hl : Nat.blt i Γ.length = true := by rfl) (hsw : swapsWith (.ListComp elt [⟨tg, iter, ifs, 0⟩] scope pos2) (some (.Name n py)) pos.line X.env = pure true := by exact sw_true rfl rfl rfl (by decide +kernel)) :
    St1 X W Γe Γ (.Assign [.Name n py] (.ListComp elt [⟨tg, iter, ifs, 0⟩] scope pos2) pos) (fun ys => .n (Γ.set i (.ow (.lst (ys.map et))))) (mi >>= fun xs => compR cf f xs) :=
  smk ⟨_, ps_setLc (own := own) (i := i) (g := fun v σ H Q => ∀ s Hh C cl fp, wG (blkX X scope s Hh C cl fp) tg v σ H Q) (tt := fun σ H Q => ∀ s Hh C cl fp, wTs (blkX X scope s Hh C cl fp) ifs σ H Q) (te := fun σ H Q => ∀ s Hh C cl fp, wE (blkX X scope s Hh C cl fp) elt σ H Q) hc hN hy hyl hsw (pi_w X iter tg) (blkOk_by (by rw [hn1, hn2]; exact ok))
    (fun s Hh C cl fp => ⟨fun pins sh σ H v u Q I r h => h s Hh C cl fp pins sh u I r⟩) (fun s Hh C cl fp => ⟨fun pins sh σ H Q I h => h s Hh C cl fp pins sh I⟩) (fun s Hh C cl fp => ⟨fun pins sh σ H Q I h => h s Hh C cl fp pins sh I⟩) hs,
    fun F M0 M H σ D st po => lc_reads (put := put) (E := fun c => ∀ M' H', Gr M H M' H' → Er X.G W c σ H') (Q := fun x H1 => gName i x σ H1 D.nx) st (fun R po => hi F M0 M H σ R st po)
      (fun x F M0 M H σ' v Q s e r q s0 Hh C cl fp => hg s0 Hh C cl fp x F M0 M H σ' v Q s r fun σ2 s2 e2 => q M H σ2 (.refl s.mh) s2 (by rw [e2, e, wipe_idem]))
      (fun x F M0 M H σ' Q s po s0 Hh C cl fp => by
        obtain ⟨tt, pt, qt⟩ := ht s0 Hh C cl fp x
        exact fun pins sh I => pt.run pins sh σ' H Q I (qt F M0 M H σ' Q s po))
      (fun x F M0 M H σ' Q s po s0 Hh C cl fp => he s0 Hh C cl fp x F M0 M H σ' Q s (po.imp (fun _ _ k => k) fun _ z => z.elim))
      (po.imp (fun ys _ k v M' H' as g o nd fr => Kn.nx k _ rfl M' H' _ (st.put g o nd fr (Nat.le_of_ble_eq_true hl))) fun c z => er_wk st hw z)⟩
end
end Cn
/-! Cn7: equality of data, isinstance, exceptions, the end -/
namespace Cn
open PySem PySem.Spec L2
mutual
def toPy : D → PyData
  | .any => .dict []
  | .val _ => .dict []
  | .non => .none
  | .bl b => .bool b
  | .int i => .int i
  | .str s => .str s
  | .tup ds => .tuple (toPys ds)
  | .lst ds => .list (toPys ds)
  | .frl ds => .list (toPys ds)
  | .dic _ _ => .dict []
  | .dit _ _ => .dict []
  | .obj _ _ _ => .dict []
def toPys : List D → List PyData
  | [] => []
  | d :: ds => toPy d :: toPys ds
end
section
variable {G : Ctx} {M H : Hp}
mutual
theorem Rep.dp (mh : Same M H) : ∀ (d : D) (v : V), PyData.canLay0 (toPy d) = true → Rep G M d v → Dp G.K H v (toPy d)
  | .any, v, h, r => nomatch h
  | .val _, v, h, r => nomatch h
  | .non, v, h, r => by rw [show v = .non from r]; exact .non
  | .bl b, v, h, r => by rw [show v = .bl b from r]; exact .bl b
  | .int b, v, h, r => by rw [show v = .int b from r]; exact .int b
  | .str b, v, h, r => by rw [show v = .str b from r]; exact .str b
  | .tup ds, v, h, ⟨a, vs, h1, h2, h3⟩ => by rw [h1]; exact .tup (same_sqt mh h2) (Reps.dp mh ds vs h h3)
  | .lst ds, v, h, ⟨a, vs, h1, h2, h3⟩ => by rw [h1]; exact .lst (.of (mh _ _ h2)) (Reps.dp mh ds vs h h3)
  | .frl ds, v, h, ⟨a, vs, h1, h2, h3⟩ => by rw [h1]; exact .lst (mh.seq h2) (Reps.dp mh ds vs h h3)
  | .dic _ _, v, h, r => nomatch h
  | .dit _ _, v, h, r => nomatch h
  | .obj _ _ _, v, h, r => nomatch h
theorem Reps.dp (mh : Same M H) : ∀ (ds : List D) (vs : List V), PyData.canLayAll0 (toPys ds) = true → Reps G M ds vs → DpAll G.K H vs (toPys ds)
  | [], vs, h, r => by rw [show vs = [] from r]; exact .nil
  | d :: ds, vs, h, ⟨v, r, h1, h2, h3⟩ => by
    rw [h1]
    have h : (PyData.canLay0 (toPy d) && PyData.canLayAll0 (toPys ds)) = true := h
    rw [Bool.and_eq_true] at h
    exact .cons (Rep.dp mh d v h.1 h2) (Reps.dp mh ds r h.2 h3)
end
end
def eqO (d e : D) : Option Bool := if SeqAt.shaped (toPy d) && SeqAt.shaped (toPy e) then some (PyData.eqv (toPy d) (toPy e)) else none
def neO (d e : D) : Option Bool := (eqO d e).map (!·)
section
variable {X : Cx} {W : WX} {Γe Γ Γt : List Sl} {a b e c tg elt iter : Expr} {es : List Expr} {α β γ ω ω1 : Type} {pos : Pos} {s : Stmt} {rest ss A B : List Stmt}
/-- a value that is compared as data -/
abbrev DE (X : Cx) (W : WX) (Γ : List Sl) (e : Expr) {α : Type} (emb : α → D) (m : R α) : Prop :=
  JQ X Γ (wE X e) fun F M0 M H σ Q => Po m (fun x => ∀ v M' H', Gr M H M' H' → (∀ H'', Same H' H'' → PyData.canLay0 (toPy (emb x)) = true → Dp X.K H'' v (toPy (emb x))) → Q v H') (fun c => ∀ M' H', Gr M H M' H' → Er X.G W c σ H')
theorem de_dd {emb : α → D} {m : R α} (h : DD X W Γ e emb m) : DE X W Γ e emb m := ⟨fun F M0 M H σ Q s po => h F M0 M H σ Q s (po.imp (fun x _ k v M' H' g r => k v M' H' g fun H'' s2 c => Rep.dp (G := X.G) (g.mh.trans s2) _ _ c r) fun _ z => z)⟩
theorem de_dl {ei : β → D} {m : R (List β)} (h : DL X W Γ e (fun xs => xs.map ei) m) : DE X W Γ e (fun xs => .lst (xs.map ei)) m := ⟨fun F M0 M H σ Q s po => h F M0 M H σ Q s (po.imp (fun x _ k a vs M' H' g hl r => k _ M' H' g fun H'' s2 c => .lst (s2.seq hl) (Reps.dp (G := X.G) (g.mh.trans s2) _ _ c r)) fun _ z => z)⟩
theorem eqO_some {d e : D} {k : Bool} (h : eqO d e = some k) : SeqAt.shaped (toPy d) = true ∧ SeqAt.shaped (toPy e) = true ∧ k = PyData.eqv (toPy d) (toPy e) := by
  unfold eqO at h
  cases c : (SeqAt.shaped (toPy d) && SeqAt.shaped (toPy e)) with
  | false => rw [c] at h; cases h
  | true =>
    rw [c] at h
    rw [Bool.and_eq_true] at c
    exact ⟨c.1, c.2, (Option.some.inj h).symm⟩
theorem two_eq {neg : Bool} {r : R2} {ea : α → D} {eb : β → D} {ma : R α} {mb : R β} {F M0 M H : Hp} {σ : St} {Q : VK} (hr : ∀ x y d e H Q, Dp X.K H x d → Dp X.K H y e → SeqAt.shaped d = true → SeqAt.shaped e = true → Q (.bl (neg != PyData.eqv d e)) H → r x y H Q) (ha : DE X W Γ a ea ma) (hb : DE X W Γ b eb mb) (s : S X.G F M0 M H σ Γ)
    (po : Po (ma >>= fun x => mb >>= fun y => ofO ((eqO (ea x) (eb y)).map (neg != ·))) (fun x => WD X.G M H (.bl x) Q) (fun c => ∀ M' H', Gr M H M' H' → Er X.G W c σ H')) : tOp r (wE X a) (wE X b) σ H Q := by
  refine ha F M0 M H σ _ s (po.bind.imp (fun x _ k v M1 H1 g1 p1 => ?_) fun _ z => z)
  refine hb F M0 M1 H1 σ _ (s.grow g1) (k.bind.imp (fun y _ k w M2 H2 g2 p2 => ?_) fun c z M' H' g => z M' H' (g1.trans g))
  obtain ⟨z, e, k⟩ := k.ofO
  cases q : eqO (ea x) (eb y) with
  | none => rw [q] at e; cases e
  | some k' =>
    rw [q] at e
    cases e
    obtain ⟨s1, s2, rfl⟩ := eqO_some q
    exact hr v w _ _ H2 _ (p1 H2 g2.hh (SeqAt.canLay_of_shaped s1)) (p2 H2 (.refl _) (SeqAt.canLay_of_shaped s2)) s1 s2 (k _ M2 H2 (g1.trans g2) rfl)
theorem dd_eq {ea : α → D} {eb : β → D} {ma : R α} {mb : R β} (hu : X.A.units + 64 < cLine) (ha : DE X W Γ a ea ma) (hb : DE X W Γ b eb mb) : DD X W Γ (.Compare a [.Eq] [b] pos) D.bl (ma >>= fun x => mb >>= fun y => ofO ((eqO (ea x) (eb y)).map (false != ·))) :=
  dmk ⟨_, pe_cmpR (op_eqD hu) (pe_w X a) (pe_w X b) (nomark _), fun F M0 M H σ Q s po => two_eq (neg := false) (fun x y d e H Q h1 h2 h3 h4 q => ⟨d, e, h1, h2, h3, h4, by rw [Bool.false_bne] at q; exact q⟩) ha hb s po⟩
theorem dd_ne {ea : α → D} {eb : β → D} {ma : R α} {mb : R β} (hu : X.A.units + 64 < cLine) (ha : DE X W Γ a ea ma) (hb : DE X W Γ b eb mb) : DD X W Γ (.Compare a [.NotEq] [b] pos) D.bl (ma >>= fun x => mb >>= fun y => ofO ((eqO (ea x) (eb y)).map (true != ·))) :=
  dmk ⟨_, pe_cmpR (op_neD hu) (pe_w X a) (pe_w X b) (nomark _), fun F M0 M H σ Q s po => two_eq (neg := true) (fun x y d e H Q h1 h2 h3 h4 q => ⟨d, e, h1, h2, h3, h4, by rw [Bool.true_bne] at q; exact q⟩) ha hb s po⟩
theorem dt_eq {ea : α → D} {eb : β → D} {ma : R α} {mb : R β} (hu : X.A.units + 64 < cLine) (ha : DE X W Γ a ea ma) (hb : DE X W Γ b eb mb) : DT X W Γ (.Compare a [.Eq] [b] pos) (ma >>= fun x => mb >>= fun y => ofO ((eqO (ea x) (eb y)).map (false != ·))) :=
  tmk ⟨_, pt_cmpR (op_eqD hu) (pe_w X a) (pe_w X b) (nomark _), fun F M0 M H σ Q s po => two_eq (neg := false) (fun x y d e H Q h1 h2 h3 h4 q => ⟨d, e, h1, h2, h3, h4, by rw [Bool.false_bne] at q; exact q⟩) ha hb s (po.imp (fun x _ k v M' H' g q => ⟨x, q, k M' H' g⟩) fun _ z => z)⟩
theorem dt_ne {ea : α → D} {eb : β → D} {ma : R α} {mb : R β} (hu : X.A.units + 64 < cLine) (ha : DE X W Γ a ea ma) (hb : DE X W Γ b eb mb) : DT X W Γ (.Compare a [.NotEq] [b] pos) (ma >>= fun x => mb >>= fun y => ofO ((eqO (ea x) (eb y)).map (true != ·))) :=
  tmk ⟨_, pt_cmpR (op_neD hu) (pe_w X a) (pe_w X b) (nomark _), fun F M0 M H σ Q s po => two_eq (neg := true) (fun x y d e H Q h1 h2 h3 h4 q => ⟨d, e, h1, h2, h3, h4, by rw [Bool.true_bne] at q; exact q⟩) ha hb s (po.imp (fun x _ k v M' H' g q => ⟨x, q, k M' H' g⟩) fun _ z => z)⟩
/-! ### isinstance of data -/
def tyD : D → Option String
  | .non => some "NoneType"
  | .bl _ => some "bool"
  | .int _ => some "int"
  | .str _ => some "str"
  | .tup _ => some "tuple"
  | .lst _ => some "list"
  | .frl _ => some "list"
  | .dic _ _ => some "dict"
  | .dit _ _ => some "dict"
  | _ => none
theorem tyX_of {G : Ctx} {M H : Hp} {d : D} {v : V} {t : String} (mh : Same M H) (r : Rep G M d v) (h : tyD d = some t) : TyX G.K H v (.type t) := by
  cases d with
  | any => cases h
  | val _ => cases h
  | non => cases h; rw [show v = .non from r]; exact .base .non
  | bl b => cases h; rw [show v = .bl b from r]; exact .base (.bl b)
  | int b => cases h; rw [show v = .int b from r]; exact .base (.int b)
  | str b => cases h; rw [show v = .str b from r]; exact .base (.str b)
  | tup ds =>
    cases h
    obtain ⟨a, vs, rfl, h2, h3⟩ := r
    rcases h2 with (h2 | ⟨o, h2⟩) | ⟨o, its, n, k, c, _⟩
    · exact .base (.tup (mh _ _ h2))
    · exact .fTuple (mh _ _ h2)
    · exact .kTuple k c
  | lst ds =>
    cases h
    obtain ⟨a, vs, rfl, h2, h3⟩ := r
    exact .base (.lst (mh _ _ h2))
  | frl ds =>
    cases h
    obtain ⟨a, vs, rfl, h2, h3⟩ := r
    rcases h2 with (h2 | ⟨o, h2⟩) | ⟨o, its, n, k, c, _⟩
    · exact .base (.lst (mh _ _ h2))
    · exact .base (.frz (mh _ _ h2))
    · exact .kList k c
  | dic ks ds =>
    cases h
    obtain ⟨a, vs, rfl, h2, h3⟩ := r
    exact .base (.dK (mh _ _ h2))
  | dit ks ds =>
    cases h
    obtain ⟨a, vs, rfl, h2, h3⟩ := r
    exact .base (.dT (mh _ _ h2))
  | obj C fs ds => cases h
theorem dd_isi {emb : α → D} {m : R α} {n : Str} {t u : String} {k : Bool} {p p2 : Pos} (h : DD X W Γ e emb m) (hm : X.mg "isinstance" = none) (hn : X.mg n = none) (hv : bootBuiltins n = some (.type u)) (ht : ∀ x, tyD (emb x) = some t) (hk : kitB t u = some k) (hg : Gl X "isinstance" := by rfl) (hgn : Gl X n := by rfl)
    (hnn : n ≠ "__name__" := by decide) (hd : (n == ("__debug__" : Str)) = false := by decide) (hs : starEach [e, .Name n p2] X.env = (false, eval e X.env) :: starEach [.Name n p2] X.env := by exact star_cons rfl) (hs2 : starEach [Expr.Name n p2] X.env = (false, eval (.Name n p2) X.env) :: starEach [] X.env := by exact star_cons rfl) (hpl : (backTo pos (starEach [Expr.Name n p2] X.env)).any (·.1) = false := by exact star_none rfl) :
    DD X W Γ (.Call (.Name "isinstance" p) [e, .Name n p2] [] pos) D.bl (m >>= fun _ => .ok k) :=
  dmk ⟨_, pe_callB call_isi hg hm (by decide +kernel) (pa_cons (pe_w X e) (pa_cons (pe_bltn (v := .ty u) hgn hn hv rfl hnn hd) pa_nil (hs := hs2)) (hs := hs)) (he := hs) (hpl := hpl), fun F M0 M H σ Q s po => h F M0 M H σ _ s (po.bind.imp (fun x _ q v M1 H1 g1 r1 =>
    ⟨v, .ty u, .type t, .type u, k, rfl, .ty u, tyX_of (G := X.G) g1.mh r1 (ht x), kit_ty hk, q _ M1 H1 g1 rfl⟩) fun _ z => z)⟩
/-! ### exceptions -/
structure XcF (K : PySem.W.Frag) (mg : Str → Option Value) (c : Str) (C : Addr) : Prop where
  g : mg c = some (.ref C)
  x : PySem.W.excIn K C [.type "ValueError", .type "Exception", .type "BaseException", .type "object"] "ValueError.__new__" = true
  k : PySem.W.keepIn K (.ref C) = true
  b : PySem.W.subIn K (.ref C) (.type "BaseException") = some true
  t : PySem.W.typeIn K (.ref C) = some (.type "type")
theorem bk_raise {n m : Str} {C : Addr} {j : Nat} {p p2 pos2 : Pos} {κ : ω → Kd} (f : XcF X.K X.mg n C) (hc : X.calm = true) (tk : Takes X W) (hw : Wk Γe Γ) (hg : Gl X n := by rfl) (hd : (n == ("__debug__" : Str)) = false := by decide) :
    Bk X W Γe Γ (.Raise (some (.Call (.Name n p) [.Constant (.str m) j p2] [] pos)) none pos2 :: rest) κ (.err n) :=
  bmk ⟨_, pss_cons (ps_raise hc tk (pmk_own PySem.F.excBase_ValueError f.x f.g f.k (raises_own f.b f.t) hg hd)) (pss_w X rest), fun F M0 M H σ D s po => (po : ∀ M' H' σ', S X.G F M0 M' H' σ' Γe → Er X.G W n σ' H') M H σ (s.wk hw) C f.g⟩
def catchR {ω : Type} (tbl : Str → Option Bool) (m : R ω) (h : Str → R ω) : R ω :=
  match m with
  | .err c => match tbl c with
    | none => .bad
    | some true => noErr (h c)
    | some false => .err c
  | m => m
theorem st_try {x : Str} {cv : Value} {tbl : Str → Option Bool} {mb : R ω} {hm : Str → R ω} {κ : ω → Kd} {b₀ : Stmt} {suite : List Stmt} {np pos' : Pos} (hc : Names X x cv) (tk : Takes X W)
    (hb : ∀ (W' : WX) (pn : List (Addr × Obj)) (xe : Value → Shared → Prop), Takes (X.tr pn xe) W' → PassesOwn (model X.prog X.w) X.A X.env xe → Bk (X.tr pn xe) W' Γt Γ A κ mb)
    (ht : ∀ k b a, tbl k = some b → X.mg k = some (.ref a) → PySem.W.exmOne X.K (.ref a) cv = some b)
    (hsu : ∀ k D, tbl k = some true → X.mg k = some (.ref D) → ∀ (a : Addr) (oe : Obj) (pn : List (Addr × Obj)), Zc (.ref D) none oe → (∃ vs, oe.data = .fields vs) → Bk (X.suite a ((a, oe) :: pn)) wNo Γe Γt (b₀ :: suite) κ (hm k)) (hw : Wk Γe Γt)
    (hs : X.stack = X.env :: X.outer := by rfl) (hf : X.env.frame = some X.env.locals := by rfl) :
    St1 X W Γe Γ (.Try A [.ExceptHandler (some (.Name x np)) none (b₀ :: suite) pos'] [] [] pos) κ (catchR tbl mb hm) :=
  smk ⟨_, ps_try_only (tb := fun W' D σ H => ∀ pn xe, Takes (X.tr pn xe) W' → PassesOwn (model X.prog X.w) X.A X.env xe → wSs (X.tr pn xe) A D σ H) (ts := fun a cls d D σ H => ∀ oe pn, Zc cls d oe → (∃ vs, oe.data = .fields vs) → wSs (X.suite a ((a, oe) :: pn)) (b₀ :: suite) D σ H) (Wout := W) hs hf hc tk
      (fun W' pn xe t p => ⟨fun pins s σ H D I h => h pn xe t p pins s I⟩) (fun a oe cls d pn z v => ⟨fun pins s σ H D I h => h oe pn z v pins s I⟩), fun F M0 M H σ D st po pn xe t p => by
    refine hb _ pn xe t p F M0 M H σ D st ?_
    cases mb with
    | bad => exact po
    | ok o => exact po
    | err k =>
      show ∀ M' H' σ', S X.G F M0 M' H' σ' Γt → Er X.G _ k σ' H'
      intro M' H' σ' st' a ha
      have po : Po (match tbl k with
        | none => R.bad
        | some true => noErr (hm k)
        | some false => R.err k) _ _ := po
      cases e : tbl k with
      | none => rw [e] at po; exact po.elim
      | some b =>
        rw [e] at po
        refine ⟨b, ht k b a e ha, fun eb a' na oe pn z v => ?_, fun eb => ?_⟩
        · subst eb
          exact hsu k a e ha a' oe pn z v F M0 M' H' σ' D st' ((Po.noErr po).imp (fun _ _ q => q) fun _ z => z.elim)
        · subst eb
          exact (po : ∀ M' H' σ', S X.G F M0 M' H' σ' Γe → Er X.G W k σ' H') M' H' σ' (st'.wk hw) a ha⟩
/-- .. except X as n: slot i is n's -/
theorem S.pin {G : Ctx} {F M0 M H : Hp} {σ : St} {v : V} {i : Nat} (s : S G F M0 M H σ Γ) (hi : i < Γ.length) : S G F M0 M H (σ.set i (some v)) (Γ.set i (.pn v (.imm .any))) := by
  obtain ⟨as, f, sa⟩ := s
  obtain ⟨bs, sb, sub⟩ : ∃ bs, Sat G F M H (Γ.set i (.pn v (.imm .any))) (σ.set i (some v)) bs ∧ bs.Sublist as := by
    clear f
    induction Γ generalizing σ as i with
    | nil => exact absurd hi (Nat.not_lt_zero _)
    | cons x Γ ih =>
      cases i with
      | zero =>
        cases x with
        | un => obtain ⟨x, r, h1, h2⟩ := sa; rw [h1]; exact ⟨as, ⟨r, [], as, rfl, rfl, ⟨rfl, trivial⟩, h2⟩, .refl _⟩
        | ow t => obtain ⟨w, r, a1, a2, h1, h2, h3, h4⟩ := sa; rw [h1]; exact ⟨a2, ⟨r, [], a2, rfl, rfl, ⟨rfl, trivial⟩, h4⟩, by rw [h2]; exact List.sublist_append_right _ _⟩
        | pn w t => obtain ⟨r, a1, a2, h1, h2, h3, h4⟩ := sa; rw [h1]; exact ⟨a2, ⟨r, [], a2, rfl, rfl, ⟨rfl, trivial⟩, h4⟩, by rw [h2]; exact List.sublist_append_right _ _⟩
        | lk t => obtain ⟨w, r, a0, h1, h2, h3⟩ := sa; rw [h1]; exact ⟨as, ⟨r, [], as, rfl, rfl, ⟨rfl, trivial⟩, h3⟩, .refl _⟩
      | succ i =>
        have hi' := Nat.lt_of_succ_lt_succ hi
        cases x with
        | un =>
          obtain ⟨x, r, h1, h2⟩ := sa
          obtain ⟨bs, q1, q2⟩ := ih (i := i) (as := as) (σ := r) hi' h2
          rw [h1]; exact ⟨bs, ⟨x, _, rfl, q1⟩, q2⟩
        | ow t =>
          obtain ⟨w, r, a1, a2, h1, h2, h3, h4⟩ := sa
          obtain ⟨bs, q1, q2⟩ := ih (i := i) (as := a2) (σ := r) hi' h4
          rw [h1]; exact ⟨a1 ++ bs, ⟨w, _, a1, bs, rfl, rfl, h3, q1⟩, by rw [h2]; exact List.Sublist.append_left q2 a1⟩
        | pn w t =>
          obtain ⟨r, a1, a2, h1, h2, h3, h4⟩ := sa
          obtain ⟨bs, q1, q2⟩ := ih (i := i) (as := a2) (σ := r) hi' h4
          rw [h1]; exact ⟨a1 ++ bs, ⟨_, a1, bs, rfl, rfl, h3, q1⟩, by rw [h2]; exact List.Sublist.append_left q2 a1⟩
        | lk t =>
          obtain ⟨w, r, a0, h1, h2, h3⟩ := sa
          obtain ⟨bs, q1, q2⟩ := ih (i := i) (as := as) (σ := r) hi' h3
          rw [h1]; exact ⟨bs, ⟨w, _, a0, rfl, h2, q1⟩, q2⟩
  exact ⟨bs, f.sub sub, sb⟩
theorem S.unset {G : Ctx} {F M0 M H : Hp} {σ : St} {i : Nat} (s : S G F M0 M H σ Γ) : S G F M0 M H (σ.set i none) (Γ.set i .un) := by
  obtain ⟨as, f, sa⟩ := s
  obtain ⟨bs, sb, sub⟩ := Sat.unset (i := i) sa
  exact ⟨bs, f.sub sub, sb⟩
/-- the ends of a suite: slot i is empty behind it -/
def kUn (i : Nat) (k : Kd) : Kd := { nx := k.nx, rt := k.rt, bk := k.bk, ct := k.ct }
theorem st_tryAs {x n : Str} {cv : Value} {tbl : Str → Option Bool} {mb : R ω} {hm : Str → R ω} {κ : ω → Kd} {b₀ : Stmt} {suite : List Stmt} {np pos' : Pos} (i : Nat) (hN : X.N.Nodup) (hc : Names X x cv) (tk : Takes X W)
    (hb : ∀ (W' : WX) (pn : List (Addr × Obj)) (xe : Value → Shared → Prop), Takes (X.tr pn xe) W' → PassesOwn (model X.prog X.w) X.A X.env xe → Bk (X.tr pn xe) W' Γt Γ A κ mb)
    (ht : ∀ k b a, tbl k = some b → X.mg k = some (.ref a) → PySem.W.exmOne X.K (.ref a) cv = some b)
    (hsu : ∀ k D, tbl k = some true → X.mg k = some (.ref D) → ∀ (a : Addr) (oe : Obj) (pn : List (Addr × Obj)), Zc (.ref D) none oe → (∃ vs, oe.data = .fields vs) → Bk (X.suite a ((a, oe) :: pn)) wNo Γe (Γt.set i (.pn (.ref a) (.imm .any))) (b₀ :: suite) (fun o => (κ o).rr) (hm k)) (hw : Wk Γe Γt) (hl : Nat.blt i Γt.length = true := by rfl)
    (hi : X.N[i]? = some n := by rfl) (hln : X.env.kindOf n = some .local := by rfl)
    (hs : X.stack = X.env :: X.outer := by rfl) (hf : X.env.frame = some X.env.locals := by rfl) :
    St1 X W Γe Γ (.Try A [.ExceptHandler (some (.Name x np)) (some n) (b₀ :: suite) pos'] [] [] pos) κ (catchR tbl mb hm) :=
  smk ⟨_, ps_try_as (i := i) (tb := fun W' D σ H => ∀ pn xe, Takes (X.tr pn xe) W' → PassesOwn (model X.prog X.w) X.A X.env xe → wSs (X.tr pn xe) A D σ H) (ts := fun a cls d D σ H => ∀ oe pn, Zc cls d oe → (∃ vs, oe.data = .fields vs) → wSs (X.suite a ((a, oe) :: pn)) (b₀ :: suite) D σ H) (Wout := W) hs hf hN hi hln hc tk
      (fun W' pn xe t p => ⟨fun pins s σ H D I h => h pn xe t p pins s I⟩) (fun a oe cls d pn z v => ⟨fun pins s σ H D I h => h oe pn z v pins s I⟩), fun F M0 M H σ D st po pn xe t p => by
    refine hb _ pn xe t p F M0 M H σ D st ?_
    cases mb with
    | bad => exact po
    | ok o => exact po
    | err k =>
      show ∀ M' H' σ', S X.G F M0 M' H' σ' Γt → Er X.G _ k σ' H'
      intro M' H' σ' st' a ha
      have po : Po (match tbl k with
        | none => R.bad
        | some true => noErr (hm k)
        | some false => R.err k) _ _ := po
      cases e : tbl k with
      | none => rw [e] at po; exact po.elim
      | some b =>
        rw [e] at po
        refine ⟨b, ht k b a e ha, fun eb a' na oe pn z v => ?_, fun eb => ?_⟩
        · subst eb
          exact hsu k a e ha a' oe pn z v F M0 M' H' _ _ (st'.pin (Nat.le_of_ble_eq_true hl)) ((Po.noErr po).imp (fun _ _ q => ⟨fun Γ e => (nomatch e), fun t Γ e => q.rt t Γ e, fun Γ e => (nomatch e), fun Γ e => (nomatch e)⟩) fun _ z => z.elim)
        · subst eb
          exact (po : ∀ M' H' σ', S X.G F M0 M' H' σ' Γe → Er X.G W k σ' H') M' H' σ' (st'.wk hw) a ha⟩
/-- isinstance(e, C) of the caught exception -/
theorem dd_isE {n cn : Str} {a D : Addr} {oe : Obj} {pn : List (Addr × Obj)} {cv : Value} {cV : V} {k : Bool} {p p1 p2 : Pos} (i : Nat) (h : Γ[i]? = some (.pn (.ref a) (.imm .any))) (C : ExcC X.K D) (hz : Zc (.ref D) none oe) (hf : ∃ vs, oe.data = .fields vs) (hm : X.mg "isinstance" = none)
    (hcl : PE (X.suite a ((a, oe) :: pn)) (.Name cn p2) (tC cV)) (hcv : ∀ u, RelV cV u → u = cv) (hk : PySem.W.kitOne X.K (.ref D) cv = some k) (hN : X.N[i]? = some n := by rfl) (hv : Vis X.env.scope n := by first | exact Or.inl rfl | exact Or.inr (Or.inl rfl) | exact Or.inr (Or.inr rfl))
    (hd : (n == ("__debug__" : Str)) = false := by decide) (hcd : (n == ("__classdict__" : Str)) = false := by decide) (hg : Gl X "isinstance" := by rfl)
    (hs : starEach [.Name n p1, .Name cn p2] X.env = (false, eval (.Name n p1) X.env) :: starEach [.Name cn p2] X.env := by exact star_cons rfl) (hs2 : starEach [Expr.Name cn p2] X.env = (false, eval (.Name cn p2) X.env) :: starEach [] X.env := by exact star_cons rfl) (hpl : (backTo pos (starEach [Expr.Name cn p2] X.env)).any (·.1) = false := by exact star_none rfl) :
    DD (X.suite a ((a, oe) :: pn)) W Γ (.Call (.Name "isinstance" p) [.Name n p1, .Name cn p2] [] pos) Cn.D.bl (.ok k) :=
  dmk (X := X.suite a ((a, oe) :: pn)) ⟨_, pe_callB (X := X.suite a ((a, oe) :: pn)) (call_isE C hz hf) hg hm (by decide +kernel) (pa_cons (X := X.suite a ((a, oe) :: pn)) (pe_var (X := X.suite a ((a, oe) :: pn)) hN hv hd hcd) (pa_cons (X := X.suite a ((a, oe) :: pn)) hcl pa_nil (hs := hs2)) (hs := hs)) (he := hs) (hpl := hpl), fun F M0 M H σ Q s po => by
    obtain ⟨as, f, sa⟩ := id s
    obtain ⟨q1, _⟩ := Sat.getP sa h
    exact ⟨_, q1, cV, cv, k, rfl, hcv, hk, po _ M H (.refl s.mh) rfl⟩⟩
end
/-! ### the end of a law -/
/-- what a law asks: a list of at most 63 ints is handed in, True comes out -/
def spLaw (K : PySem.W.Frag) : Sp := fun vs H Q _ => ∃ (a : Addr) (ns : List Int), vs = [.ref a] ∧ SqL K H a (ns.map V.int) ∧ ns.length ≤ 63 ∧ ∀ H', Q (.bl true) H'
theorem law_of {P : Program} {w : World} {K : PySem.W.Frag} {mg : Str → Option Value} {base : Heap} {k : Nat} {f : Addr} {fd : FuncData} {ps : List Str} {g : List Int → R Bool} (h : ∀ ns : List Int, ns.length ≤ 63 → g ns = .ok true)
    (F : FnOk P w K mg base (L2.CX P w) k f fd ps (SpF ⟨K, mg⟩ (fun p : List Int × Unit => [D.frl (p.1.map D.int)]) (fun b => .imm (.bl b)) fun p => g p.1)) : FnOk P w K mg base (L2.CX P w) k f fd ps (spLaw K) := by
  refine F.imp fun vs H Q E ⟨a, ns, e1, e2, e3, q⟩ => ?_
  subst e1
  refine ⟨(ns, ()), H, .refl _, ⟨_, [], rfl, ⟨a, _, rfl, e2, ints_reps ns⟩, rfl⟩, ?_⟩
  show Po (g ns) _ _
  rw [h ns e3]
  intro v M' H' as gr o nd fr
  rw [show v = .bl true from o.2]
  exact q H'
theorem cx_false {P : Program} {w : World} {H : Hp} {s : Shared} {e : Value} {s' : Shared} (h : L2.CX P w [] H s (fun _ _ _ => False) e s') : False := by
  obtain ⟨_, _, _, _, _, _, _, _, _, _, _, _, z⟩ := h
  exact z
end Cn
/-! Cn8: what the printed proofs ask besides -/
namespace Cn
open PySem PySem.Spec L2
def eOpt {α : Type} (e : α → D) : Option α → D
  | none => .non
  | some x => e x
def unp2 {α : Type} : List α → Option (α × α)
  | [a, b] => some (a, b)
  | _ => none
def unp3 {α : Type} : List α → Option (α × α × α)
  | [a, b, c] => some (a, b, c)
  | _ => none
def unp4 {α : Type} : List α → Option (α × α × α × α)
  | [a, b, c, d] => some (a, b, c, d)
  | _ => none
section
variable {X : Cx} {W : WX} {Γe Γ Γt : List Sl} {a b e c tg elt iter : Expr} {es : List Expr} {α β γ ω ω1 : Type} {pos : Pos} {s : Stmt} {rest ss A B : List Stmt}
/-- the same data, said otherwise -/
theorem dd_co {emb : α → D} {emb' : β → D} {m : R α} (h : DD X W Γ e emb m) (g : α → β) (he : ∀ x, emb x = emb' (g x) := by intro _; rfl) : DD X W Γ e emb' (m >>= fun x => .ok (g x)) := ⟨fun F M0 M H σ Q s po => h F M0 M H σ Q s (po.bind.imp (fun x _ k v M' H' g r => k v M' H' g (by rw [← he]; exact r)) fun _ z => z)⟩
theorem dd_coO {emb : α → D} {emb' : β → D} {m : R α} (h : DD X W Γ e emb m) (g : α → Option β) (he : ∀ x y, g x = some y → emb x = emb' y) : DD X W Γ e emb' (m >>= fun x => ofO (g x)) := ⟨fun F M0 M H σ Q s po => h F M0 M H σ Q s (po.bind.imp (fun x _ k v M' H' gr r => by
  obtain ⟨z, e, k⟩ := k.ofO
  exact k v M' H' gr (by rw [← he x z e]; exact r)) fun _ z => z)⟩
theorem unp2_some {xs : List α} {y} (h : unp2 xs = some y) : xs = [y.1, y.2] := by
  match xs, h with
  | [a, b], h => cases h; rfl
theorem unp3_some {xs : List α} {y} (h : unp3 xs = some y) : xs = [y.1, y.2.1, y.2.2] := by
  match xs, h with
  | [a, b, c], h => cases h; rfl
theorem unp4_some {xs : List α} {y} (h : unp4 xs = some y) : xs = [y.1, y.2.1, y.2.2.1, y.2.2.2] := by
  match xs, h with
  | [a, b, c, d], h => cases h; rfl
theorem dd_unp2L {ei : β → D} {m : R (List β)} (h : DD X W Γ e (fun xs => .lst (xs.map ei)) m) : DD X W Γ e (fun p : β × β => .lst [ei p.1, ei p.2]) (m >>= fun xs => ofO (unp2 xs)) := dd_coO h _ fun x y q => by rw [unp2_some q]; rfl
theorem dd_unp3L {ei : β → D} {m : R (List β)} (h : DD X W Γ e (fun xs => .lst (xs.map ei)) m) : DD X W Γ e (fun p : β × β × β => .lst [ei p.1, ei p.2.1, ei p.2.2]) (m >>= fun xs => ofO (unp3 xs)) := dd_coO h _ fun x y q => by rw [unp3_some q]; rfl
theorem dd_unp4L {ei : β → D} {m : R (List β)} (h : DD X W Γ e (fun xs => .lst (xs.map ei)) m) : DD X W Γ e (fun p : β × β × β × β => .lst [ei p.1, ei p.2.1, ei p.2.2.1, ei p.2.2.2]) (m >>= fun xs => ofO (unp4 xs)) := dd_coO h _ fun x y q => by rw [unp4_some q]; rfl
theorem dd_unp2T {ei : β → D} {m : R (List β)} (h : DD X W Γ e (fun xs => .tup (xs.map ei)) m) : DD X W Γ e (fun p : β × β => .tup [ei p.1, ei p.2]) (m >>= fun xs => ofO (unp2 xs)) := dd_coO h _ fun x y q => by rw [unp2_some q]; rfl
theorem dd_unp3T {ei : β → D} {m : R (List β)} (h : DD X W Γ e (fun xs => .tup (xs.map ei)) m) : DD X W Γ e (fun p : β × β × β => .tup [ei p.1, ei p.2.1, ei p.2.2]) (m >>= fun xs => ofO (unp3 xs)) := dd_coO h _ fun x y q => by rw [unp3_some q]; rfl
/-- a statement that leaves by returns alone, among others -/
theorem st_rr {f : ω1 → Kd} {κ : ω → Kd} {m : R (ω1 ⊕ ω)} (h : St1 X W Γe Γ s (kSum f fun o => (κ o).rr) m) : St1 X W Γe Γ s (kSum f fun o => (κ o).ex) m := ⟨fun F M0 M H σ D st po => h F M0 M H σ D st (po.imp (fun o _ q => by
  cases o with
  | inl o => exact q
  | inr o => exact ⟨fun Γ e => (nomatch e), fun t Γ e => Kn.rt q t Γ e, fun Γ e => (nomatch e), fun Γ e => (nomatch e)⟩) fun _ z => z)⟩
theorem dd_isNO {ei : β → D} {m : R (Option β)} {j p} (hne : ∀ x v (M : Hp), Rep X.G M (ei x) v → v ≠ .non) (h : DD X W Γ e (eOpt ei) m) : DD X W Γ (.Compare e [.Is] [.Constant .none j p] pos) D.bl (m >>= fun x => .ok x.isNone) :=
  dmk ⟨_, pe_cmpR op_isN (pe_w X e) pe_non (nomark _), fun F M0 M H σ Q s po => h F M0 M H σ _ s (po.bind.imp (fun x _ k v M1 H1 g1 r1 => ⟨rfl, k _ M1 H1 g1 (by
    cases x with
    | none => rw [show v = .non from r1]; rfl
    | some x => show V.bl _ = V.bl _; rw [decide_eq_false (hne x v M1 r1)]; rfl)⟩) fun _ z => z)⟩
end
/-! ### try by a list of the classes that may come, each with what the suite does -/
def catchL {ω : Type} (l : List (Str × Bool × R ω)) (m : R ω) : R ω := catchR (fun c => (l.lookup c).map (·.1)) m fun c => ((l.lookup c).map (·.2)).getD .bad
theorem lookup_mem {β : Type} : ∀ {l : List (Str × β)} {k : Str} {q : β}, l.lookup k = some q → (k, q) ∈ l
  | [], k, q, h => nomatch h
  | (a, b) :: l, k, q, h => by
    rw [List.lookup_cons] at h
    cases e : (k == a) with
    | true =>
      rw [e] at h
      have e2 : k = a := eq_of_beq e
      cases h
      rw [e2]
      exact List.mem_cons_self
    | false =>
      rw [e] at h
      exact List.mem_cons_of_mem _ (lookup_mem h)
theorem xm_at {K : PySem.W.Frag} {mg : Str → Option Value} {c : Str} {C : Addr} {cv : Value} {b : Bool} (hg : mg c = some (.ref C)) (hx : PySem.W.exmOne K (.ref C) cv = some b) : ∀ a, mg c = some (.ref a) → PySem.W.exmOne K (.ref a) cv = some b := fun a h => by
  rw [hg] at h; cases h; exact hx
section
variable {X : Cx} {W : WX} {Γe Γ Γt : List Sl} {ω : Type} {pos : Pos} {A : List Stmt}
theorem st_tryL {x : Str} {cv : Value} {l : List (Str × Bool × R ω)} {mb : R ω} {κ : ω → Kd} {b₀ : Stmt} {suite : List Stmt} {np pos' : Pos} (hc : Names X x cv) (tk : Takes X W)
    (hb : ∀ (W' : WX) (pn : List (Addr × Obj)) (xe : Value → Shared → Prop), Takes (X.tr pn xe) W' → PassesOwn (model X.prog X.w) X.A X.env xe → Bk (X.tr pn xe) W' Γt Γ A κ mb)
    (ht : ∀ p ∈ l, ∀ a, X.mg p.1 = some (.ref a) → PySem.W.exmOne X.K (.ref a) cv = some p.2.1)
    (hsu : ∀ p ∈ l, p.2.1 = true → ∀ D, X.mg p.1 = some (.ref D) → ∀ (a : Addr) (oe : Obj) (pn : List (Addr × Obj)), Zc (.ref D) none oe → (∃ vs, oe.data = .fields vs) → Bk (X.suite a ((a, oe) :: pn)) wNo Γe Γt (b₀ :: suite) κ p.2.2) (hw : Wk Γe Γt)
    (hs : X.stack = X.env :: X.outer := by rfl) (hf : X.env.frame = some X.env.locals := by rfl) :
    St1 X W Γe Γ (.Try A [.ExceptHandler (some (.Name x np)) none (b₀ :: suite) pos'] [] [] pos) κ (catchL l mb) :=
  st_try hc tk hb (fun k b a e g => by
    cases q : l.lookup k with
    | none => rw [q] at e; cases e
    | some v =>
      rw [q] at e
      cases e
      exact ht _ (lookup_mem q) a g) (fun k D e g a oe pn z v => by
    cases q : l.lookup k with
    | none => rw [q] at e; cases e
    | some v' =>
      rw [q] at e
      have e : v'.1 = true := Option.some.inj e
      exact hsu _ (lookup_mem q) e D g a oe pn z v) hw hs hf
theorem st_tryAsL {x n : Str} {cv : Value} {l : List (Str × Bool × R ω)} {mb : R ω} {κ : ω → Kd} {b₀ : Stmt} {suite : List Stmt} {np pos' : Pos} (i : Nat) (hN : X.N.Nodup) (hc : Names X x cv) (tk : Takes X W)
    (hb : ∀ (W' : WX) (pn : List (Addr × Obj)) (xe : Value → Shared → Prop), Takes (X.tr pn xe) W' → PassesOwn (model X.prog X.w) X.A X.env xe → Bk (X.tr pn xe) W' Γt Γ A κ mb)
    (ht : ∀ p ∈ l, ∀ a, X.mg p.1 = some (.ref a) → PySem.W.exmOne X.K (.ref a) cv = some p.2.1)
    (hsu : ∀ p ∈ l, p.2.1 = true → ∀ D, X.mg p.1 = some (.ref D) → ∀ (a : Addr) (oe : Obj) (pn : List (Addr × Obj)), Zc (.ref D) none oe → (∃ vs, oe.data = .fields vs) → Bk (X.suite a ((a, oe) :: pn)) wNo Γe (Γt.set i (.pn (.ref a) (.imm .any))) (b₀ :: suite) (fun o => (κ o).rr) p.2.2) (hw : Wk Γe Γt) (hl : Nat.blt i Γt.length = true := by rfl)
    (hi : X.N[i]? = some n := by rfl) (hln : X.env.kindOf n = some .local := by rfl)
    (hs : X.stack = X.env :: X.outer := by rfl) (hf : X.env.frame = some X.env.locals := by rfl) :
    St1 X W Γe Γ (.Try A [.ExceptHandler (some (.Name x np)) (some n) (b₀ :: suite) pos'] [] [] pos) κ (catchL l mb) :=
  st_tryAs i hN hc tk hb (fun k b a e g => by
    cases q : l.lookup k with
    | none => rw [q] at e; cases e
    | some v =>
      rw [q] at e
      cases e
      exact ht _ (lookup_mem q) a g) (fun k D e g a oe pn z v => by
    cases q : l.lookup k with
    | none => rw [q] at e; cases e
    | some v' =>
      rw [q] at e
      have e : v'.1 = true := Option.some.inj e
      exact hsu _ (lookup_mem q) e D g a oe pn z v) hw hl hi hln hs hf
end
section
variable {P : Program} {w : World} {K : PySem.W.Frag} {mg : Str → Option Value} {base : Heap}
/-- a def that falls off its end: it hands back None -/
theorem fn_pureN {x qual : Str} {st : Stmt} {f : Addr} {fd : FuncData} {N ps : List Str} {k : Nat} {α : Type} {args : α → List D} {g : α → R Unit} (F : Fun K x qual st f fd) (Sc : FnScope N ps (defScope st))
    (hl : ∀ a, (args a).length = ps.length)
    (hb : ∀ (cdv : Value) (A : Around) (outer : List Env) (s : Shared) (H : Hp) (E : XK), Room k (A.deeper (PyProof.Rows.envOfC qual (defScope st) s.heap.objs.size f cdv)) → ∀ a,
      Bk (cxOf (L2.CX P w) P w K mg base N qual (defScope st) f cdv A outer s H E) (fun cls d _ H => E cls d H) (List.replicate N.length .un) ((args a).map (fun d => .ow (.imm d)) ++ List.replicate (N.length - ps.length) .un) (defBody st) (kRetN (fun _ => .imm .non) N.length) (g a)) :
    FnOk P w K mg base (L2.CX P w) (k + 1) f fd ps (SpF ⟨K, mg⟩ args (fun _ => .imm .non) g) := by
  refine F.okX Sc (fun vs H Q E h => ?_) (fun cdv A outer s H vs Q E hr h => ?_)
  · obtain ⟨a, M, _, r, _⟩ := h
    rw [r.len, hl]
  · obtain ⟨a, M, mh, r, po⟩ := h
    refine ⟨_, pss_w _ _, hb cdv A outer s H E hr a H M M H _ _ ?_ ?_⟩
    · refine ⟨[], ⟨.refl _, .refl _, mh, fun _ z => .inl z, List.nodup_nil, (fun _ z => nomatch z), fun _ z => nomatch z⟩, ?_⟩
      have e : vs.length = ps.length := by rw [r.len, hl]
      unfold L2.start
      rw [e]
      exact Sat.app (as := []) (bs := []) r.sat (Sat.uns _)
    · refine po.imp (fun x _ q => ⟨fun Γ e M' H' σ st => ?_, fun t Γ e M' H' σ v st => ?_, fun Γ e => (nomatch e), fun Γ e => (nomatch e)⟩) fun c z M' H' σ' st C hC => z M' H' ⟨st.fh, st.rel.1, st.mh, st.rel.2⟩ C hC
      · exact q .non M' H' [] ⟨st.fh, st.rel.1, st.mh, st.rel.2⟩ ⟨rfl, rfl⟩ List.nodup_nil fun _ z => nomatch z
      · have e' : (T.imm .non, List.replicate N.length Sl.un) = (t, Γ) := Option.some.inj e
        obtain ⟨e1, e2⟩ := Prod.mk.inj e'
        subst e1; subst e2
        obtain ⟨as, f, ⟨v', r', a1, a2, z1, z2, z3, z4⟩⟩ := st
        obtain ⟨z5, z6⟩ := List.cons.inj z1
        cases z5
        subst z2
        have nd := f.nd
        rw [List.nodup_append] at nd
        exact q v M' H' a1 ⟨f.fh, f.mm, f.mh, f.nw⟩ z3 nd.1 fun b hb => ⟨f.fa b (List.mem_append_left _ hb), f.ma b (List.mem_append_left _ hb)⟩
end
end Cn
/-! Cn9: what the end of a law asks of the written part -/
namespace Cn
open PySem PySem.Spec L2
theorem kit_ref {K : PySem.W.Frag} {t : Value} {C : Addr} {b : Bool} (hd : PySem.W.hasDictIn K C = true) (ht : PySem.W.typeIn K (.ref C) = some (.type "type")) (hs : PySem.W.subIn K t (.ref C) = some b) (hne : ((t == .ref C) && !b) = false) : PySem.W.kitOne K t (.ref C) = some b := by
  unfold PySem.W.kitOne
  cases e : (t == Value.ref C) with
  | true =>
    rw [e] at hne
    cases b with
    | true => rfl
    | false => cases hne
  | false =>
    obtain ⟨cd, hc, _⟩ := PySem.W.any_some hd
    have e2 : ((PySem.W.clsIn K C).isSome && PySem.W.typeIn K (.ref C) == some (.type "type")) = true := by rw [hc, ht] <;> rfl
    show PySem.W.kitCls K t (.ref C) = some b
    show (if ((PySem.W.clsIn K C).isSome && PySem.W.typeIn K (.ref C) == some (.type "type")) = true then PySem.W.subIn K t (.ref C) else none) = some b
    rw [if_pos e2]
    exact hs
theorem kit_type {K : PySem.W.Frag} {C : Addr} {T : String} {b : Bool} (hm : PySem.W.kitMeta T = true) (hs : PySem.W.subIn K (.ref C) (.type T) = some b) : PySem.W.kitOne K (.ref C) (.type T) = some b := by
  show (if PySem.W.kitMeta T = true then PySem.W.subIn K (.ref C) (.type T) else none) = some b
  rw [if_pos hm]
  exact hs
theorem exm_type {K : PySem.W.Frag} {cls : Value} {T : String} {b : Bool} (h1 : PySem.W.subIn K (.type T) (.type "BaseException") = some true) (hm : PySem.W.kitMeta T = true) (hs : PySem.W.subIn K cls (.type T) = some b) : PySem.W.exmOne K cls (.type T) = some b := by
  show (if (PySem.W.subIn K (.type T) (.type "BaseException") == some true) = true then (if PySem.W.kitMeta T = true then PySem.W.subIn K cls (.type T) else none) else none) = some b
  rw [if_pos (by rw [h1]; rfl), if_pos hm]
  exact hs
end Cn
namespace Cn
open PySem PySem.Spec L2
theorem powO_lit {i j z : Int} (h : CPow i j) (e : i ^ j.toNat = z) : powO i j = some z := by
  subst e
  exact if_pos h
end Cn
/-! CnA: more calls -/
namespace Cn
open PySem PySem.Spec L2
section
variable {X : Cx}
theorem cr_sumT (hc : X.calm = true) : CallR X (.builtin "sum") (fun vs H Q => ∃ (a : Addr) (ns : List Int), vs = [V.ref a] ∧ SqT X.K H a (ns.map V.int) ∧ Q (.int ns.sum) H) := by
  intro pins s σ H vs us Q I r h
  obtain ⟨a, ns, rfl, hs, q⟩ := h
  obtain ⟨its, rv, hl, _⟩ := I.tuple hs
  rw [Vals.ref1 r]
  have hi := rv.ints
  have hl : s.heap.IsTuple a its.toArray := hl
  obtain ⟨xs, hx⟩ := hi.allInts.items
  have hn : numsOf its.toArray.toList = ns := by rw [show its.toArray.toList = its from rfl, hi.numsOf]
  rw [hx] at hl hn
  rw [nums_intItems] at hn
  refine PySem.W.ktm_sumG (I.ok.hd hc) hl fun h' tk t' hk => ⟨.int _, H, I.kept hk, ⟨_, rfl⟩, ?_⟩
  rw [preSum_eq, List.take_of_length_le (by simp), hn]
  exact q
theorem truth_ints {prog : Program} {w : World} {A : Around} {ns : List Int} {its : List Value} (e : PyProof.Rows.IntsAre its ns) :
    TruthOf prog w A (fun i v => its.toArray[i]? = some v) (fun i => ns.getD i 0 != 0) := fun i v s Q E hv hq => by
  have hv' : its[i]? = some v := by simpa using hv
  obtain ⟨n, t, hn, rfl⟩ : ∃ n t, ns[i]? = some n ∧ v = Value.int n t := by
    clear hv hq
    induction e generalizing i with
    | nil => cases hv'
    | cons x k h ih =>
      cases i with
      | zero => cases hv'; exact ⟨x, k, rfl, rfl⟩
      | succ i => exact ih i hv'
  have hg : ns.getD i 0 = n := by rw [List.getD_eq_getElem?_getD, hn] <;> rfl
  have hq' : Q (ns.getD i 0 != 0) s := hq
  rw [hg] at hq'
  exact P.truthy_int hq'
theorem any_rangeI : ∀ ns : List Int, (List.range ns.length).any (fun i => ns.getD i 0 != 0) = ns.any (· != 0)
  | [] => rfl
  | b :: bs => by
    rw [List.length_cons, List.range_succ_eq_map, List.any_cons, List.any_map, List.any_cons, ← any_rangeI bs]
    all_goals rfl
theorem iter_anyT {prog : Program} {w : World} {A : Around} {E : Value → Shared → Prop} {s : Shared} {l : Addr} {items : Array Value} {Q : Value → Shared → Prop} (hl : s.heap.IsTuple l items)
    (h : ∀ s₂ : Shared, s₂ = { s with heap := s.heap.push { cls := .type "tuple_iterator", data := .fields #[.ref l, .int 0 0] } } →
      (s₂.heap.IsTupleIter s.heap.objs.size l 0 ∧ s₂.heap.IsTuple l items) → l ≠ s.heap.objs.size → Q (.ref s.heap.objs.size) s₂) : wpAny (model prog w) A (pyIter (.ref l)) Q E s := by
  have hlt : l < s.heap.objs.size := by obtain ⟨_, e, _⟩ := hl; exact Heap.lt_size e
  exact wpAny_pyIter_tuple hl (h _ rfl ⟨⟨_, Heap.get?_push_size _ rfl, rfl, rfl⟩, hl.push _⟩ (Nat.ne_of_lt hlt))
theorem cr_anyT (hc : X.calm = true) : CallR X (.builtin "any") (fun vs H Q => ∃ (a : Addr) (ns : List Int), vs = [V.ref a] ∧ SqT X.K H a (ns.map V.int) ∧ Q (.bl (ns.any (· != 0))) H) := by
  intro pins s σ H vs us Q I r h
  obtain ⟨a, bs, rfl, hs, q⟩ := h
  obtain ⟨its, rv, hl, _⟩ := I.tuple hs
  rw [Vals.ref1 r]
  have hb := rv.ints
  have hl : s.heap.IsTuple a its.toArray := hl
  refine call_any_walk (iter_anyT hl fun s₂ e2 st hne => ?_)
  subst e2
  refine ⟨_, _, _, _, _, _, _, rfl, Walks.tuple (A := X.A.in1) (I.ok.hd hc) _ a hne its.toArray, st, truth_ints hb, fun h' tk hk => ?_⟩
  refine ⟨.bl _, H, I.kept fun b o eo => hk b o (fun hmem => ?_) (Heap.get?_push_of_some _ eo), ?_, q⟩
  · rcases List.mem_cons.mp hmem with e1 | hmem
    · exact absurd (e1 ▸ Heap.lt_size eo) (Nat.lt_irrefl _)
    · cases hmem
  · show Value.bool _ = Value.bool _
    rw [← any_rangeI, List.size_toArray, ← hb.length]
theorem cr_anyI (hc : X.calm = true) : CallR X (.builtin "any") (fun vs H Q => ∃ (a : Addr) (ns : List Int), vs = [V.ref a] ∧ SqL X.K H a (ns.map V.int) ∧ Q (.bl (ns.any (· != 0))) H) := by
  intro pins s σ H vs us Q I r h
  obtain ⟨a, bs, rfl, hs, q⟩ := h
  obtain ⟨its, rv, hl, _⟩ := I.list hs
  rw [Vals.ref1 r]
  have hb := rv.ints
  refine call_any_walk (iter_any hl.isList fun s₂ e2 st hne => ?_)
  subst e2
  refine ⟨_, _, _, _, _, _, _, rfl, Walks.list (A := X.A.in1) (I.ok.hd hc) _ a hne its.toArray, st, truth_ints hb, fun h' tk hk => ?_⟩
  refine ⟨.bl _, H, I.kept fun b o eo => hk b o (fun hmem => ?_) (Heap.get?_push_of_some _ eo), ?_, q⟩
  · rcases List.mem_cons.mp hmem with e1 | hmem
    · exact absurd (e1 ▸ Heap.lt_size eo) (Nat.lt_irrefl _)
    · cases hmem
  · show Value.bool _ = Value.bool _
    rw [← any_rangeI, List.size_toArray, ← hb.length]
theorem cr_max3 (hc : X.calm = true) : CallR X (.builtin "max") (fun xs H Q => ∃ i j k, xs = [.int i, .int j, .int k] ∧ Q (.int (if j > i then (if k > j then k else j) else (if k > i then k else i))) H) := by
  intro pins s σ H vs us Q I r h
  obtain ⟨i, j, k, rfl, q⟩ := h
  obtain ⟨t1, t2, t3, rfl⟩ : ∃ t1 t2 t3, us = [Value.int i t1, Value.int j t2, Value.int k t3] := by
    cases r with
    | cons r t =>
      obtain ⟨t1, rfl⟩ := r
      obtain ⟨t2, t3, rfl⟩ := Vals.int2 t
      exact ⟨t1, t2, t3, rfl⟩
  refine max_three_ints (I.ok.hd hc) fun h' tk hk => ⟨_, H, I.kept hk, ?_, q⟩
  split
  · split
    · exact ⟨_, rfl⟩
    · exact ⟨_, rfl⟩
  · split
    · exact ⟨_, rfl⟩
    · exact ⟨_, rfl⟩
end
section
variable {X : Cx} {W : WX} {Γe Γ Γt : List Sl} {a b c e tg elt iter : Expr} {es : List Expr} {α β γ ω ω1 : Type} {pos : Pos} {s : Stmt} {rest ss A B : List Stmt}
theorem dd_sumT {m : R (List Int)} {p : Pos} (hc : X.calm = true) (h : DD X W Γ e (fun xs => .tup (xs.map D.int)) m) (hm : X.mg "sum" = none) (hg : Gl X "sum" := by rfl) (hs : starEach [e] X.env = (false, eval e X.env) :: starEach [] X.env := by exact star_cons rfl) : DD X W Γ (.Call (.Name "sum" p) [e] [] pos) D.int (m >>= fun xs => .ok xs.sum) :=
  dmk ⟨_, pe_callB (cr_sumT hc) hg hm (by decide +kernel) (pa_cons (pe_w X e) pa_nil (hs := hs)) (he := hs), fun F M0 M H σ Q s po => h F M0 M H σ _ s (po.bind.imp (fun xs _ k v M1 H1 g1 r1 => by
    obtain ⟨a, vs, rfl, hl, r1⟩ := r1
    exact ⟨a, xs, rfl, by rw [← reps_ints r1]; exact same_sqt g1.mh hl, k _ M1 H1 g1 rfl⟩) fun _ z => z)⟩
theorem dd_anyT {m : R (List Int)} {p : Pos} (hc : X.calm = true) (h : DD X W Γ e (fun xs => .tup (xs.map D.int)) m) (hm : X.mg "any" = none) (hg : Gl X "any" := by rfl) (hs : starEach [e] X.env = (false, eval e X.env) :: starEach [] X.env := by exact star_cons rfl) : DD X W Γ (.Call (.Name "any" p) [e] [] pos) D.bl (m >>= fun xs => .ok (xs.any (· != 0))) :=
  dmk ⟨_, pe_callB (cr_anyT hc) hg hm (by decide +kernel) (pa_cons (pe_w X e) pa_nil (hs := hs)) (he := hs), fun F M0 M H σ Q s po => h F M0 M H σ _ s (po.bind.imp (fun xs _ k v M1 H1 g1 r1 => by
    obtain ⟨a, vs, rfl, hl, r1⟩ := r1
    exact ⟨a, xs, rfl, by rw [← reps_ints r1]; exact same_sqt g1.mh hl, k _ M1 H1 g1 rfl⟩) fun _ z => z)⟩
theorem dd_anyI {m : R (List Int)} {p : Pos} (hc : X.calm = true) (h : DL X W Γ e (fun xs => xs.map D.int) m) (hm : X.mg "any" = none) (hg : Gl X "any" := by rfl) (hs : starEach [e] X.env = (false, eval e X.env) :: starEach [] X.env := by exact star_cons rfl) : DD X W Γ (.Call (.Name "any" p) [e] [] pos) D.bl (m >>= fun xs => .ok (xs.any (· != 0))) :=
  dmk ⟨_, pe_callB (cr_anyI hc) hg hm (by decide +kernel) (pa_cons (pe_w X e) pa_nil (hs := hs)) (he := hs), fun F M0 M H σ Q s po => h F M0 M H σ _ s (po.bind.imp (fun xs _ k a vs M1 H1 g1 hl r1 => ⟨a, xs, rfl, by rw [← reps_ints r1]; exact hl, k _ M1 H1 g1 rfl⟩) fun _ z => z)⟩
theorem dd_three_ints {ma mb mc : R Int} {n : Str} {id : String} {p : Pos} {f : Int → Int → Int → Int} (hr : CallR X (.builtin id) (fun xs H Q => ∃ i j k, xs = [.int i, .int j, .int k] ∧ Q (.int (f i j k)) H)) (ha : DD X W Γ a D.int ma) (hb : DD X W Γ b D.int mb) (hc : DD X W Γ c D.int mc) (hm : X.mg n = none) (hv : bootBuiltins n = some (.builtin id)) (hg : Gl X n := by rfl) (hn : n ≠ "__name__" := by decide) (hdb : (n == ("__debug__" : Str)) = false := by decide)
    (hs : starEach [a, b, c] X.env = (false, eval a X.env) :: starEach [b, c] X.env := by exact star_cons rfl) (hs2 : starEach [b, c] X.env = (false, eval b X.env) :: starEach [c] X.env := by exact star_cons rfl) (hs3 : starEach [c] X.env = (false, eval c X.env) :: starEach [] X.env := by exact star_cons rfl) (hpl : (backTo pos (starEach [b, c] X.env)).any (·.1) = false := by exact star_none rfl) : DD X W Γ (.Call (.Name n p) [a, b, c] [] pos) D.int (ma >>= fun x => mb >>= fun y => mc >>= fun z => .ok (f x y z)) := by
  refine dmk ⟨_, pe_callB hr hg hm hv (pa_cons (pe_w X a) (pa_cons (pe_w X b) (pa_cons (pe_w X c) pa_nil (hs := hs3)) (hs := hs2)) (hs := hs)) (hn := hn) (hdb := hdb) (he := hs) (hpl := hpl), fun F M0 M H σ Q s po => ha F M0 M H σ _ s (po.bind.imp (fun x _ k v M1 H1 g1 r1 => hb F M0 M1 H1 σ _ (s.grow g1) (k.bind.imp (fun y _ k w M2 H2 g2 r2 => hc F M0 M2 H2 σ _ ((s.grow g1).grow g2) (k.bind.imp (fun z _ k u M3 H3 g3 r3 => ⟨x, y, z, by rw [show v = .int x from r1, show w = .int y from r2, show u = .int z from r3], k _ M3 H3 ((g1.trans g2).trans g3) rfl⟩) fun c z M' H' g => z M' H' ((g1.trans g2).trans g))) fun c z M' H' g => z M' H' (g1.trans g))) fun _ z => z)⟩
/-- a tuple of ints of the module's -/
def GTup (K : PySem.W.Frag) (a : Addr) (ns : List Int) : Prop := ∃ (o : Obj) (its : Array Value) (n : Nat), K.lookup a = some o ∧ o.cls = .type "tuple" ∧ o.data = .seq its n ∧ its.size ≤ sizeLine ∧ Vals (ns.map V.int) its.toList
theorem dd_gtup {n : Str} {ns : List Int} {ad : Addr} {p : Pos} (hm : X.mg n = some (.ref ad)) (h : GTup X.K ad ns) (hg : Gl X n := by rfl) (hd : (n == ("__debug__" : Str)) = false := by decide) : DD X W Γ (.Name n p) (fun xs => .tup (xs.map D.int)) (.ok ns) :=
  dmk ⟨_, pe_glob (v := .ref ad) hg hm rfl hd, fun F M0 M H σ Q s po => po (.ref ad) M H (.refl s.mh) ⟨ad, _, rfl, .inr h, ints_reps ns⟩⟩
/-- a op b op' c of ints -/
theorem chain_int {f g : Int → Int → Bool} {ma mb mc : R Int} {F M0 M H : Hp} {σ : St} {Q : VK} (ha : DD X W Γ a D.int ma) (hb : DD X W Γ b D.int mb) (hc : DD X W Γ c D.int mc) (s : S X.G F M0 M H σ Γ)
    (po : Po (ma >>= fun x => mb >>= fun y => if f x y then mc >>= fun z => .ok (g y z) else .ok false) (fun x => WD X.G M H (D.bl x) Q) (fun c => ∀ M' H', Gr M H M' H' → Er X.G W c σ H')) :
    tChain (rI0 fun i j => .bl (f i j)) (rI0 fun i j => .bl (g i j)) (wE X a) (wE X b) (wE X c) σ H Q := by
  refine ha F M0 M H σ _ s (po.bind.imp (fun x _ k v M1 H1 g1 r1 => ?_) fun _ z => z)
  refine hb F M0 M1 H1 σ _ (s.grow g1) (k.bind.imp (fun y _ k w M2 H2 g2 r2 => ?_) fun c z M' H' g => z M' H' (g1.trans g))
  refine ⟨x, y, r1, r2, f x y, rfl, ?_⟩
  cases e : f x y with
  | false =>
    rw [e] at k
    exact k _ M2 H2 (g1.trans g2) rfl
  | true =>
    rw [e] at k
    refine hc F M0 M2 H2 σ _ ((s.grow g1).grow g2) ((show Po (mc >>= fun z => .ok (g y z)) _ _ from k).bind.imp (fun z _ k u M3 H3 g3 r3 => ?_) fun c z M' H' g => z M' H' ((g1.trans g2).trans g))
    exact ⟨y, z, r2, r3, k _ M3 H3 ((g1.trans g2).trans g3) rfl⟩
theorem dd_chain {op op' : CmpOp} {f g : Int → Int → Bool} {ma mb mc : R Int} (ho : OpR X (compareOp op) (rI0 fun i j => .bl (f i j))) (ho' : OpR X (compareOp op') (rI0 fun i j => .bl (g i j))) (ha : DD X W Γ a D.int ma) (hb : DD X W Γ b D.int mb) (hc : DD X W Γ c D.int mc) (hm : lastMarks [op, op'] [b, c] = false := by with_unfolding_all rfl) :
    DD X W Γ (.Compare a [op, op'] [b, c] pos) D.bl (ma >>= fun x => mb >>= fun y => if f x y then mc >>= fun z => .ok (g y z) else .ok false) :=
  dmk ⟨_, pe_chain ho ho' (pe_w X a) (pe_w X b) (pe_w X c) hm, fun F M0 M H σ Q s po => chain_int ha hb hc s po⟩
theorem dt_chain {op op' : CmpOp} {f g : Int → Int → Bool} {ma mb mc : R Int} (ho : OpR X (compareOp op) (rI0 fun i j => .bl (f i j))) (ho' : OpR X (compareOp op') (rI0 fun i j => .bl (g i j))) (ha : DD X W Γ a D.int ma) (hb : DD X W Γ b D.int mb) (hc : DD X W Γ c D.int mc) (hm : lastMarks [op, op'] [b, c] = false := by with_unfolding_all rfl) :
    DT X W Γ (.Compare a [op, op'] [b, c] pos) (ma >>= fun x => mb >>= fun y => if f x y then mc >>= fun z => .ok (g y z) else .ok false) :=
  tmk ⟨_, pt_chain ho ho' (pe_w X a) (pe_w X b) (pe_w X c) hm, fun F M0 M H σ Q s po => chain_int ha hb hc s (po.imp (fun x _ k v M' H' g q => ⟨x, q, k M' H' g⟩) fun _ z => z)⟩
end
end Cn
namespace Cn
open PySem PySem.Spec L2
section
variable {X : Cx} {W : WX} {Γe Γ Γt : List Sl} {a b c e tg elt iter : Expr} {es : List Expr} {α β γ ω ω1 : Type} {pos : Pos} {s : Stmt} {rest ss A B : List Stmt}
/-- len of a tuple of a known length -/
theorem dd_lenP {et : α → D} {m : R α} {p : Pos} (h : DD X W Γ e et m) (ds : α → List D) (n : Nat) (hm : X.mg "len" = none) (h1 : ∀ x, et x = .tup (ds x) := by intro _; rfl) (h2 : ∀ x, (ds x).length = n := by intro _; rfl) (hg : Gl X "len" := by rfl) (hs : starEach [e] X.env = (false, eval e X.env) :: starEach [] X.env := by exact star_cons rfl) : DD X W Γ (.Call (.Name "len" p) [e] [] pos) D.int (m >>= fun _ => .ok (n : Int)) :=
  dmk ⟨_, pe_callB call_len_seq hg hm boot_len (pa_cons (pe_w X e) pa_nil (hs := hs)) (he := hs), fun F M0 M H σ Q s po => h F M0 M H σ _ s (po.bind.imp (fun x _ k v M1 H1 g1 r1 => by
    rw [h1 x] at r1
    obtain ⟨a, vs, rfl, hl, r1⟩ := r1
    exact ⟨a, vs, rfl, .inr (same_sqt g1.mh hl), k _ M1 H1 g1 (by rw [r1.len, h2 x]; rfl)⟩) fun _ z => z)⟩
end
end Cn
/-! CnB: paths into one's own trees; lenses -/
namespace Cn
open PySem PySem.Spec L2
def T.kids : T → List T
  | .imm _ => []
  | .lst ts => ts
  | .dic _ ts => ts
  | .dit _ ts => ts
  | .obj _ _ ts => ts
def T.wk : T → List T → T
  | .imm d, _ => .imm d
  | .lst _, ts => .lst ts
  | .dic ks _, ts => .dic ks ts
  | .dit ks _, ts => .dit ks ts
  | .obj C fs _, ts => .obj C fs ts
def T.get : List Nat → T → Option T
  | [], t => some t
  | i :: p, t => match t.kids[i]? with
    | some k => T.get p k
    | none => none
def T.set : List Nat → T → T → T
  | [], _, u => u
  | i :: p, t, u => match t.kids[i]? with
    | some k => t.wk (t.kids.set i (T.set p k u))
    | none => t
/-- the values below an object -/
def okids : HO → Option (List V)
  | .lst vs => some vs
  | .dK kvs => some (kvs.map (·.2))
  | .dT kvs => some (kvs.map (·.2))
  | .ins _ _ kvs => some (kvs.map (·.2))
  | _ => none
/-- w stands at the path p below v -/
def At (H : Hp) : List Nat → V → V → Prop
  | [], v, w => w = v
  | i :: p, v, w => ∃ a o vs u, v = .ref a ∧ H a = some o ∧ okids o = some vs ∧ vs[i]? = some u ∧ At H p u w
theorem At.same {H H' : Hp} (e : Same H H') : ∀ {p : List Nat} {v w : V}, At H p v w → At H' p v w
  | [], v, w, h => h
  | i :: p, v, w, ⟨a, o, vs, u, h1, h2, h3, h4, h5⟩ => ⟨a, o, vs, u, h1, e _ _ h2, h3, h4, At.same e h5⟩
theorem At.det {H : Hp} : ∀ {p : List Nat} {v w w' : V}, At H p v w → At H p v w' → w = w'
  | [], v, w, w', h, h' => by rw [show w = v from h, show w' = v from h']
  | i :: p, v, w, w', ⟨a, o, vs, u, h1, h2, h3, h4, h5⟩, ⟨a', o', vs', u', g1, g2, g3, g4, g5⟩ => by
    subst h1
    cases g1
    rw [h2] at g2
    cases g2
    rw [h3] at g3
    cases g3
    rw [h4] at g4
    cases g4
    exact At.det h5 g5
theorem At.snoc {H : Hp} {i : Nat} {a : Addr} {o : HO} {vs : List V} {u : V} (h2 : H a = some o) (h3 : okids o = some vs) (h4 : vs[i]? = some u) : ∀ {p : List Nat} {v : V}, At H p v (.ref a) → At H (p ++ [i]) v u
  | [], v, h => ⟨a, o, vs, u, h.symm, h2, h3, h4, rfl⟩
  | j :: p, v, ⟨b, o', vs', u', g1, g2, g3, g4, g5⟩ => ⟨b, o', vs', u', g1, g2, g3, g4, At.snoc h2 h3 h4 g5⟩
section
variable {G : Ctx} {F M0 M M' H H' : Hp}
theorem Owns.focus : ∀ {ts : List T} {vs : List V} {as : List Addr} {i : Nat} {t : T}, Owns G M H ts vs as → ts[i]? = some t →
    ∃ v l a r, vs[i]? = some v ∧ as = l ++ a ++ r ∧ Own G M H t v a ∧ ∀ M' H' t' v' a', Same M M' → (∀ b ∈ l ++ r, ∀ o, H b = some o → H' b = some o) → Own G M' H' t' v' a' → Owns G M' H' (ts.set i t') (vs.set i v') (l ++ a' ++ r)
  | [], vs, as, i, t, h, e => by simp at e
  | t0 :: ts, vs, as, 0, t, ⟨v, r, a1, a2, h1, h2, h3, h4⟩, e => by
    have z : t0 = t := Option.some.inj e
    subst z; subst h1
    exact ⟨v, [], a1, a2, rfl, h2, h3, fun M' H' t' v' a' m k o => ⟨v', r, a', a2, rfl, rfl, o, Owns.keep m _ _ _ (fun b hb => k b hb) h4⟩⟩
  | t0 :: ts, vs, as, i + 1, t, ⟨v, r, a1, a2, h1, h2, h3, h4⟩, e => by
    subst h1; subst h2
    obtain ⟨w, l, a, r', q1, q2, q3, q4⟩ := Owns.focus (i := i) h4 e
    subst q2
    refine ⟨w, a1 ++ l, a, r', q1, by simp, q3, fun M' H' t' v' a' m k o => ⟨v, r.set i v', a1, l ++ a' ++ r', rfl, by simp, Own.keep m t0 v a1 (fun b hb => k b (by simp [hb])) h3, q4 M' H' t' v' a' m (fun b hb => k b ?_) o⟩⟩
    rw [List.append_assoc]; exact List.mem_append_right _ hb
theorem set_same {α : Type} {xs : List α} {i : Nat} {x : α} (h : xs[i]? = some x) : xs.set i x = xs := by
  apply List.ext_getElem?
  intro j
  rw [List.getElem?_set]
  by_cases c : i = j
  · subst c
    rw [if_pos rfl, h]
    have := (List.getElem?_eq_some_iff.mp h).1
    simp [this]
  · rw [if_neg c]
/-- the tree at a path alone, the others around it -/
theorem Own.focus : ∀ {p : List Nat} {t u : T} {v : V} {as : List Addr}, Own G M H t v as → T.get p t = some u →
    ∃ w l a r, At H p v w ∧ as = l ++ a ++ r ∧ Own G M H u w a ∧ ∀ M' H' u' a', Same M M' → (∀ b ∈ l ++ r, ∀ o, H b = some o → H' b = some o) → Own G M' H' u' w a' → Own G M' H' (T.set p t u') v (l ++ a' ++ r)
  | [], t, u, v, as, h, e => by
    cases e
    exact ⟨v, [], as, [], rfl, by simp, h, fun M' H' u' a' _ _ o => by simpa [T.set] using o⟩
  | i :: p, t, u, v, as, h, e => by
    cases ek : t.kids[i]? with
    | none => unfold T.get at e; rw [ek] at e; cases e
    | some k =>
      have e : T.get p k = some u := by unfold T.get at e; rw [ek] at e; exact e
      have es : ∀ u', T.set (i :: p) t u' = t.wk (t.kids.set i (T.set p k u')) := fun u' => by
        show (match t.kids[i]? with | some k => t.wk (t.kids.set i (T.set p k u')) | none => t) = _
        rw [ek]
      revert ek es
      rename_i e0
      clear e0
      intro ek es
      cases t with
      | imm d => cases ek
      | lst ts =>
        obtain ⟨a, vs, r0, h1, h2, h3, h4⟩ := h
        subst h2
        obtain ⟨x, l, b, r, q1, q2, q3, q4⟩ := Owns.focus h4 ek
        obtain ⟨w, l', c, r', z1, z2, z3, z4⟩ := Own.focus q3 e
        subst q2; subst z2
        refine ⟨w, a :: (l ++ l'), c, r' ++ r, ⟨a, _, vs, x, h1, h3, rfl, q1, z1⟩, by simp, z3, fun M' H' u' a' m kk o => ?_⟩
        rw [es]
        have := q4 M' H' _ x _ m (fun b hb => kk b (by simp only [List.mem_append, List.mem_cons] at hb ⊢; rcases hb with z | z <;> simp [z])) (z4 M' H' u' a' m (fun b hb => kk b (by simp only [List.mem_append, List.mem_cons] at hb ⊢; rcases hb with z | z <;> simp [z])) o)
        rw [set_same q1] at this
        exact ⟨a, vs, l ++ (l' ++ a' ++ r') ++ r, h1, by simp, kk a (by simp) _ h3, this⟩
      | dic ks ts =>
        obtain ⟨a, vs, r0, h1, h2, h3, h5, h4⟩ := h
        subst h2
        obtain ⟨x, l, b, r, q1, q2, q3, q4⟩ := Owns.focus h4 ek
        obtain ⟨w, l', c, r', z1, z2, z3, z4⟩ := Own.focus q3 e
        subst q2; subst z2
        refine ⟨w, a :: (l ++ l'), c, r' ++ r, ⟨a, _, _, x, h1, h3, rfl, q1, z1⟩, by simp, z3, fun M' H' u' a' m kk o => ?_⟩
        rw [es]
        have := q4 M' H' _ x _ m (fun b hb => kk b (by simp only [List.mem_append, List.mem_cons] at hb ⊢; rcases hb with z | z <;> simp [z])) (z4 M' H' u' a' m (fun b hb => kk b (by simp only [List.mem_append, List.mem_cons] at hb ⊢; rcases hb with z | z <;> simp [z])) o)
        rw [set_same q1] at this
        exact ⟨a, vs, l ++ (l' ++ a' ++ r') ++ r, h1, by simp, kk a (by simp) _ h3, h5, this⟩
      | dit ks ts =>
        obtain ⟨a, vs, r0, h1, h2, h3, h5, h4⟩ := h
        subst h2
        obtain ⟨x, l, b, r, q1, q2, q3, q4⟩ := Owns.focus h4 ek
        obtain ⟨w, l', c, r', z1, z2, z3, z4⟩ := Own.focus q3 e
        subst q2; subst z2
        refine ⟨w, a :: (l ++ l'), c, r' ++ r, ⟨a, _, _, x, h1, h3, rfl, q1, z1⟩, by simp, z3, fun M' H' u' a' m kk o => ?_⟩
        rw [es]
        have := q4 M' H' _ x _ m (fun b hb => kk b (by simp only [List.mem_append, List.mem_cons] at hb ⊢; rcases hb with z | z <;> simp [z])) (z4 M' H' u' a' m (fun b hb => kk b (by simp only [List.mem_append, List.mem_cons] at hb ⊢; rcases hb with z | z <;> simp [z])) o)
        rw [set_same q1] at this
        exact ⟨a, vs, l ++ (l' ++ a' ++ r') ++ r, h1, by simp, kk a (by simp) _ h3, h5, this⟩
      | obj C fs ts =>
        obtain ⟨a, c0, dx, vs, r0, h1, h2, h6, h3, h5, h4⟩ := h
        subst h2
        obtain ⟨x, l, b, r, q1, q2, q3, q4⟩ := Owns.focus h4 ek
        obtain ⟨w, l', c, r', z1, z2, z3, z4⟩ := Own.focus q3 e
        subst q2; subst z2
        refine ⟨w, a :: (l ++ l'), c, r' ++ r, ⟨a, _, _, x, h1, h3, rfl, q1, z1⟩, by simp, z3, fun M' H' u' a' m kk o => ?_⟩
        rw [es]
        have := q4 M' H' _ x _ m (fun b hb => kk b (by simp only [List.mem_append, List.mem_cons] at hb ⊢; rcases hb with z | z <;> simp [z])) (z4 M' H' u' a' m (fun b hb => kk b (by simp only [List.mem_append, List.mem_cons] at hb ⊢; rcases hb with z | z <;> simp [z])) o)
        rw [set_same q1] at this
        exact ⟨a, c0, dx, vs, l ++ (l' ++ a' ++ r') ++ r, h1, by simp, h6, kk a (by simp) _ h3, h5, this⟩
/-! ### slots that hold a tree -/
def Sl.tree : Sl → Option T
  | .un => none
  | .ow t => some t
  | .pn _ t => some t
  | .lk _ => none
def Sl.put : Sl → T → Sl
  | .un, _ => .un
  | .ow _, t => .ow t
  | .pn v _, t => .pn v t
  | .lk t, _ => .lk t
theorem Sat.focusS : ∀ {Γ : List Sl} {σ : St} {as : List Addr} {i : Nat} {x : Sl} {t : T}, Sat G F M H Γ σ as → Γ[i]? = some x → x.tree = some t →
    ∃ v l a r, σ[i]? = some (some v) ∧ as = l ++ a ++ r ∧ Own G M H t v a ∧ (∀ w u, x = .pn w u → v = w) ∧ ∀ M' H' t' a', Same M M' → (∀ b ∈ l ++ r, ∀ o, H b = some o → H' b = some o) → Own G M' H' t' v a' → Sat G F M' H' (Γ.set i (x.put t')) σ (l ++ a' ++ r)
  | [], σ, as, i, x, t, h, e, et => by simp at e
  | .un :: Γ, σ, as, 0, x, t, h, e, et => by cases e; cases et
  | .un :: Γ, σ, as, i + 1, x, t, ⟨y, r, h1, h2⟩, e, et => by
    subst h1
    obtain ⟨v, l, a, r', q1, q2, q3, q5, q4⟩ := Sat.focusS (i := i) h2 e et
    exact ⟨v, l, a, r', q1, q2, q3, q5, fun M' H' t' a' m k o => ⟨y, r, rfl, q4 M' H' t' a' m k o⟩⟩
  | .ow t0 :: Γ, σ, as, 0, x, t, ⟨v, r, a1, a2, h1, h2, h3, h4⟩, e, et => by
    cases e; cases et; subst h1
    refine ⟨v, [], a1, a2, rfl, h2, h3, (fun _ _ z => nomatch z), fun M' H' t' a' m k o => ⟨v, r, a', a2, rfl, rfl, o, Sat.keep m Γ r a2 (fun b hb => k b (by simpa using hb)) h4⟩⟩
  | .ow t0 :: Γ, σ, as, i + 1, x, t, ⟨v, r, a1, a2, h1, h2, h3, h4⟩, e, et => by
    subst h1; subst h2
    obtain ⟨w, l, a, r', q1, q2, q3, q5, q4⟩ := Sat.focusS (i := i) h4 e et
    subst q2
    refine ⟨w, a1 ++ l, a, r', q1, by simp, q3, q5, fun M' H' t' a' m k o => ⟨v, r, a1, l ++ a' ++ r', rfl, by simp, Own.keep m t0 v a1 (fun b hb => k b (by simp [hb])) h3, q4 M' H' t' a' m (fun b hb => k b ?_) o⟩⟩
    rw [List.append_assoc]; exact List.mem_append_right _ hb
  | .lk t0 :: Γ, σ, as, 0, x, t, h, e, et => by cases e; cases et
  | .lk t0 :: Γ, σ, as, i + 1, x, t, ⟨y, r, a0, h1, h2, h3⟩, e, et => by
    subst h1
    obtain ⟨v, l, a, r', q1, q2, q3, q5, q4⟩ := Sat.focusS (i := i) h3 e et
    exact ⟨v, l, a, r', q1, q2, q3, q5, fun M' H' t' a' m k o => ⟨y, r, a0, rfl, Own.keep m _ _ _ (fun _ _ _ q => q) h2, q4 M' H' t' a' m k o⟩⟩
  | .pn w0 t0 :: Γ, σ, as, 0, x, t, ⟨r, a1, a2, h1, h2, h3, h4⟩, e, et => by
    cases e; cases et; subst h1
    refine ⟨w0, [], a1, a2, rfl, h2, h3, (fun _ _ z => by cases z; rfl), fun M' H' t' a' m k o => ⟨r, a', a2, rfl, rfl, o, Sat.keep m Γ r a2 (fun b hb => k b (by simpa using hb)) h4⟩⟩
  | .pn w0 t0 :: Γ, σ, as, i + 1, x, t, ⟨r, a1, a2, h1, h2, h3, h4⟩, e, et => by
    subst h1; subst h2
    obtain ⟨w, l, a, r', q1, q2, q3, q5, q4⟩ := Sat.focusS (i := i) h4 e et
    subst q2
    refine ⟨w, a1 ++ l, a, r', q1, by simp, q3, q5, fun M' H' t' a' m k o => ⟨r, a1, l ++ a' ++ r', rfl, by simp, Own.keep m t0 w0 a1 (fun b hb => k b (by simp [hb])) h3, q4 M' H' t' a' m (fun b hb => k b ?_) o⟩⟩
    rw [List.append_assoc]; exact List.mem_append_right _ hb
/-- the tree at path p of slot i is changed -/
structure Chg (M H M' H' : Hp) (a : List Addr) : Prop where
  kp : ∀ b o, b ∉ a → H b = some o → H' b = some o
  mm : Same M M'
  mh : Same M' H'
  nw : ∀ b, M' b ≠ none → M b ≠ none ∨ H b = none ∨ b ∈ a
structure Nw (M' H : Hp) (a a' : List Addr) : Prop where
  nd : a'.Nodup
  fr : ∀ b ∈ a', b ∈ a ∨ H b = none
  ma : ∀ b ∈ a', M' b = none
theorem S.change {σ : St} {Γ : List Sl} {i : Nat} {x : Sl} {t u : T} {p : List Nat} (s : S G F M0 M H σ Γ) (h : Γ[i]? = some x) (ht : x.tree = some t) (hp : T.get p t = some u) :
    ∃ v w a, σ[i]? = some (some v) ∧ At H p v w ∧ Own G M H u w a ∧ a.Nodup ∧ (∀ b ∈ a, M b = none) ∧ (∀ b ∈ a, F b = none) ∧ (∀ w u, x = .pn w u → v = w) ∧
      ∀ M' H' u' a', Chg M H M' H' a → Own G M' H' u' w a' → Nw M' H a a' → S G F M0 M' H' σ (Γ.set i (x.put (T.set p t u'))) := by
  obtain ⟨as, f, sa⟩ := s
  obtain ⟨v, l, a1, r, q1, q2, q3, q5, q4⟩ := Sat.focusS sa h ht
  obtain ⟨w, l', a, r', z1, z2, z3, z4⟩ := Own.focus q3 hp
  subst z2
  have th := Sat.there Γ σ as sa
  have e : as = (l ++ l') ++ a ++ (r' ++ r) := by rw [q2]; simp
  have nd := f.nd
  rw [e, List.append_assoc, List.nodup_append] at nd
  have nd2 := nd.2.1
  rw [List.nodup_append] at nd2
  have oa : ∀ b ∈ a, b ∈ as := fun b hb => by rw [e]; simp only [List.mem_append]; exact .inl (.inr hb)
  have ol : ∀ b ∈ l ++ l', b ∈ as := fun b hb => by rw [e]; exact List.mem_append_left _ (List.mem_append_left _ hb)
  have oR : ∀ b ∈ r' ++ r, b ∈ as := fun b hb => by rw [e]; exact List.mem_append_right _ hb
  have nl : ∀ b ∈ l ++ l', b ∉ a := fun b hb ha => nd.2.2 b hb b (List.mem_append_left _ ha) rfl
  have nr : ∀ b ∈ r' ++ r, b ∉ a := fun b hb ha => nd2.2.2 b ha b hb rfl
  refine ⟨v, w, a, q1, z1, z3, nd2.1, fun b hb => f.ma b (oa b hb), fun b hb => f.fa b (oa b hb), q5, fun M' H' u' a' c o nw => ?_⟩
  have mN : ∀ b ∈ as, b ∉ a → M' b = none := fun b hb hn => by
    cases eb : M' b with
    | none => rfl
    | some o =>
      rcases c.nw b (by rw [eb]; exact fun q => nomatch q) with q | q | q
      · exact absurd (f.ma b hb) q
      · exact absurd q (th b hb)
      · exact absurd q hn
  have kl : ∀ b ∈ l', ∀ o, H b = some o → H' b = some o := fun b hb o e => c.kp b o (nl b (List.mem_append_right _ hb)) e
  have o2 := z4 M' H' u' a' c.mm (fun b hb o e => c.kp b o (by
    rcases List.mem_append.mp hb with y | y
    · exact nl b (List.mem_append_right _ y)
    · exact nr b (List.mem_append_left _ y)) e) o
  have s2 := q4 M' H' _ _ c.mm (fun b hb o e => c.kp b o (by
    rcases List.mem_append.mp hb with y | y
    · exact nl b (List.mem_append_left _ y)
    · exact nr b (List.mem_append_right _ y)) e) o2
  have e2 : l ++ (l' ++ a' ++ r') ++ r = (l ++ l') ++ a' ++ (r' ++ r) := by simp
  rw [e2] at s2
  refine ⟨_, ⟨fun b o e => ?_, f.mm.trans c.mm, c.mh, fun b z => ?_, ?_, fun b hb => ?_, fun b hb => ?_⟩, s2⟩
  · exact c.kp b o (fun hb => by have := f.fa b (oa b hb); rw [e] at this; cases this) (f.fh b o e)
  · rcases c.nw b z with q | q | q
    · exact f.nw b q
    · exact .inr (f.fh.free q)
    · exact .inr (f.fa b (oa b q))
  · have dj : ∀ b ∈ a', ∀ c' ∈ as, c' ∉ a → b ≠ c' := fun b hb c' hc hn z => by
      subst z
      rcases nw.fr b hb with q | q
      · exact hn q
      · exact th b hc q
    rw [List.append_assoc, List.nodup_append]
    refine ⟨nd.1, by rw [List.nodup_append]; exact ⟨nw.nd, nd2.2.1, fun x hx y hy => dj x hx y (oR y hy) (nr y hy)⟩, fun x hx y hy z => ?_⟩
    rcases List.mem_append.mp hy with q | q
    · exact dj y q x (ol x hx) (nl x hx) z.symm
    · exact nd.2.2 x hx y (List.mem_append_right _ q) z
  · rcases List.mem_append.mp hb with q | q
    · rcases List.mem_append.mp q with q | q
      · exact f.fa b (ol b q)
      · rcases nw.fr b q with y | y
        · exact f.fa b (oa b y)
        · exact f.fh.free y
    · exact f.fa b (oR b q)
  · rcases List.mem_append.mp hb with q | q
    · rcases List.mem_append.mp q with q | q
      · exact mN b (ol b q) (nl b q)
      · exact nw.ma b q
    · exact mN b (oR b q) (nr b q)
end
end Cn
/-! CnC: what stands at a path, looked at and changed -/
namespace Cn
open PySem PySem.Spec L2
theorem T.get_snoc {j : Nat} {u : T} : ∀ {p : List Nat} {t : T}, T.get p t = some u → T.get (p ++ [j]) t = u.kids[j]?
  | [], t, h => by
    cases h
    show (match u.kids[j]? with | some k => T.get [] k | none => none) = _
    cases u.kids[j]? <;> rfl
  | i :: p, t, h => by
    show (match t.kids[i]? with | some k => T.get (p ++ [j]) k | none => none) = _
    have h : (match t.kids[i]? with | some k => T.get p k | none => none) = some u := h
    cases e : t.kids[i]? with
    | none => rw [e] at h; cases h
    | some k => rw [e] at h; exact T.get_snoc (p := p) h
theorem T.set_snoc {j : Nat} {u y : T} : ∀ {p : List Nat} {t : T}, T.get p t = some u → T.set (p ++ [j]) t y = T.set p t (T.set [j] u y)
  | [], t, h => by cases h; rfl
  | i :: p, t, h => by
    show (match t.kids[i]? with | some k => t.wk (t.kids.set i (T.set (p ++ [j]) k y)) | none => t) = (match t.kids[i]? with | some k => t.wk (t.kids.set i (T.set p k (T.set [j] u y))) | none => t)
    have h : (match t.kids[i]? with | some k => T.get p k | none => none) = some u := h
    cases e : t.kids[i]? with
    | none => rfl
    | some k =>
      rw [e] at h
      show t.wk _ = t.wk _
      rw [T.set_snoc (p := p) h]
/-- e's value is what stands at a path of slot i -/
structure DP (X : Cx) (W : WX) (Γ : List Sl) (e : Expr) (i : Nat) {α β κ : Type} (ea : α → T) (a : α) (path : κ → List Nat) (eb : β → T) (val : κ → β) (put : κ → β → α) (m : R κ) : Prop where
  run : JQ X Γ (wE X e) fun F M0 M H σ Q => Po m (fun k => ∀ v w M' H', Gr M H M' H' → σ[i]? = some (some v) → At H' (path k) v w → Q w H') (fun c => ∀ M' H', Gr M H M' H' → Er X.G W c σ H')
  get : ∀ k, m = .ok k → T.get (path k) (ea a) = some (eb (val k))
  set : ∀ k y, m = .ok k → T.set (path k) (ea a) (eb y) = ea (put k y)
theorem Po.and {α : Type} {m : R α} {Q : α → Prop} {E : Str → Prop} (h : Po m Q E) : Po m (fun x => m = .ok x ∧ Q x) E := by
  cases m with
  | bad => exact h
  | err c => exact h
  | ok a => exact ⟨rfl, h⟩
section
variable {X : Cx} {W : WX} {Γe Γ : List Sl} {a b e c tg : Expr} {es : List Expr} {α β γ κ ω ω1 : Type} {pos : Pos} {s : Stmt} {rest ss A B : List Stmt}
section
variable {i : Nat} {ea : α → T} {x0 : α} {path : κ → List Nat} {eb : β → T} {val : κ → β} {put : κ → β → α} {m : R κ}
theorem S.look {G : Ctx} {F M0 M H : Hp} {σ : St} {Γ : List Sl} {i : Nat} {x : Sl} {t : T} (s : S G F M0 M H σ Γ) (h : Γ[i]? = some x) (ht : x.tree = some t) : ∃ v a, σ[i]? = some (some v) ∧ Own G M H t v a := by
  obtain ⟨v, w, a, h1, h2, h3, _⟩ := s.change (p := []) h ht rfl
  cases h2
  exact ⟨_, _, h1, h3⟩
theorem S.at {G : Ctx} {F M0 M H : Hp} {σ : St} {Γ : List Sl} {i : Nat} {x : Sl} {t u : T} {p : List Nat} (s : S G F M0 M H σ Γ) (h : Γ[i]? = some x) (ht : x.tree = some t) (hp : T.get p t = some u) : ∃ v w a, σ[i]? = some (some v) ∧ At H p v w ∧ Own G M H u w a := by
  obtain ⟨v, w, a, h1, h2, h3, _⟩ := s.change h ht hp
  exact ⟨v, w, a, h1, h2, h3⟩
theorem dp_var {n : Str} {x : Sl} (i : Nat) (h : Γ[i]? = some x) (ht : x.tree = some (ea x0)) (hN : X.N[i]? = some n := by rfl) (hv : Vis X.env.scope n := by first | exact Or.inl rfl | exact Or.inr (Or.inl rfl) | exact Or.inr (Or.inr rfl))
    (hd : (n == ("__debug__" : Str)) = false := by decide) (hcd : (n == ("__classdict__" : Str)) = false := by decide) : DP X W Γ (.Name n pos) i ea x0 (fun _ : Unit => []) ea (fun _ => x0) (fun _ y => y) (.ok ()) where
  run := dmk ⟨_, pe_var hN hv hd hcd, fun F M0 M H σ Q s po => by
    obtain ⟨v, a, h1, h2⟩ := s.look h ht
    exact ⟨v, h1, po v v M H (.refl s.mh) h1 rfl⟩⟩
  get := fun _ _ => rfl
  set := fun _ _ _ => rfl
/-- looked at -/
theorem db_dp {x : Sl} (h : DP X W Γ e i ea x0 path eb val put m) (hx : Γ[i]? = some x) (ht : x.tree = some (ea x0)) : DB X W Γ e eb (m >>= fun k => .ok (val k)) := ⟨fun F M0 M H σ Q s po => h.run F M0 M H σ _ s ((Po.bind po).and.imp (fun k _ ⟨em, q⟩ v w M1 H1 g hv hw => by
  obtain ⟨v', w', a, h1, h2, h3⟩ := (s.grow g).at hx ht (h.get k em)
  rw [hv] at h1
  cases h1
  cases At.det hw h2
  exact q w M1 H1 a g h3) fun _ z => z)⟩
/-- the class of one's own objects -/
structure ClF (X : Cx) (n : Str) (C : Addr) : Prop where
  g : X.mg n = some (.ref C)
  c : Cls X.K C
theorem lookup_ix {f : Str} : ∀ {kvs : List (Str × V)} {j : Nat}, (kvs.map (·.1)).findIdx? (f == ·) = some j → ∃ v, (kvs.map (·.2))[j]? = some v ∧ kvs.lookup f = some v
  | [], j, h => by cases h
  | (k, v) :: kvs, j, h => by
    rw [List.map_cons, List.findIdx?_cons] at h
    by_cases c : (f == k) = true
    · rw [if_pos c] at h
      cases h
      exact ⟨v, rfl, by rw [List.lookup_cons, c]⟩
    · rw [if_neg c] at h
      cases q : (kvs.map (·.1)).findIdx? (f == ·) with
      | none => rw [q] at h; cases h
      | some j' =>
        rw [q] at h
        cases h
        obtain ⟨w, h1, h2⟩ := lookup_ix q
        refine ⟨w, h1, ?_⟩
        rw [List.lookup_cons, show (f == k) = false from by simpa using c]
        exact h2
theorem dp_fld {n f : Str} {C : Addr} {x : Sl} {fs : List Str} {ec : γ → T} {ts : β → List T} (j : Nat) (g : β → γ) (st : β → γ → β) (hp : DP X W Γ e i ea x0 path eb val put m) (hx : Γ[i]? = some x) (ht : x.tree = some (ea x0)) (cf : ClF X n C) (na : NoAttr X.K C f)
    (hb : ∀ y, eb y = .obj n fs (ts y) := by intro _; rfl) (hj : fs.findIdx? (f == ·) = some j := by decide) (hg : ∀ y, (ts y)[j]? = some (ec (g y)) := by intro _; rfl) (hs : ∀ y z, T.obj n fs ((ts y).set j (ec z)) = eb (st y z) := by intro _ _; rfl)
    (hba : attributeBase e f X.env (eval e X.env) = eval e X.env := by rfl) : DP X W Γ (.Attribute e f pos) i ea x0 (fun k => path k ++ [j]) ec (fun k => g (val k)) (fun k z => put k (st (val k) z)) m where
  run := dmk ⟨_, pe_fld (pe_w X e) hba, fun F M0 M H σ Q s po => hp.run F M0 M H σ _ s (po.and.imp (fun k _ ⟨em, q⟩ v w M1 H1 gr hv hw => by
    obtain ⟨v', w', a, h1, h2, h3⟩ := (s.grow gr).at hx ht (hp.get k em)
    rw [hv] at h1
    cases h1
    cases At.det hw h2
    rw [hb] at h3
    obtain ⟨ad, c0, dx, kvs, r, rfl, q2, q3, q4, q5, q6⟩ := h3
    have hj := hj
    rw [← q5] at hj
    obtain ⟨u, z1, z2⟩ := lookup_ix hj
    have z3 : X.mg n = some (.ref c0) := q3
    rw [cf.g] at z3
    cases z3
    exact ⟨ad, C, dx, kvs, u, rfl, q4, cf.c, na, z2, q v u M1 H1 gr hv (At.snoc q4 rfl z1 hw)⟩) fun _ z => z)⟩
  get := fun k em => by
    rw [T.get_snoc (hp.get k em), hb]
    exact hg _
  set := fun k y em => by
    rw [T.set_snoc (hp.get k em), ← hp.set k _ em, ← hs, hb]
    show T.set (path k) (ea x0) (match (ts (val k))[j]? with | some _ => _ | none => _) = _
    rw [hg]
    rfl
def ixI {β : Type} (xs : List β) (i : Int) : Option (Nat × β) := match ixN xs.length i with
  | some j => xs[j]?.map fun x => (j, x)
  | none => none
theorem ixI_some {β : Type} {xs : List β} {i : Int} {p : Nat × β} (h : ixI xs i = some p) : ixN xs.length i = some p.1 ∧ xs[p.1]? = some p.2 := by
  unfold ixI at h
  cases q : ixN xs.length i with
  | none => rw [q] at h; cases h
  | some j =>
    rw [q] at h
    have h : (xs[j]?.map fun x => (j, x)) = some p := h
    cases z : xs[j]? with
    | none => rw [z] at h; cases h
    | some y => rw [z] at h; cases h; exact ⟨rfl, z⟩
theorem dp_ix {x : Sl} {ec : γ → T} {val : κ → List γ} {put : κ → List γ → α} {mb : R Int} (hp : DP X W Γ e i ea x0 path (fun xs => .lst (xs.map ec)) val put m) (hx : Γ[i]? = some x) (ht : x.tree = some (ea x0)) (hb : DD X W Γ b D.int mb) (hs : PlainIx b := by exact fun _ _ => rfl) :
    DP X W Γ (.Subscript e b pos) i ea x0 (fun k : κ × Nat × γ => path k.1 ++ [k.2.1]) ec (fun k => k.2.2) (fun k z => put k.1 ((val k.1).set k.2.1 z)) (m >>= fun k => mb >>= fun z => ofO (ixI (val k) z) >>= fun p => .ok (k, p)) where
  run := dmk ⟨_, pe_ix ix_list (pe_w X e) (pe_w X b) hs, fun F M0 M H σ Q s po => hp.run F M0 M H σ _ s (po.bind.and.imp (fun k _ ⟨em, q⟩ v w M1 H1 g1 hv hw => hb F M0 M1 H1 σ _ (s.grow g1) (q.bind.imp (fun z _ q u M2 H2 g2 r2 => by
    have q := q.bind
    obtain ⟨p, ez, q⟩ := q.ofO
    obtain ⟨i1, i2⟩ := ixI_some ez
    obtain ⟨v', w', as, h1, h2, h3⟩ := (s.grow (g1.trans g2)).at hx ht (hp.get k em)
    rw [hv] at h1
    cases h1
    have hw2 := At.same g2.hh hw
    cases At.det hw2 h2
    obtain ⟨ad, vs, r, rfl, q2, q3, q4⟩ := h3
    obtain ⟨y, ay, y1, _, _⟩ := Owns.get q4 (i := p.1) (t := ec p.2) (by rw [List.getElem?_map, i2]; rfl)
    refine ⟨ad, vs, z, y, rfl, r2, .of q3, ?_, q v y M2 H2 (g1.trans g2) hv (At.snoc q3 rfl y1 hw2)⟩
    unfold atI
    rw [show vs.length = (val k).length by rw [q4.len, List.length_map], i1]
    exact y1) fun c z M' H' g => z M' H' (g1.trans g))) fun _ z => z)⟩
  get := fun k em => by
    cases hm : m with
    | bad => rw [hm] at em; cases em
    | err c => rw [hm] at em; cases em
    | ok k0 =>
      rw [hm] at em
      have em : (mb >>= fun z => ofO (ixI (val k0) z) >>= fun p => R.ok (k0, p)) = .ok k := em
      cases hz : mb with
      | bad => rw [hz] at em; cases em
      | err c => rw [hz] at em; cases em
      | ok z =>
        rw [hz] at em
        have em : (ofO (ixI (val k0) z) >>= fun p => R.ok (k0, p)) = .ok k := em
        cases hi : ixI (val k0) z with
        | none => rw [hi] at em; cases em
        | some p =>
          rw [hi] at em
          cases em
          rw [T.get_snoc (hp.get k0 hm)]
          show ((val k0).map ec)[p.1]? = _
          rw [List.getElem?_map, (ixI_some hi).2]
          rfl
  set := fun k y em => by
    cases hm : m with
    | bad => rw [hm] at em; cases em
    | err c => rw [hm] at em; cases em
    | ok k0 =>
      rw [hm] at em
      have em : (mb >>= fun z => ofO (ixI (val k0) z) >>= fun p => R.ok (k0, p)) = .ok k := em
      cases hz : mb with
      | bad => rw [hz] at em; cases em
      | err c => rw [hz] at em; cases em
      | ok z =>
        rw [hz] at em
        have em : (ofO (ixI (val k0) z) >>= fun p => R.ok (k0, p)) = .ok k := em
        cases hi : ixI (val k0) z with
        | none => rw [hi] at em; cases em
        | some p =>
          rw [hi] at em
          cases em
          rw [T.set_snoc (hp.get k0 hm), ← hp.set k0 _ hm]
          congr 1
          show (match ((val k0).map ec)[p.1]? with | some k => T.lst (((val k0).map ec).set p.1 (ec y)) | none => _) = _
          rw [List.getElem?_map, (ixI_some hi).2, List.map_set]
          rfl
end
end
end Cn
/-! CnD: expressions that change one's own; stores at paths -/
namespace Cn
open PySem PySem.Spec L2
section
variable {G : Ctx} {F M0 M M' H H' : Hp} {σ : St} {Γ : List Sl}
theorem S.front {v : V} {t : T} (s : S G F M0 M H (some v :: σ) (.ow t :: Γ)) : S G F M0 M H σ Γ := by
  obtain ⟨as, f, ⟨v', r, a1, a2, e1, e2, h3, h4⟩⟩ := s
  cases e1
  exact ⟨a2, f.sub (by rw [e2]; exact List.sublist_append_right _ _), h4⟩
/-- the value ahead of the slots, stored -/
theorem S.pop {v : V} {t : T} {i : Nat} (s : S G F M0 M H (some v :: σ) (.ow t :: Γ)) (hi : i < Γ.length) : S G F M0 M H (σ.set i (some v)) (Γ.set i (.ow t)) := by
  obtain ⟨as, f, ⟨v', r, a1, a2, e1, e2, h3, h4⟩⟩ := s
  cases e1
  obtain ⟨bs, l, r', sb, eb, sub⟩ := Sat.put h4 hi h3
  refine ⟨bs, ?_, sb⟩
  have f2 : Fr0 F M0 M H (a1 ++ (l ++ r')) := f.sub (by rw [e2]; exact List.Sublist.append_left sub a1)
  refine f2.perm ?_
  rw [eb, ← List.append_assoc]
  exact List.perm_append_comm.append_right r'
/-- what stands ahead was made just now -/
theorem S.back {v : V} {t : T} (s : S G F M0 M H (some v :: σ) (.ow t :: Γ)) : ∃ Hm n, S G F M0 M Hm σ Γ ∧ Gr M Hm M H ∧ Own G M H t v n ∧ n.Nodup ∧ ∀ a ∈ n, Hm a = none ∧ M a = none := by
  obtain ⟨as, f, ⟨v', r, a1, a2, e1, e2, h3, h4⟩⟩ := s
  cases e1
  have nd := f.nd
  rw [e2, List.nodup_append] at nd
  obtain ⟨Hm, hM⟩ : ∃ Hm : Hp, Hm = fun b => if b ∈ a1 then none else H b := ⟨_, rfl⟩
  have m1 : ∀ b ∈ a1, Hm b = none := fun b hb => by rw [hM]; show (if b ∈ a1 then none else H b) = none; rw [if_pos hb]
  have m2 : ∀ b, b ∉ a1 → Hm b = H b := fun b hb => by rw [hM]; show (if b ∈ a1 then none else H b) = H b; rw [if_neg hb]
  have o1 : ∀ b ∈ a1, b ∈ as := fun b hb => by rw [e2]; exact List.mem_append_left _ hb
  refine ⟨Hm, a1, ⟨a2, ⟨fun b o e => ?_, f.mm, fun b o e => ?_, f.nw, nd.2.1, fun b hb => f.fa b (by rw [e2]; exact List.mem_append_right _ hb), fun b hb => f.ma b (by rw [e2]; exact List.mem_append_right _ hb)⟩, Sat.keep (.refl _) _ _ _ (fun b hb o e => ?_) h4⟩, ⟨fun b o e => ?_, .refl _, f.mh, fun b z => .inl z⟩, h3, nd.1, fun b hb => ⟨m1 b hb, f.ma b (o1 b hb)⟩⟩
  · rw [m2 b fun hb => by have := f.fa b (o1 b hb); rw [e] at this; cases this]
    exact f.fh b o e
  · rw [m2 b fun hb => by have := f.ma b (o1 b hb); rw [e] at this; cases this]
    exact f.mh b o e
  · rw [m2 b fun hb' => nd.2.2 b hb' b hb rfl]; exact e
  · by_cases hb : b ∈ a1
    · rw [m1 b hb] at e; cases e
    · rw [m2 b hb] at e; exact e
end
/-- an expression that may change what the slots own -/
abbrev DX (X : Cx) (W : WX) (Γ : List Sl) (e : Expr) {β : Type} (Γ' : β → List Sl) (emb : β → T) (m : R β) : Prop :=
  JQ X Γ (wE X e) fun F M0 M H σ Q => Po m (fun x => ∀ v M' H', S X.G F M0 M' H' (some v :: σ) (.ow (emb x) :: Γ' x) → Q v H') (fun c => ∀ M' H', S X.G F M0 M' H' σ Γ → Er X.G W c σ H')
section
variable {X : Cx} {W : WX} {Γe Γ : List Sl} {a b e c tg : Expr} {es : List Expr} {α β γ κ ω ω1 : Type} {pos : Pos} {s : Stmt} {rest ss A B : List Stmt}
theorem dx_df {emb : α → T} {m : R α} (h : DF X W Γ e emb m) : DX X W Γ e (fun _ => Γ) emb m := ⟨fun F M0 M H σ Q s po => h F M0 M H σ Q s (po.imp (fun x _ k v M' H' as g o nd fr => k v M' H' (s.cons g o nd fr)) fun c z M' H' g => z M' H' (s.grow g))⟩
theorem dx_dd {emb : α → D} {m : R α} (h : DD X W Γ e emb m) : DX X W Γ e (fun _ => Γ) (fun x => .imm (emb x)) m := dx_df (df_of_dd h)
/-- a name whose tree is given away -/
theorem dx_move {n : Str} {t : T} {emb : α → T} {x : α} (i : Nat) (h : Γ[i]? = some (.ow (emb x))) (hN : X.N[i]? = some n := by rfl) (hv : Vis X.env.scope n := by first | exact Or.inl rfl | exact Or.inr (Or.inl rfl) | exact Or.inr (Or.inr rfl))
    (hd : (n == ("__debug__" : Str)) = false := by decide) (hcd : (n == ("__classdict__" : Str)) = false := by decide) : DX X W Γ (.Name n pos) (fun _ => Γ.set i .un) emb (.ok x) := dmk
  ⟨_, pe_var hN hv hd hcd, fun F M0 M H σ Q s po => by
    obtain ⟨as, f, sa⟩ := s
    obtain ⟨v, bs, q1, q2, q3⟩ := Sat.move sa h
    exact ⟨v, q1, po v M H ⟨bs, f.perm q3, q2⟩⟩⟩
theorem er_wkS {F M0 : Hp} {σ : St} (hw : Wk Γe Γ) {c : Str} (z : ∀ M' H' σ', S X.G F M0 M' H' σ' Γe → Er X.G W c σ' H') : ∀ M' H', S X.G F M0 M' H' σ Γ → Er X.G W c σ H' := fun M' H' s => z M' H' σ (s.wk hw)
theorem st_setX {n : Str} {p : Pos} {Γ' : α → List Sl} {emb : α → T} {m : R α} (i : Nat) (he : DX X W Γ e Γ' emb m) (hw : Wk Γe Γ) (hl : ∀ x, Nat.blt i (Γ' x).length = true := by intro _; rfl) (hN : X.N.Nodup) (hi : X.N[i]? = some n := by rfl) (hx : Loc X.env.scope n := by first | exact Or.inl rfl | exact Or.inr rfl)
    (hs : swapsWith e (some (.Name n p)) pos.line X.env = pure false := by rfl) (hf : X.fn n = true ∨ X.env.scope.names.lookup n = some .local := by first | exact .inl rfl | exact .inr rfl) : St1 X W Γe Γ (.Assign [.Name n p] e pos) (fun x => .n ((Γ' x).set i (.ow (emb x)))) m :=
  smk ⟨_, ps_set hN hi hx (pe_w X e) hs hf, fun F M0 M H σ D s po => he F M0 M H σ _ s (po.imp (fun x _ q v M' H' st => Kn.nx q _ rfl M' H' _ (st.pop (Nat.le_of_ble_eq_true (hl x)))) fun c z => er_wkS hw z)⟩
theorem st_exprX {Γ' : α → List Sl} {emb : α → T} {m : R α} (he : DX X W Γ e Γ' emb m) (hw : Wk Γe Γ) (hs : swapsWith e none pos.line X.env = pure false := by rfl) : St1 X W Γe Γ (.Expr e pos) (fun x => .n (Γ' x)) m :=
  smk ⟨_, ps_expr (pe_w X e) hs, fun F M0 M H σ D s po => he F M0 M H σ _ s (po.imp (fun x _ q v M' H' st => Kn.nx q _ rfl M' H' _ st.front) fun c z => er_wkS hw z)⟩
theorem bk_retX {Γ' : α → List Sl} {emb : α → T} {m : R α} {κ : ω → Kd} {g : α → ω} {Γr : α → List Sl} (he : DX X W Γ e Γ' emb m) (hk : ∀ x, (κ (g x)).rt = some (emb x, Γr x)) (hr : ∀ x, Wk (Γr x) (Γ' x)) (hw : Wk Γe Γ) : Bk X W Γe Γ (.Return (some e) pos :: rest) κ (m >>= fun x => .ok (g x)) :=
  bmk ⟨_, pss_cons (ps_ret (pe_w X e)) (pss_w X rest), fun F M0 M H σ D s po => he F M0 M H σ _ s (po.bind.imp (fun x _ q v M' H' st => Kn.rt q _ _ (hk x) M' H' σ v (st.wkc (hr x))) fun c z => er_wkS hw z)⟩
theorem st_asgX {Γ' : α → List Sl} {emb : α → D} {m : R α} {put : α → List Sl} (he : DX X W Γ e Γ' (fun x => .imm (emb x)) m) (hg : ∀ x, DG X (Γ' x) tg (put x) (emb x)) (hw : Wk Γe Γ) (hs : swapsWithSole [tg] e pos.line X.env = pure false := by rfl) (hsw : swappedStores [tg] e X.env = pure none := by rfl)
    (h1 : (assignEach [tg] X.env).map (·.2) = [assign tg X.env] := by rfl) : St1 X W Γe Γ (.Assign [tg] e pos) (fun x => .n (put x)) m :=
  smk ⟨_, ps_asg (pe_w X e) (pg_w X tg) hs hsw h1, fun F M0 M H σ D st po => he F M0 M H σ _ st (po.imp (fun x _ k v M1 H1 st1 => by
    obtain ⟨Hm, n, s', g, o, _⟩ := st1.back
    exact hg x F M0 M1 H1 σ v _ st1.front o.2 fun M2 H2 σ2 _ s2 => Kn.nx k _ rfl M2 H2 σ2 s2) fun c z => er_wkS hw z)⟩
/-! ### what stands at a path is changed -/
theorem mem_ne {H : Hp} {ad : Addr} {r : List Addr} {a : List Addr} (e : a = ad :: r) (nd : a.Nodup) : ad ∉ r := by
  rw [e, List.nodup_cons] at nd
  exact nd.1
/-- the object itself is changed at its place; H1: where its value was found, (M2, H2): where it is changed -/
theorem S.root {G : Ctx} {F M0 M1 H1 : Hp} {σ : St} {Γ : List Sl} {i : Nat} {x : Sl} {t u : T} {p : List Nat} {v w : V} (s : S G F M0 M1 H1 σ Γ) (h : Γ[i]? = some x) (ht : x.tree = some t) (hp : T.get p t = some u) (hv : σ[i]? = some (some v)) (hw : At H1 p v w) :
    ∃ a, Own G M1 H1 u w a ∧ a.Nodup ∧ (∀ b ∈ a, M1 b = none) ∧ ∀ ad r, w = .ref ad → a = ad :: r → ∀ M2 H2 o' u' r', Gr M1 H1 M2 H2 → Own G M2 (upd H2 ad o') u' w (ad :: r') → r'.Nodup → (∀ b ∈ r', (b ∈ r ∨ H1 b = none) ∧ M2 b = none) → S G F M0 M2 (upd H2 ad o') σ (Γ.set i (x.put (T.set p t u'))) := by
  obtain ⟨v', w', a, h1, h2, h3, nd, ma, fa, _, k⟩ := s.change h ht hp
  rw [hv] at h1
  cases h1
  cases At.det hw h2
  refine ⟨a, h3, nd, ma, fun ad r ew ea M2 H2 o' u' r' g o nr fr => ?_⟩
  have ad1 : H1 ad ≠ none := Own.there _ _ _ h3 ad (by rw [ea]; exact List.mem_cons_self)
  have m2 : M2 ad = none := gr_keepNone g (ma ad (by rw [ea]; exact List.mem_cons_self)) ad1
  refine k M2 _ u' (ad :: r') ⟨fun b o hb e => ?_, g.mm, fun b o e => ?_, fun b z => (g.nw b z).elim .inl fun q => .inr (.inl q)⟩ o ⟨?_, fun b hb => ?_, fun b hb => ?_⟩
  · rw [upd_ne fun z => hb (by rw [z, ea]; exact List.mem_cons_self)]
    exact g.hh b o e
  · rw [upd_ne fun z => by rw [z, m2] at e; cases e]
    exact g.mh b o e
  · rw [List.nodup_cons]
    refine ⟨fun hb => ?_, nr⟩
    rcases (fr ad hb).1 with q | q
    · exact mem_ne (H := H1) ea nd q
    · exact ad1 q
  · rcases List.mem_cons.mp hb with q | q
    · rw [q, ea]; exact .inl List.mem_cons_self
    · rcases (fr b q).1 with z | z
      · rw [ea]; exact .inl (List.mem_cons_of_mem _ z)
      · exact .inr z
  · rcases List.mem_cons.mp hb with q | q
    · rw [q]; exact m2
    · exact (fr b q).2
section
variable {i : Nat} {ea : α → T} {x0 : α} {path : κ → List Nat} {eb : β → T} {val : κ → β} {put : κ → β → α} {m : R κ} {x : Sl} {p1 cpos : Pos}
/-- tgt.append(e) -/
theorem st_appendP {ec : γ → T} {val : κ → List γ} {put : κ → List γ → α} {me : R γ} (hp : DP X W Γ tg i ea x0 path (fun xs => .lst (xs.map ec)) val put m) (hx : Γ[i]? = some x) (ht : x.tree = some (ea x0)) (he : DF X W Γ e ec me) (hw : Wk Γe Γ)
    (hbase : attributeBase tg "append" X.env (eval tg X.env) = eval tg X.env := by rfl)
    (hfew : ((backTo cpos (starEach [e] X.env)).all (fun x => !x.1) && (backToKw cpos (keywordEach [] X.env)).all (fun x => x.1.isSome)
      && decide (([e]).length + ([] : List Keyword).length + (if ([] : List Keyword).isEmpty then 0 else 1) < 30)) = true := by rfl)
    (hline : (p1.endLine == cpos.line) = true := by rfl) (hs : starEach [e] X.env = (false, eval e X.env) :: starEach [] X.env := by exact star_cons rfl) (hplain : (backTo cpos (starEach [] X.env)).any (·.1) = false := by rfl)
    (hsw : swapsWith (.Call (.Attribute tg "append" p1) [e] [] cpos) none pos.line X.env = pure false := by rfl) :
    St1 X W Γe Γ (.Expr (.Call (.Attribute tg "append" p1) [e] [] cpos) pos) (fun y => .n (Γ.set i (x.put (ea y)))) (m >>= fun k => me >>= fun z => ofO (appO (val k) z) >>= fun ys => .ok (put k ys)) :=
  smk ⟨_, ps_expr (pe_bm PySem.F.plainAttrs_list PySem.F.slot_list_append PySem.F.type_list_append mt_append (pe_w X tg) (pa_cons (pe_w X e) pa_nil (hs := hs)) hbase hfew hline hs hplain) hsw, fun F M0 M H σ D st po => by
    refine hp.run F M0 M H σ _ st (po.bind.and.imp (fun k _ ⟨em, q⟩ v w M1 H1 g1 hv ha => ?_) fun c z => er_wk st hw z)
    have st1 := st.grow g1
    obtain ⟨a, o1, nd, ma, kk⟩ := st1.root hx ht (hp.get k em) hv ha
    obtain ⟨ad, vs, r, rfl, ea', h1, h2⟩ := id o1
    refine ⟨.inl ⟨rfl, vs, .of h1⟩, ?_⟩
    refine he F M0 M1 H1 σ _ st1 (q.bind.imp (fun z _ q v2 M2 H2 n g2 o2 nd2 fr2 => ?_) fun c z => er_wk st1 hw z)
    have q := q.bind
    obtain ⟨ys, ez, q⟩ := q.ofO
    unfold appO at ez
    by_cases hc : (val k).length < 16777216
    · rw [if_pos hc] at ez
      cases ez
      refine ⟨ad, vs, v2, rfl, rfl, g2.hh _ _ h1, by rw [h2.len, List.length_map, sizeLine_eq]; exact hc, ?_⟩
      refine Kn.nx q _ rfl M2 _ σ ?_
      rw [← hp.set k _ em]
      have hna : ∀ b ∈ r ++ n, b ≠ ad := fun b hb z => by
        subst z
        rcases List.mem_append.mp hb with y | y
        · exact mem_ne (H := H1) ea' nd y
        · have := (fr2 b y).1
          rw [h1] at this; cases this
      refine kk ad r rfl ea' M2 H2 _ _ (r ++ n) g2 ⟨ad, vs ++ [v2], r ++ n, rfl, rfl, upd_same, ?_⟩ ?_ fun b hb => ?_
      · rw [List.map_append]
        refine Owns.app (Owns.keep g2.mm _ _ _ (fun b hb o e => by rw [upd_ne (hna b (List.mem_append_left _ hb))]; exact g2.hh b o e) h2) ?_
        exact ⟨v2, [], n, [], rfl, by simp, Own.keep (.refl _) _ _ _ (fun b hb o e => by rw [upd_ne (hna b (List.mem_append_right _ hb))]; exact e) o2, ⟨rfl, rfl⟩⟩
      · rw [List.nodup_append]
        have nd := nd
        rw [ea', List.nodup_cons] at nd
        refine ⟨nd.2, nd2, fun y hy y' hy' e => ?_⟩
        subst e
        exact Owns.there _ _ _ h2 y hy (fr2 y hy').1
      · rcases List.mem_append.mp hb with y | y
        · exact ⟨.inl y, gr_keepNone g2 (ma b (by rw [ea']; exact List.mem_cons_of_mem _ y)) (Owns.there _ _ _ h2 b y)⟩
        · exact ⟨.inr (fr2 b y).1, (fr2 b y).2⟩
    · rw [if_neg hc] at ez; cases ez⟩
/-- tgt.extend(e), items that are data -/
theorem st_extendP {ei : γ → D} {val : κ → List γ} {put : κ → List γ → α} {me : R (List γ)} (hp : DP X W Γ tg i ea x0 path (fun xs => .lst (xs.map fun y => .imm (ei y))) val put m) (hx : Γ[i]? = some x) (ht : x.tree = some (ea x0)) (he : DLt X W Γ e (fun xs => xs.map ei) me) (hw : Wk Γe Γ)
    (hbase : attributeBase tg "extend" X.env (eval tg X.env) = eval tg X.env := by rfl)
    (hfew : ((backTo cpos (starEach [e] X.env)).all (fun x => !x.1) && (backToKw cpos (keywordEach [] X.env)).all (fun x => x.1.isSome)
      && decide (([e]).length + ([] : List Keyword).length + (if ([] : List Keyword).isEmpty then 0 else 1) < 30)) = true := by rfl)
    (hline : (p1.endLine == cpos.line) = true := by rfl) (hs : starEach [e] X.env = (false, eval e X.env) :: starEach [] X.env := by exact star_cons rfl) (hplain : (backTo cpos (starEach [] X.env)).any (·.1) = false := by rfl)
    (hsw : swapsWith (.Call (.Attribute tg "extend" p1) [e] [] cpos) none pos.line X.env = pure false := by rfl) :
    St1 X W Γe Γ (.Expr (.Call (.Attribute tg "extend" p1) [e] [] cpos) pos) (fun y => .n (Γ.set i (x.put (ea y)))) (m >>= fun k => me >>= fun z => ofO (extO (val k) z) >>= fun ys => .ok (put k ys)) :=
  smk ⟨_, ps_expr (pe_bm PySem.F.plainAttrs_list PySem.F.slot_list_extend PySem.F.type_list_extend mt_extend (pe_w X tg) (pa_cons (pe_w X e) pa_nil (hs := hs)) hbase hfew hline hs hplain) hsw, fun F M0 M H σ D st po => by
    refine hp.run F M0 M H σ _ st (po.bind.and.imp (fun k _ ⟨em, q⟩ v w M1 H1 g1 hv ha => ?_) fun c z => er_wk st hw z)
    have st1 := st.grow g1
    obtain ⟨a, o1, nd, ma, kk⟩ := st1.root hx ht (hp.get k em) hv ha
    obtain ⟨ad, vs, r, rfl, ea', h1, h2⟩ := id o1
    refine ⟨.inl ⟨rfl, vs, .of h1⟩, ?_⟩
    refine he F M0 M1 H1 σ _ st1 (q.bind.imp (fun z _ q b ws M2 H2 g2 hb r2 => ?_) fun c z => er_wk st1 hw z)
    have q := q.bind
    obtain ⟨ys, ez, q⟩ := q.ofO
    unfold extO at ez
    by_cases hc : (val k).length + z.length ≤ 16777216
    · rw [if_pos hc] at ez
      cases ez
      refine ⟨ad, b, vs, ws, rfl, rfl, g2.hh _ _ h1, hb, by rw [h2.len, r2.len, List.length_map, List.length_map, sizeLine_eq]; exact hc, ?_⟩
      refine Kn.nx q _ rfl M2 _ σ ?_
      rw [← hp.set k _ em]
      rw [map_imm] at h2
      obtain ⟨h3, er⟩ := Owns.of_imm h2
      subst er
      refine kk ad [] rfl ea' M2 H2 _ _ [] g2 ⟨ad, vs ++ ws, [], rfl, rfl, upd_same, ?_⟩ List.nodup_nil fun _ z => nomatch z
      rw [map_imm, List.map_append (l₁ := val k)]
      exact Owns.imm ((Reps.mono g2.mm _ _ h3).app r2)
    · rw [if_neg hc] at ez; cases ez⟩
/-- tgt[b] = e -/
theorem st_setixP {ec : γ → T} {val : κ → List γ} {put : κ → List γ → α} {me : R γ} {mi : R Int} {ps : Pos} (hp : DP X W Γ tg i ea x0 path (fun xs => .lst (xs.map ec)) val put m) (hx : Γ[i]? = some x) (ht : x.tree = some (ea x0)) (he : DF X W Γ e ec me) (hi : DD X W Γ b D.int mi) (hw : Wk Γe Γ)
    (ha : ∀ v, assign (.Subscript tg b ps) X.env v = (do
      let ov ← holding [v] (eval tg X.env)
      let iv ← holding [v, ov] (eval b X.env)
      standAt ps
      holding [v, ov, iv] (setItem ov iv v)
      release [v, ov, iv] []) := by intro _; rfl)
    (hs : swapsWithSole [.Subscript tg b ps] e pos.line X.env = pure false := by rfl) (hsw : swappedStores [.Subscript tg b ps] e X.env = pure none := by rfl)
    (h1 : (assignEach [.Subscript tg b ps] X.env).map (·.2) = [assign (.Subscript tg b ps) X.env] := by rfl) :
    St1 X W Γe Γ (.Assign [.Subscript tg b ps] e pos) (fun y => .n (Γ.set i (x.put (ea y)))) (me >>= fun z => m >>= fun k => mi >>= fun j => ofO (setO (val k) j z) >>= fun ys => .ok (put k ys)) :=
  smk ⟨_, ps_asg (pe_w X e) (pg_sub (pe_w X tg) (pe_w X b) set_list ha) hs hsw h1, fun F M0 M H σ D st po => by
    refine he F M0 M H σ _ st (po.bind.imp (fun z _ q v2 M1 H1 n g1 o2 nd2 fr2 => ?_) fun c z => er_wk st hw z)
    have st1 := st.grow g1
    refine hp.run F M0 M1 H1 σ _ st1 (q.bind.and.imp (fun k _ ⟨em, q⟩ v w M2 H2 g2 hv ha => ?_) fun c z => er_wk st1 hw z)
    have st2 := st1.grow g2
    refine hi F M0 M2 H2 σ _ st2 (q.bind.imp (fun j _ q u M3 H3 g3 r3 => ?_) fun c z => er_wk st2 hw z)
    have q := q.bind
    obtain ⟨ys, ez, q⟩ := q.ofO
    unfold setO at ez
    cases hq : ixN (val k).length j with
    | none => rw [hq] at ez; cases ez
    | some l =>
      rw [hq] at ez
      cases ez
      -- the heap in which the new item isn't there yet
      obtain ⟨Hm, n', sm, gm, om, ndm, frm⟩ := (st.cons (M' := M1) (H' := H1) (t := ec z) g1 o2 nd2 fr2).grow (g2.trans g3) |>.back
      have hw3 := At.same g3.hh ha
      have st3 := st2.grow g3
      obtain ⟨v', w', aa, y1, y2, y3⟩ := sm.at hx ht (hp.get k em)
      rw [hv] at y1
      cases y1
      cases At.det hw3 (At.same gm.hh y2)
      obtain ⟨a, o1, nd, ma, kk⟩ := sm.root hx ht (hp.get k em) hv y2
      obtain ⟨ad, vs, r, rfl, ea', h1, h2⟩ := id o1
      refine ⟨ad, vs, j, l, rfl, r3, gm.hh _ _ h1, by rw [h2.len, List.length_map]; exact hq, ?_⟩
      refine Kn.nx q _ rfl M3 _ σ ?_
      rw [← hp.set k _ em]
      have hl : l < (val k).length := by
        have := (ixN_seq hq).2.1
        exact this
      obtain ⟨w0, lf, af, rf, q1, q2, q3, q4⟩ := Owns.focus h2 (i := l) (t := ec (val k)[l]) (by rw [List.getElem?_map, List.getElem?_eq_getElem hl]; rfl)
      have nd' := nd
      rw [ea', List.nodup_cons] at nd'
      have hsub : ∀ b ∈ lf ++ rf, b ∈ r := fun b hb => by
        rw [q2]
        rcases List.mem_append.mp hb with y | y <;> simp [y]
      have hna : ∀ b ∈ n', b ≠ ad := fun b hb z => by
        subst z
        have := (frm b hb).1
        rw [h1] at this; cases this
      have hnr : ∀ b ∈ lf ++ rf, b ≠ ad := fun b hb z => by
        subst z
        exact nd'.1 (hsub b hb)
      refine kk ad r rfl ea' M3 H3 _ _ (lf ++ n' ++ rf) gm ⟨ad, vs.set l v2, lf ++ n' ++ rf, rfl, rfl, upd_same, ?_⟩ ?_ fun b hb => ?_
      · rw [List.map_set]
        exact q4 M3 _ _ _ _ gm.mm (fun b hb o e => by rw [upd_ne (hnr b hb)]; exact gm.hh b o e) (Own.keep (.refl _) _ _ _ (fun b hb o e => by rw [upd_ne (hna b hb)]; exact e) om)
      · have sub : (lf ++ rf).Sublist r := by
          rw [q2, List.append_assoc]
          exact List.Sublist.append_left (List.sublist_append_right _ _) _
        have nlr := nd'.2.sublist sub
        rw [List.nodup_append] at nlr
        have thr : ∀ b ∈ r, Hm b ≠ none := Owns.there _ _ _ h2
        rw [List.append_assoc, List.nodup_append, ]
        refine ⟨nlr.1, by rw [List.nodup_append]; exact ⟨ndm, nlr.2.1, fun y hy y' hy' e => by subst e; exact thr y (hsub y (List.mem_append_right _ hy')) (frm y hy).1⟩, fun y hy y' hy' e => ?_⟩
        subst e
        rcases List.mem_append.mp hy' with z | z
        · exact thr y (hsub y (List.mem_append_left _ hy)) (frm y z).1
        · exact nlr.2.2 y hy y z rfl
      · rcases List.mem_append.mp hb with y | y
        · rcases List.mem_append.mp y with y | y
          · exact ⟨.inl (hsub b (List.mem_append_left _ y)), ma b (by rw [ea']; exact List.mem_cons_of_mem _ (hsub b (List.mem_append_left _ y)))⟩
          · exact ⟨.inr (frm b y).1, (frm b y).2⟩
        · exact ⟨.inl (hsub b (List.mem_append_right _ y)), ma b (by rw [ea']; exact List.mem_cons_of_mem _ (hsub b (List.mem_append_right _ y)))⟩⟩
end
end
end Cn
/-! CnE: looking at trees and fields; defs that look, defs that change what they are handed; methods; making objects -/
namespace Cn
open PySem PySem.Spec L2
def Sl.look : Sl → Option T
  | .un => none
  | .ow t => some t
  | .pn _ t => some t
  | .lk t => some t
section
variable {G : Ctx} {F M0 M M' H H' : Hp}
theorem Sat.see : ∀ {Γ : List Sl} {σ : St} {as : List Addr} {i : Nat} {x : Sl} {t : T}, Same F H → Sat G F M H Γ σ as → Γ[i]? = some x → x.look = some t → ∃ v a, σ[i]? = some (some v) ∧ Own G M H t v a
  | [], σ, as, i, x, t, fh, h, e, et => by simp at e
  | .un :: Γ, σ, as, 0, x, t, fh, h, e, et => by cases e; cases et
  | .un :: Γ, σ, as, i + 1, x, t, fh, ⟨y, r, h1, h2⟩, e, et => by
    subst h1
    exact Sat.see (i := i) fh h2 e et
  | .ow t' :: Γ, σ, as, 0, x, t, fh, ⟨v, r, a1, a2, h1, h2, h3, h4⟩, e, et => by
    cases e; cases et; subst h1
    exact ⟨v, a1, rfl, h3⟩
  | .ow t' :: Γ, σ, as, i + 1, x, t, fh, ⟨v, r, a1, a2, h1, h2, h3, h4⟩, e, et => by
    subst h1
    exact Sat.see (i := i) fh h4 e et
  | .pn w t' :: Γ, σ, as, 0, x, t, fh, ⟨r, a1, a2, h1, h2, h3, h4⟩, e, et => by
    cases e; cases et; subst h1
    exact ⟨w, a1, rfl, h3⟩
  | .pn w t' :: Γ, σ, as, i + 1, x, t, fh, ⟨r, a1, a2, h1, h2, h3, h4⟩, e, et => by
    subst h1
    exact Sat.see (i := i) fh h4 e et
  | .lk t' :: Γ, σ, as, 0, x, t, fh, ⟨v, r, a0, h1, h2, h3⟩, e, et => by
    cases e; cases et; subst h1
    exact ⟨v, a0, rfl, Own.keep (.refl _) _ _ _ (fun b _ o q => fh b o q) h2⟩
  | .lk t' :: Γ, σ, as, i + 1, x, t, fh, ⟨v, r, a0, h1, h2, h3⟩, e, et => by
    subst h1
    exact Sat.see (i := i) fh h3 e et
theorem S.see {σ : St} {Γ : List Sl} {i : Nat} {x : Sl} {t : T} (s : S G F M0 M H σ Γ) (h : Γ[i]? = some x) (ht : x.look = some t) : ∃ v a, σ[i]? = some (some v) ∧ Own G M H t v a := by
  obtain ⟨as, f, sa⟩ := s
  exact Sat.see f.fh sa h ht
end
section
variable {X : Cx} {W : WX} {Γe Γ : List Sl} {a b e c tg : Expr} {es : List Expr} {α β γ κ ω ω1 ρ ξ : Type} {pos : Pos} {s : Stmt} {rest ss A B : List Stmt}
theorem db_see {emb : α → T} {x : α} {sl : Sl} {n : Str} (i : Nat) (h : Γ[i]? = some sl) (hs : sl.look = some (emb x)) (hN : X.N[i]? = some n := by rfl) (hv : Vis X.env.scope n := by first | exact Or.inl rfl | exact Or.inr (Or.inl rfl) | exact Or.inr (Or.inr rfl))
    (hd : (n == ("__debug__" : Str)) = false := by decide) (hcd : (n == ("__classdict__" : Str)) = false := by decide) : DB X W Γ (.Name n pos) emb (.ok x) := dmk
  ⟨_, pe_var hN hv hd hcd, fun F M0 M H σ Q s po => by
    obtain ⟨v, a, h1, h2⟩ := s.see h hs
    exact ⟨v, h1, po v M H a (.refl s.mh) h2⟩⟩
theorem dd_db {emb : α → D} {m : R α} (h : DB X W Γ e (fun x => .imm (emb x)) m) : DD X W Γ e emb m := ⟨fun F M0 M H σ Q s po => h F M0 M H σ Q s (po.imp (fun x _ k v M' H' as g o => k v M' H' g o.2) fun _ z => z)⟩
theorem db_fld {n f : Str} {C : Addr} {fs : List Str} {eb : β → T} {ec : γ → T} {ts : β → List T} {m : R β} (j : Nat) (g : β → γ) (h : DB X W Γ e eb m) (cf : ClF X n C) (na : NoAttr X.K C f)
    (hb : ∀ y, eb y = .obj n fs (ts y) := by intro _; rfl) (hj : fs.findIdx? (f == ·) = some j := by decide) (hg : ∀ y, (ts y)[j]? = some (ec (g y)) := by intro _; rfl)
    (hba : attributeBase e f X.env (eval e X.env) = eval e X.env := by rfl) : DB X W Γ (.Attribute e f pos) ec (m >>= fun y => .ok (g y)) :=
  dmk ⟨_, pe_fld (pe_w X e) hba, fun F M0 M H σ Q s po => h F M0 M H σ _ s (po.bind.imp (fun y _ q v M1 H1 as gr o => by
    rw [hb] at o
    obtain ⟨ad, c0, dx, kvs, r, rfl, q2, q3, q4, q5, q6⟩ := o
    have hj := hj
    rw [← q5] at hj
    obtain ⟨u, z1, z2⟩ := lookup_ix hj
    have z3 : X.mg n = some (.ref c0) := q3
    rw [cf.g] at z3
    cases z3
    obtain ⟨w, a, y1, y2, _⟩ := Owns.get q6 (hg y)
    rw [z1] at y1
    cases y1
    exact ⟨ad, C, dx, kvs, u, rfl, q4, cf.c, na, z2, q u M1 H1 a gr y2⟩) fun _ z => z)⟩
/-- a field of an object that is shared data -/
theorem dd_fldD {n f : Str} {C : Addr} {fs : List Str} {eb : β → D} {ec : γ → D} {ts : β → List D} {m : R β} (j : Nat) (g : β → γ) (h : DD X W Γ e eb m) (cf : ClF X n C) (na : NoAttr X.K C f)
    (hb : ∀ y, eb y = .obj n fs (ts y) := by intro _; rfl) (hj : fs.findIdx? (f == ·) = some j := by decide) (hg : ∀ y, (ts y)[j]? = some (ec (g y)) := by intro _; rfl)
    (hba : attributeBase e f X.env (eval e X.env) = eval e X.env := by rfl) : DD X W Γ (.Attribute e f pos) ec (m >>= fun y => .ok (g y)) :=
  dmk ⟨_, pe_fld (pe_w X e) hba, fun F M0 M H σ Q s po => h F M0 M H σ _ s (po.bind.imp (fun y _ q v M1 H1 gr o => by
    rw [hb] at o
    obtain ⟨ad, c0, dx, kvs, rfl, q3, q4, q5, q6⟩ := o
    have hj := hj
    rw [← q5] at hj
    obtain ⟨u, z1, z2⟩ := lookup_ix hj
    have z3 : X.mg n = some (.ref c0) := q3
    rw [cf.g] at z3
    cases z3
    obtain ⟨w, y1, y2⟩ := Reps.get q6 (hg y)
    rw [z1] at y1
    cases y1
    exact ⟨ad, C, dx, kvs, u, rfl, gr.mh _ _ q4, cf.c, na, z2, q u M1 H1 gr y2⟩) fun _ z => z)⟩
theorem db_ix {ec : γ → T} {ma : R (List γ)} {mb : R Int} (ha : DB X W Γ e (fun xs => .lst (xs.map ec)) ma) (hb : DD X W Γ b D.int mb) (hs : PlainIx b := by exact fun _ _ => rfl) : DB X W Γ (.Subscript e b pos) ec (ma >>= fun xs => mb >>= fun z => ofO (atI xs z)) :=
  dmk ⟨_, pe_ix ix_list (pe_w X e) (pe_w X b) hs, fun F M0 M H σ Q s po => ha F M0 M H σ _ s (po.bind.imp (fun xs _ q v M1 H1 as g1 o => hb F M0 M1 H1 σ _ (s.grow g1) (q.bind.imp (fun z _ q u M2 H2 g2 r2 => by
    obtain ⟨y, ez, q⟩ := q.ofO
    have o := Own.keep g2.mm _ _ _ (fun b _ o e => g2.hh b o e) o
    obtain ⟨ad, vs, r, rfl, q2, q3, q4⟩ := o
    unfold atI at ez
    cases hi : ixN xs.length z with
    | none => rw [hi] at ez; cases ez
    | some j =>
      rw [hi] at ez
      have ez : xs[j]? = some y := ez
      obtain ⟨w, a, y1, y2, _⟩ := Owns.get q4 (i := j) (t := ec y) (by rw [List.getElem?_map, ez]; rfl)
      refine ⟨ad, vs, z, w, rfl, r2, .of q3, ?_, q w M2 H2 a (g1.trans g2) y2⟩
      unfold atI
      rw [show vs.length = xs.length by rw [q4.len, List.length_map], hi]
      exact y1) fun c z M' H' g => z M' H' (g1.trans g))) fun _ z => z)⟩
/-! ### what a def is handed -/
inductive Ar where
  /-- shared data -/
  | dt (d : D)
  /-- a tree -/
  | tr (t : T)
def Ar.to : Ar → Cn.T
  | .dt d => .imm d
  | .tr t => t
/-- a def that looks at what it is handed: it hands back what stands for f a, or raises -/
def SpL (G : Ctx) {α ρ : Type} (args : α → List Ar) (er : ρ → T) (f : α → R ρ) : Sp := fun vs H Q E => ∃ (a : α) (M : Hp) (as : List Addr), Same M H ∧ Owns G M H ((args a).map Ar.to) vs as ∧
  Po (f a) (fun r => WF G M H (er r) Q) (fun c => ∀ M' H', Gr M H M' H' → ∀ C, G.mg c = some (.ref C) → E (.ref C) none H')
abbrev DAL (X : Cx) (W : WX) (Γ : List Sl) (es : List Expr) {α : Type} (emb : α → List Ar) (m : R α) : Prop :=
  JQ X Γ (wA X es) fun F M0 M H σ Q => Po m (fun x => ∀ vs M' H' as, Gr M H M' H' → Owns X.G M' H' ((emb x).map Ar.to) vs as → Q vs H') (fun c => ∀ M' H', Gr M H M' H' → Er X.G W c σ H')
theorem dal_nil : DAL X W Γ [] (fun _ : Unit => []) (.ok ()) := amk ⟨_, pa_nil, fun F M0 M H σ Q s po => po [] M H [] (.refl s.mh) ⟨rfl, rfl⟩⟩
theorem dal_db {ec : α → T} {es' : β → List Ar} {m : R α} {n : R β} (h : DB X W Γ e ec m) (k : DAL X W Γ es es' n) (hs : starEach (e :: es) X.env = (false, eval e X.env) :: starEach es X.env := by exact star_cons rfl) :
    DAL X W Γ (e :: es) (fun p : α × β => .tr (ec p.1) :: es' p.2) (m >>= fun x => n >>= fun y => .ok (x, y)) :=
  amk ⟨_, pa_cons (pe_w X e) (pa_w X es) hs, fun F M0 M H σ Q s po => h F M0 M H σ _ s (po.bind.imp (fun x _ q v M1 H1 a1 g o => k F M0 M1 H1 σ _ (s.grow g) (q.bind.imp (fun y _ z vs M2 H2 as g2 r2 => z _ M2 H2 (a1 ++ as) (g.trans g2) ⟨v, vs, a1, as, rfl, rfl, Own.keep g2.mm _ _ _ (fun b _ o e => g2.hh b o e) o, r2⟩) fun c z M2 H2 g2 => z M2 H2 (g.trans g2))) fun _ z => z)⟩
theorem dal_dd {ec : α → D} {es' : β → List Ar} {m : R α} {n : R β} (h : DD X W Γ e ec m) (k : DAL X W Γ es es' n) (hs : starEach (e :: es) X.env = (false, eval e X.env) :: starEach es X.env := by exact star_cons rfl) :
    DAL X W Γ (e :: es) (fun p : α × β => .dt (ec p.1) :: es' p.2) (m >>= fun x => n >>= fun y => .ok (x, y)) :=
  amk ⟨_, pa_cons (pe_w X e) (pa_w X es) hs, fun F M0 M H σ Q s po => h F M0 M H σ _ s (po.bind.imp (fun x _ q v M1 H1 g o => k F M0 M1 H1 σ _ (s.grow g) (q.bind.imp (fun y _ z vs M2 H2 as g2 r2 => z _ M2 H2 as (g.trans g2) ⟨v, vs, [], as, rfl, rfl, ⟨rfl, Rep.mono g2.mm _ _ o⟩, r2⟩) fun c z M2 H2 g2 => z M2 H2 (g.trans g2))) fun _ z => z)⟩
theorem wf_grow {G : Ctx} {M H M1 H1 : Hp} {t : T} {Q : VK} (g : Gr M H M1 H1) (k : WF G M H t Q) : WF G M1 H1 t Q := fun v M2 H2 as g2 o nd fr => k v M2 H2 as (g.trans g2) o nd fun a ha => ⟨g.hh.free (fr a ha).1, (fr a ha).2⟩
theorem df_callL {k : Nat} {f : Addr} {fd : FuncData} {ps : List Str} {n : Str} {p : Pos} {args : α → List Ar} {er : ρ → T} {g : α → R ρ} {m : R α} (Fk : FnOk X.prog X.w X.K X.mg X.base (L2.CX X.prog X.w) k f fd ps (SpL X.G args er g)) (hr : Room k X.A) (hm : X.mg n = some (.ref f)) (hk : PySem.W.keepIn X.K (.ref f) = true) (hb : Binds X.K fd ps [])
    (tk : Takes X W) (ha : DAL X W Γ (e :: es) args m) (hg : Gl X n := by rfl) (hdb : (n == ("__debug__" : Str)) = false := by decide) (he : starEach (e :: es) X.env = (false, eval e X.env) :: starEach es X.env := by exact star_cons rfl) (hpl : (backTo pos (starEach es X.env)).any (·.1) = false := by exact star_none rfl) :
    DF X W Γ (.Call (.Name n p) (e :: es) [] pos) er (m >>= g) :=
  dmk ⟨_, pe_callS Fk hr hg hm hk hb (fun σ => passAt tk σ) (pa_w X (e :: es)) hdb he hpl, fun F M0 M H σ Q s po => ha F M0 M H σ _ s (po.bind.imp (fun x _ k vs M1 H1 as g1 o1 => ⟨x, M1, as, g1.mh, o1, k.imp (fun r _ z => wf_grow g1 z) fun c z M2 H2 g2 => z M2 H2 (g1.trans g2)⟩) fun _ z => z)⟩
/-! methods -/
def tMethS (C : Addr) (m : Str) (sp : Sp) (E : St → XK) (ta : TE) (t : TA) : TE := fun σ H Q => ta σ H fun x H1 => ∃ a dx fs, x = .ref a ∧ H1 a = some (.ins C dx fs) ∧ fs.lookup m = none ∧ t σ H1 fun vs H2 => sp (x :: vs) H2 Q (E σ)
theorem pe_methP {CX : CXT} {k : Nat} {C f : Addr} {fd : FuncData} {ps : List Str} {sp : Sp} {E : St → XK} {m : Str} {apos : Pos} {o : Expr} {ta : TE} {t : TA} {pl : Sem Bool} (he : PE X o ta) (c : Cls X.K C) (hm : Meth X.K C m f) (F : FnOk X.prog X.w X.K X.mg X.base CX k f fd ps sp) (hr : Room k X.A) (hb : Binds X.K fd ps []) (hx : ∀ σ, PassesAt CX X σ (E σ)) (ha : PA X (e :: es) t)
    (hst : starEach (e :: es) X.env = (false, eval e X.env) :: starEach es X.env := by rfl) (hpl : (backTo pos (starEach es X.env)).any (·.1) = false := by rfl)
    (ht : eval (.Call (.Attribute o m apos) (e :: es) [] pos) X.env = (do
      let ov ← eval o X.env
      standAt apos.atName
      let (f, first) ← holding [ov] (getMethod ov m pl)
      callWith pos f first (backTo pos (starEach (e :: es) X.env)) (backToKw pos (keywordEach [] X.env))) := by rfl) :
    PE X (.Call (.Attribute o m apos) (e :: es) [] pos) (tMethS C m sp E ta t) := by
  refine ⟨fun pins s σ H Q I h => ?_⟩
  refine PySem.W.methodCall_KW (pl := pl) (thn (he.run pins s σ H _ I h) fun u s1 ⟨x, H1, I1, rx, a, dx, fs, ex, ea, l, q⟩ => ?_) ht
  subst ex
  obtain rfl : u = Value.ref a := rx
  refine getmeth_ok I1 ea c hm l ?_
  refine PySem.W.callWith_K (first := [.ref a]) (h₀ := X.base) I.ok.mod.kin hm.kp (thn (ha.run pos pins s1 σ H1 _ I1 q) fun us s2 ⟨vs, H2, I2, r, q2⟩ => ⟨I2.kIn, ?_⟩) hst hpl
  exact run_fnS (us := .ref a :: us) (vs := .ref a :: vs) F hr hb (hx σ) I2 (.cons rfl r) q2
theorem pe_methP0 {CX : CXT} {k : Nat} {C f : Addr} {fd : FuncData} {ps : List Str} {sp : Sp} {E : St → XK} {m : Str} {apos : Pos} {o : Expr} {ta : TE} {pl : Sem Bool} (he : PE X o ta) (c : Cls X.K C) (hm : Meth X.K C m f) (F : FnOk X.prog X.w X.K X.mg X.base CX k f fd ps sp) (hr : Room k X.A) (hb : Binds X.K fd ps []) (hx : ∀ σ, PassesAt CX X σ (E σ))
    (ht : eval (.Call (.Attribute o m apos) [] [] pos) X.env = (do
      let ov ← eval o X.env
      standAt apos.atName
      let (f, first) ← holding [ov] (getMethod ov m pl)
      callWith pos f first (backTo pos (starEach [] X.env)) (backToKw pos (keywordEach [] X.env))) := by rfl) :
    PE X (.Call (.Attribute o m apos) [] [] pos) (tMethS C m sp E ta tNil) := by
  refine ⟨fun pins s σ H Q I h => ?_⟩
  refine PySem.W.methodCall_KW (pl := pl) (thn (he.run pins s σ H _ I h) fun u s1 ⟨x, H1, I1, rx, a, dx, fs, ex, ea, l, q⟩ => ?_) ht
  subst ex
  obtain rfl : u = Value.ref a := rx
  refine getmeth_ok I1 ea c hm l ?_
  exact PySem.W.callWith_K0 (first := [.ref a]) I1.kIn hm.kp (run_fnS (us := [.ref a]) (vs := [.ref a]) F hr hb (hx σ) I1 (.cons rfl .nil) q)
theorem lookup_no {m : Str} : ∀ {kvs : List (Str × V)}, (kvs.map (·.1)).contains m = false → kvs.lookup m = none
  | [], _ => rfl
  | (k, v) :: kvs, h => by
    rw [List.map_cons, List.contains_cons, Bool.or_eq_false_iff] at h
    rw [List.lookup_cons, show (m == k) = false from h.1]
    exact lookup_no h.2
/-- o.m(e, ..), o looked at -/
theorem df_methL {k : Nat} {f C : Addr} {fd : FuncData} {ps : List Str} {n mt : Str} {apos : Pos} {o : Expr} {eb : β → T} {mo : R β} {fs : List Str} {ts : β → List T} {args : α → List Ar} {args' : γ → List Ar} {er : ρ → T} {g : α → R ρ} {m : R γ} (cv : β → γ → α) (Fk : FnOk X.prog X.w X.K X.mg X.base (L2.CX X.prog X.w) k f fd ps (SpL X.G args er g)) (hr : Room k X.A) (cf : ClF X n C) (hm : Meth X.K C mt f) (hb : Binds X.K fd ps [])
    (tk : Takes X W) (ho : DB X W Γ o eb mo) (ha : DAL X W Γ (e :: es) args' m) (hob : ∀ y, eb y = .obj n fs (ts y) := by intro _; rfl) (hf : fs.contains mt = false := by decide) (hcv : ∀ y z, args (cv y z) = .tr (eb y) :: args' z := by intro _ _; rfl)
    (he : starEach (e :: es) X.env = (false, eval e X.env) :: starEach es X.env := by exact star_cons rfl) (hpl : (backTo pos (starEach es X.env)).any (·.1) = false := by exact star_none rfl)
    (pl : Sem Bool) (ht : eval (.Call (.Attribute o mt apos) (e :: es) [] pos) X.env = (do
      let ov ← eval o X.env
      standAt apos.atName
      let (f, first) ← holding [ov] (getMethod ov mt pl)
      callWith pos f first (backTo pos (starEach (e :: es) X.env)) (backToKw pos (keywordEach [] X.env))) := by rfl) :
    DF X W Γ (.Call (.Attribute o mt apos) (e :: es) [] pos) er (mo >>= fun y => m >>= fun z => g (cv y z)) :=
  dmk ⟨_, pe_methP (pl := pl) (pe_w X o) cf.c hm Fk hr hb (fun σ => passAt tk σ) (pa_w X (e :: es)) he hpl ht, fun F M0 M H σ Q s po => ho F M0 M H σ _ s (po.bind.imp (fun y _ q v M1 H1 a1 g1 o1 => by
    have o1' := o1
    rw [hob] at o1'
    obtain ⟨ad, c0, dx, kvs, r, rfl, q2, q3, q4, q5, q6⟩ := o1'
    have z3 : X.mg n = some (.ref c0) := q3
    rw [cf.g] at z3
    cases z3
    refine ⟨ad, dx, kvs, rfl, q4, lookup_no (by rw [q5]; exact hf), ha F M0 M1 H1 σ _ (s.grow g1) (q.bind.imp (fun z _ k vs M2 H2 as g2 o2 => ⟨cv y z, M2, a1 ++ as, g2.mh, ?_, k.imp (fun r _ z => wf_grow (g1.trans g2) z) fun c z M3 H3 g3 => z M3 H3 ((g1.trans g2).trans g3)⟩) fun c z M' H' g => z M' H' (g1.trans g))⟩
    rw [hcv]
    exact ⟨.ref ad, vs, a1, as, rfl, rfl, Own.keep g2.mm _ _ _ (fun b _ o e => g2.hh b o e) o1, o2⟩) fun _ z => z)⟩
theorem df_methL0 {k : Nat} {f C : Addr} {fd : FuncData} {ps : List Str} {n mt : Str} {apos : Pos} {o : Expr} {eb : β → T} {mo : R β} {fs : List Str} {ts : β → List T} {args : α → List Ar} {er : ρ → T} {g : α → R ρ} (cv : β → α) (Fk : FnOk X.prog X.w X.K X.mg X.base (L2.CX X.prog X.w) k f fd ps (SpL X.G args er g)) (hr : Room k X.A) (cf : ClF X n C) (hm : Meth X.K C mt f) (hb : Binds X.K fd ps [])
    (tk : Takes X W) (ho : DB X W Γ o eb mo) (hob : ∀ y, eb y = .obj n fs (ts y) := by intro _; rfl) (hf : fs.contains mt = false := by decide) (hcv : ∀ y, args (cv y) = [.tr (eb y)] := by intro _; rfl)
    (pl : Sem Bool) (ht : eval (.Call (.Attribute o mt apos) [] [] pos) X.env = (do
      let ov ← eval o X.env
      standAt apos.atName
      let (f, first) ← holding [ov] (getMethod ov mt pl)
      callWith pos f first (backTo pos (starEach [] X.env)) (backToKw pos (keywordEach [] X.env))) := by rfl) :
    DF X W Γ (.Call (.Attribute o mt apos) [] [] pos) er (mo >>= fun y => g (cv y)) :=
  dmk ⟨_, pe_methP0 (pl := pl) (pe_w X o) cf.c hm Fk hr hb (fun σ => passAt tk σ) ht, fun F M0 M H σ Q s po => ho F M0 M H σ _ s (po.bind.imp (fun y _ q v M1 H1 a1 g1 o1 => by
    have o1' := o1
    rw [hob] at o1'
    obtain ⟨ad, c0, dx, kvs, r, rfl, q2, q3, q4, q5, q6⟩ := o1'
    have z3 : X.mg n = some (.ref c0) := q3
    rw [cf.g] at z3
    cases z3
    refine ⟨ad, dx, kvs, rfl, q4, lookup_no (by rw [q5]; exact hf), cv y, M1, a1, g1.mh, ?_, q.imp (fun r _ z => wf_grow g1 z) fun c z M3 H3 g3 => z M3 H3 (g1.trans g3)⟩
    rw [hcv]
    exact ⟨.ref ad, [], a1, [], rfl, by simp, o1, ⟨rfl, rfl⟩⟩) fun _ z => z)⟩
end
/-! ### a def that looks -/
def slotsL : List Ar → List Sl
  | [] => []
  | .dt d :: as => .ow (.imm d) :: slotsL as
  | .tr t :: as => .lk t :: slotsL as
theorem Owns.satL {G : Ctx} {M H : Hp} : ∀ {ars : List Ar} {vs : List V} {as : List Addr}, Owns G M H (ars.map Ar.to) vs as → Sat G H M H (slotsL ars) (vs.map some) []
  | [], vs, as, h => by rw [h.1]; exact ⟨rfl, rfl⟩
  | .dt d :: ars, vs, as, ⟨v, r, a1, a2, h1, h2, h3, h4⟩ => by
    subst h1
    exact ⟨v, _, [], [], rfl, rfl, ⟨rfl, h3.2⟩, Owns.satL h4⟩
  | .tr t :: ars, vs, as, ⟨v, r, a1, a2, h1, h2, h3, h4⟩ => by
    subst h1
    exact ⟨v, _, a1, rfl, h3, Owns.satL h4⟩
section
variable {P : Program} {w : World} {K : PySem.W.Frag} {mg : Str → Option Value} {base : Heap}
theorem fn_lookK {x qual : Str} {st : Stmt} {f : Addr} {fd : FuncData} {N ps : List Str} {k : Nat} {α ρ : Type} {args : α → List Ar} {er : ρ → T} {g : α → R ρ} (κ : ρ → Kd) (F : Fun K x qual st f fd) (Sc : FnScope N ps (defScope st))
    (hl : ∀ a, (args a).length = ps.length)
    (hb : ∀ (cdv : Value) (A : Around) (outer : List Env) (s : Shared) (H : Hp) (E : XK), Room k (A.deeper (PyProof.Rows.envOfC qual (defScope st) s.heap.objs.size f cdv)) → ∀ a,
      Bk (cxOf (L2.CX P w) P w K mg base N qual (defScope st) f cdv A outer s H E) (fun cls d _ H => E cls d H) (List.replicate N.length .un) (slotsL (args a) ++ List.replicate (N.length - ps.length) .un) (defBody st) κ (g a))
    (hκ : ∀ r, ((κ r).nx = none ∨ ((κ r).nx = some (List.replicate N.length .un) ∧ er r = .imm .non)) ∧ ((κ r).rt = none ∨ (κ r).rt = some (er r, List.replicate N.length .un)) ∧ (κ r).bk = none ∧ (κ r).ct = none) :
    FnOk P w K mg base (L2.CX P w) (k + 1) f fd ps (SpL ⟨K, mg⟩ args er g) := by
  refine F.okX Sc (fun vs H Q E h => ?_) (fun cdv A outer s H vs Q E hr h => ?_)
  · obtain ⟨a, M, as, _, r, _⟩ := h
    rw [r.len, List.length_map, hl]
  · obtain ⟨a, M, as, mh, r, po⟩ := h
    refine ⟨_, pss_w _ _, hb cdv A outer s H E hr a H M M H _ _ ?_ ?_⟩
    · refine ⟨[], ⟨.refl _, .refl _, mh, fun _ z => .inl z, List.nodup_nil, (fun _ z => nomatch z), fun _ z => nomatch z⟩, ?_⟩
      have e : vs.length = ps.length := by rw [r.len, List.length_map, hl]
      unfold L2.start
      rw [e]
      exact Sat.app (as := []) (bs := []) r.satL (Sat.uns _)
    · refine po.imp (fun x _ q => ⟨fun Γ e M' H' σ st => ?_, fun t Γ e M' H' σ v st => ?_, fun Γ e => ?_, fun Γ e => ?_⟩) fun c z M' H' σ' st C hC => z M' H' ⟨st.fh, st.rel.1, st.mh, st.rel.2⟩ C hC
      · rcases (hκ x).1 with y | ⟨y, y2⟩
        · rw [y] at e; cases e
        · rw [y2] at q
          exact q .non M' H' [] ⟨st.fh, st.rel.1, st.mh, st.rel.2⟩ ⟨rfl, rfl⟩ List.nodup_nil fun _ z => nomatch z
      · rcases (hκ x).2.1 with y | y
        · rw [y] at e; cases e
        · rw [y] at e
          obtain ⟨e1, e2⟩ := Prod.mk.inj (Option.some.inj e)
          subst e1; subst e2
          obtain ⟨as, f, ⟨v', r', a1, a2, z1, z2, z3, z4⟩⟩ := st
          obtain ⟨z5, z6⟩ := List.cons.inj z1
          cases z5
          subst z2
          have nd := f.nd
          rw [List.nodup_append] at nd
          exact q v M' H' a1 ⟨f.fh, f.mm, f.mh, f.nw⟩ z3 nd.1 fun b hb => ⟨f.fa b (List.mem_append_left _ hb), f.ma b (List.mem_append_left _ hb)⟩
      · rw [(hκ x).2.2.1] at e; cases e
      · rw [(hκ x).2.2.2] at e; cases e
theorem fn_look {x qual : Str} {st : Stmt} {f : Addr} {fd : FuncData} {N ps : List Str} {k : Nat} {α ρ : Type} {args : α → List Ar} {er : ρ → T} {g : α → R ρ} (F : Fun K x qual st f fd) (Sc : FnScope N ps (defScope st))
    (hl : ∀ a, (args a).length = ps.length)
    (hb : ∀ (cdv : Value) (A : Around) (outer : List Env) (s : Shared) (H : Hp) (E : XK), Room k (A.deeper (PyProof.Rows.envOfC qual (defScope st) s.heap.objs.size f cdv)) → ∀ a,
      Bk (cxOf (L2.CX P w) P w K mg base N qual (defScope st) f cdv A outer s H E) (fun cls d _ H => E cls d H) (List.replicate N.length .un) (slotsL (args a) ++ List.replicate (N.length - ps.length) .un) (defBody st) (kRet er N.length) (g a)) :
    FnOk P w K mg base (L2.CX P w) (k + 1) f fd ps (SpL ⟨K, mg⟩ args er g) :=
  fn_lookK (kRet er N.length) F Sc hl hb fun _ => ⟨.inl rfl, .inr rfl, rfl, rfl⟩
theorem fn_lookN {x qual : Str} {st : Stmt} {f : Addr} {fd : FuncData} {N ps : List Str} {k : Nat} {α : Type} {args : α → List Ar} {g : α → R Unit} (F : Fun K x qual st f fd) (Sc : FnScope N ps (defScope st))
    (hl : ∀ a, (args a).length = ps.length)
    (hb : ∀ (cdv : Value) (A : Around) (outer : List Env) (s : Shared) (H : Hp) (E : XK), Room k (A.deeper (PyProof.Rows.envOfC qual (defScope st) s.heap.objs.size f cdv)) → ∀ a,
      Bk (cxOf (L2.CX P w) P w K mg base N qual (defScope st) f cdv A outer s H E) (fun cls d _ H => E cls d H) (List.replicate N.length .un) (slotsL (args a) ++ List.replicate (N.length - ps.length) .un) (defBody st) (kRetN (fun _ => .imm .non) N.length) (g a)) :
    FnOk P w K mg base (L2.CX P w) (k + 1) f fd ps (SpL ⟨K, mg⟩ args (fun _ => .imm .non) g) :=
  fn_lookK (kRetN (fun _ => .imm .non) N.length) F Sc hl hb fun _ => ⟨.inr ⟨rfl, rfl⟩, .inr rfl, rfl, rfl⟩
end
end Cn
/-! CnF: defs that change what they are handed -/
namespace Cn
open PySem PySem.Spec L2
theorem T.get_set {u y : T} : ∀ {p : List Nat} {t : T}, T.get p t = some u → T.get p (T.set p t y) = some y
  | [], t, h => rfl
  | i :: p, t, h => by
    have h : (match t.kids[i]? with | some k => T.get p k | none => none) = some u := h
    show T.get (i :: p) (match t.kids[i]? with | some k => t.wk (t.kids.set i (T.set p k y)) | none => t) = _
    cases e : t.kids[i]? with
    | none => rw [e] at h; cases h
    | some k =>
      rw [e] at h
      have h : T.get p k = some u := h
      have hi : i < t.kids.length := (List.getElem?_eq_some_iff.mp e).1
      have kw : ∀ ts : List T, t.kids.length = ts.length → (t.wk ts).kids = ts := fun ts hl => by
        cases t with
        | imm d => exact absurd hi (Nat.not_lt_zero _)
        | lst _ => rfl
        | dic _ _ => rfl
        | dit _ _ => rfl
        | obj _ _ _ => rfl
      show (match (t.wk (t.kids.set i (T.set p k y))).kids[i]? with | some k => T.get p k | none => none) = _
      rw [kw _ (by rw [List.length_set]), List.getElem?_set_self hi]
      exact T.get_set h
theorem T.set_set {u y z : T} : ∀ {p : List Nat} {t : T}, T.get p t = some u → T.set p (T.set p t y) z = T.set p t z
  | [], t, h => rfl
  | i :: p, t, h => by
    have h : (match t.kids[i]? with | some k => T.get p k | none => none) = some u := h
    have e1 : ∀ (s x : T), T.set (i :: p) s x = (match s.kids[i]? with | some k => s.wk (s.kids.set i (T.set p k x)) | none => s) := fun _ _ => rfl
    cases e : t.kids[i]? with
    | none => rw [e] at h; cases h
    | some k =>
      rw [e] at h
      have h : T.get p k = some u := h
      have hi : i < t.kids.length := (List.getElem?_eq_some_iff.mp e).1
      have kw : ∀ ts : List T, (t.wk ts).kids = ts ∧ ∀ us, (t.wk ts).wk us = t.wk us := fun ts => by
        cases t with
        | imm d => exact absurd hi (Nat.not_lt_zero _)
        | lst _ => exact ⟨rfl, fun _ => rfl⟩
        | dic _ _ => exact ⟨rfl, fun _ => rfl⟩
        | dit _ _ => exact ⟨rfl, fun _ => rfl⟩
        | obj _ _ _ => exact ⟨rfl, fun _ => rfl⟩
      rw [e1 t y, e]
      show T.set (i :: p) (t.wk (t.kids.set i (T.set p k y))) z = _
      rw [e1, (kw _).1, List.getElem?_set_self hi]
      show (t.wk _).wk ((t.kids.set i (T.set p k y)).set i (T.set p (T.set p k y) z)) = _
      rw [(kw _).2, List.set_set, T.set_set h, e1, e]
theorem T.set_get {u : T} : ∀ {p : List Nat} {t : T}, T.get p t = some u → T.set p t u = t
  | [], t, h => by cases h; rfl
  | i :: p, t, h => by
    have h : (match t.kids[i]? with | some k => T.get p k | none => none) = some u := h
    show (match t.kids[i]? with | some k => t.wk (t.kids.set i (T.set p k u)) | none => t) = t
    cases e : t.kids[i]? with
    | none => rfl
    | some k =>
      rw [e] at h
      show t.wk (t.kids.set i (T.set p k u)) = t
      rw [T.set_get (p := p) h, set_same e]
      cases t <;> rfl
theorem Sl.tree_put {x : Sl} {t y : T} (h : x.tree = some t) : (x.put y).tree = some y := by
  cases x with
  | un => cases h
  | ow _ => rfl
  | pn _ _ => rfl
  | lk _ => cases h
theorem Sl.put_put {x : Sl} {y z : T} : (x.put y).put z = x.put z := by cases x <;> rfl
theorem Sl.put_tree {x : Sl} {t : T} (h : x.tree = some t) : x.put t = x := by
  cases x with
  | un => cases h
  | ow _ => cases h; rfl
  | pn _ _ => cases h; rfl
  | lk _ => cases h
section
variable {G : Ctx} {F M0 M M' H H' : Hp} {σ : St} {Γ : List Sl}
/-- what stands at a path is lent: it stands ahead of the slots, in its place a mark -/
theorem S.lend {i : Nat} {x : Sl} {t u : T} {p : List Nat} {v w : V} (s : S G F M0 M H σ Γ) (h : Γ[i]? = some x) (ht : x.tree = some t) (hp : T.get p t = some u) (hv : σ[i]? = some (some v)) (hw : At H p v w) :
    S G F M0 M H (some w :: σ) (.ow u :: Γ.set i (x.put (T.set p t (.imm (.val w))))) := by
  obtain ⟨as, f, sa⟩ := s
  obtain ⟨v', l, a1, r, q1, q2, q3, q5, q4⟩ := Sat.focusS sa h ht
  rw [hv] at q1
  cases q1
  obtain ⟨w', l', a, r', z1, z2, z3, z4⟩ := Own.focus q3 hp
  cases At.det hw z1
  subst z2
  have o2 := z4 M H (.imm (.val w)) [] (.refl _) (fun _ _ _ q => q) ⟨rfl, rfl⟩
  have s2 := q4 M H _ _ (.refl _) (fun _ _ _ q => q) o2
  refine ⟨a ++ (l ++ (l' ++ [] ++ r') ++ r), f.perm ?_, ⟨w, σ, a, _, rfl, rfl, z3, s2⟩⟩
  rw [q2, List.append_nil]
  have e1 : l ++ (l' ++ a ++ r') ++ r = (l ++ l') ++ (a ++ (r' ++ r)) := by simp
  have e2 : l ++ (l' ++ r') ++ r = (l ++ l') ++ (r' ++ r) := by simp
  rw [e1, e2, ← List.append_assoc]
  refine (List.perm_append_comm.append_right (r' ++ r)).trans ?_
  rw [List.append_assoc]
/-- .. and given back, from behind a value -/
theorem S.giveBack {i : Nat} {y : Sl} {x0 : Sl} {t u tr u' : T} {p : List Nat} {v w : V} (s : S G F M0 M H (some v :: some w :: σ) (.ow tr :: .ow u' :: Γ)) (h : Γ[i]? = some y) (ht : y.tree = some t) (hp : T.get p t = some (.imm (.val w))) :
    S G F M0 M H (some v :: σ) (.ow tr :: Γ.set i (y.put (T.set p t u'))) := by
  obtain ⟨as, f, ⟨v1, r1, a1, a2, e1, e2, h3, ⟨v2, r2, b1, b2, g1, g2, g3, g4⟩⟩⟩ := s
  cases e1
  cases g1
  obtain ⟨v', l, c1, r, q1, q2, q3, q5, q4⟩ := Sat.focusS g4 h ht
  obtain ⟨w', l', a, r', z1, z2, z3, z4⟩ := Own.focus q3 hp
  obtain ⟨y1, y2⟩ := z3
  subst y1
  have y2 : w' = w := y2
  subst y2
  have o2 := z4 M H u' b1 (.refl _) (fun _ _ _ q => q) g3
  have s2 := q4 M H _ _ (.refl _) (fun _ _ _ q => q) o2
  refine ⟨a1 ++ (l ++ (l' ++ b1 ++ r') ++ r), f.perm ?_, ⟨v, σ, a1, _, rfl, rfl, h3, s2⟩⟩
  rw [e2, g2, q2, z2]
  refine List.Perm.append_left a1 ?_
  have e1 : l ++ (l' ++ b1 ++ r') ++ r = (l ++ l') ++ (b1 ++ (r' ++ r)) := by simp
  have e2 : l ++ (l' ++ [] ++ r') ++ r = (l ++ l') ++ (r' ++ r) := by simp
  rw [e1, e2, ← List.append_assoc (l ++ l') b1, ← List.append_assoc b1 (l ++ l')]
  exact List.perm_append_comm.append_right (r' ++ r)
theorem S.second {v w : V} {tr u : T} (s : S G F M0 M H (some v :: some w :: σ) (.ow tr :: .ow u :: Γ)) : S G F M0 M H (some v :: σ) (.ow tr :: Γ) := by
  obtain ⟨as, f, ⟨v1, r1, a1, a2, e1, e2, h3, ⟨v2, r2, b1, b2, g1, g2, g3, g4⟩⟩⟩ := s
  cases e1
  cases g1
  refine ⟨a1 ++ b2, f.sub ?_, ⟨v, σ, a1, b2, rfl, rfl, h3, g4⟩⟩
  rw [e2, g2]
  exact List.Sublist.append_left (List.sublist_append_right _ _) _
end
/-! ### arguments: data, or what stands at a path of a slot -/
inductive Ag where
  | dt (d : D)
  | pt (i : Nat) (p : List Nat) (x : Sl) (t u : T)
def Ag.ar : Ag → Ar
  | .dt d => .dt d
  | .pt _ _ _ _ u => .tr u
/-- the arguments' slots are as they say -/
def AgOk (Γ : List Sl) : List Ag → Prop
  | [] => True
  | .dt _ :: as => AgOk Γ as
  | .pt i p x t u :: as => Γ[i]? = some x ∧ x.tree = some t ∧ T.get p t = some u ∧ AgOk Γ as
def agSlots : List Ag → List Nat
  | [] => []
  | .dt _ :: as => agSlots as
  | .pt i _ _ _ _ :: as => i :: agSlots as
def AgVs (G : Ctx) (M H : Hp) (σ : St) : List Ag → List V → Prop
  | [], vs => vs = []
  | .dt d :: as, vs => ∃ v r, vs = v :: r ∧ Rep G M d v ∧ AgVs G M H σ as r
  | .pt i p _ _ _ :: as, vs => ∃ v r v0, vs = v :: r ∧ σ[i]? = some (some v0) ∧ At H p v0 v ∧ AgVs G M H σ as r
theorem AgVs.grow {G : Ctx} {M H M' H' : Hp} {σ : St} (g : Gr M H M' H') : ∀ {as : List Ag} {vs : List V}, AgVs G M H σ as vs → AgVs G M' H' σ as vs
  | [], vs, h => h
  | .dt d :: as, vs, ⟨v, r, h1, h2, h3⟩ => ⟨v, r, h1, Rep.mono g.mm _ _ h2, AgVs.grow g h3⟩
  | .pt i p _ _ _ :: as, vs, ⟨v, r, v0, h1, h2, h3, h4⟩ => ⟨v, r, v0, h1, h2, At.same g.hh h3, AgVs.grow g h4⟩
theorem AgVs.len {G : Ctx} {M H : Hp} {σ : St} : ∀ {as : List Ag} {vs : List V}, AgVs G M H σ as vs → vs.length = as.length
  | [], vs, h => by rw [show vs = [] from h]; rfl
  | .dt d :: as, vs, ⟨v, r, h1, h2, h3⟩ => by rw [h1, List.length_cons, List.length_cons, AgVs.len h3]
  | .pt i p _ _ _ :: as, vs, ⟨v, r, v0, h1, h2, h3, h4⟩ => by rw [h1, List.length_cons, List.length_cons, AgVs.len h4]
/-- the slots with marks in place of what is lent -/
def holes (Γ : List Sl) : List Ag → List V → List Sl
  | .dt _ :: as, _ :: vs => holes Γ as vs
  | .pt i p x t _ :: as, v :: vs => (holes Γ as vs).set i (x.put (T.set p t (.imm (.val v))))
  | _, _ => Γ
theorem holes_get {Γ : List Sl} {i : Nat} : ∀ {as : List Ag} {vs : List V}, i ∉ agSlots as → (holes Γ as vs)[i]? = Γ[i]?
  | [], vs, h => rfl
  | .dt _ :: as, [], h => rfl
  | .pt _ _ _ _ _ :: as, [], h => rfl
  | .dt _ :: as, v :: vs, h => holes_get (as := as) (vs := vs) h
  | .pt j p x t u :: as, v :: vs, h => by
    show ((holes Γ as vs).set j _)[i]? = _
    rw [List.getElem?_set_ne (fun z => h (by rw [z]; exact List.mem_cons_self))]
    exact holes_get (as := as) (vs := vs) fun z => h (List.mem_cons_of_mem _ z)
theorem holes_set {Γ : List Sl} {i : Nat} {y : Sl} : ∀ {as : List Ag} {vs : List V}, i ∉ agSlots as → holes (Γ.set i y) as vs = (holes Γ as vs).set i y
  | [], vs, h => rfl
  | .dt _ :: as, [], h => rfl
  | .pt _ _ _ _ _ :: as, [], h => rfl
  | .dt _ :: as, v :: vs, h => holes_set (as := as) (vs := vs) h
  | .pt j p x t u :: as, v :: vs, h => by
    show (holes (Γ.set i y) as vs).set j _ = ((holes Γ as vs).set j _).set i y
    rw [holes_set (as := as) (vs := vs) fun z => h (List.mem_cons_of_mem _ z), List.set_comm _ _ (fun z => h (by rw [z]; exact List.mem_cons_self))]
/-- what is given back -/
def fill : List Ar → List T → List T
  | [], _ => []
  | .dt d :: as, us => .imm d :: fill as us
  | .tr _ :: as, u :: us => u :: fill as us
  | .tr _ :: as, [] => .imm .any :: fill as []
def putBack (Γ : List Sl) : List Ag → List T → List Sl
  | [], _ => Γ
  | .dt _ :: as, us => putBack Γ as us
  | .pt i p x t _ :: as, u :: us => putBack (Γ.set i (x.put (T.set p t u))) as us
  | .pt i p x t _ :: as, [] => putBack (Γ.set i (x.put (T.set p t (.imm .any)))) as []
section
variable {G : Ctx} {F M0 M M' H H' : Hp}
theorem S.consD {σ : St} {Γ : List Sl} {d : D} {v : V} (s : S G F M0 M H σ Γ) (r : Rep G M d v) : S G F M0 M H (some v :: σ) (.ow (.imm d) :: Γ) :=
  s.cons (.refl s.mh) ⟨rfl, r⟩ List.nodup_nil fun _ z => nomatch z
theorem S.lends {σ : St} {Γ : List Sl} (s : S G F M0 M H σ Γ) : ∀ {as : List Ag} {vs : List V}, AgOk Γ as → (agSlots as).Nodup → AgVs G M H σ as vs → S G F M0 M H (vs.map some ++ σ) (as.map (fun a => .ow a.ar.to) ++ holes Γ as vs)
  | [], vs, _, _, h => by rw [show vs = [] from h]; exact s
  | .dt d :: as, vs, ok, nd, ⟨v, r, h1, h2, h3⟩ => by
    subst h1
    exact (S.lends s (as := as) ok nd h3).consD h2
  | .pt i p x t u :: as, vs, ok, nd, ⟨v, r, v0, h1, h2, h3, h4⟩ => by
    subst h1
    obtain ⟨o1, o2, o3, o4⟩ := ok
    have nd : (i :: agSlots as).Nodup := nd
    rw [List.nodup_cons] at nd
    have s2 := S.lends s o4 nd.2 h4
    have hl : (r.map (some : V → Option V)).length = as.length := by rw [List.length_map, h4.len]
    have e1 : (as.map (fun a => Sl.ow a.ar.to) ++ holes Γ as r)[as.length + i]? = some x := by
      rw [List.getElem?_append_right (by rw [List.length_map]; omega), List.length_map, Nat.add_sub_cancel_left, holes_get nd.1, o1]
    have e2 : (r.map some ++ σ)[as.length + i]? = some (some v0) := by
      rw [List.getElem?_append_right (by omega), hl, Nat.add_sub_cancel_left, h2]
    have s3 := s2.lend e1 o2 o3 e2 h3
    have e3 : (as.map (fun a => Sl.ow a.ar.to) ++ holes Γ as r).set (as.length + i) (x.put (T.set p t (.imm (.val v)))) = as.map (fun a => Sl.ow a.ar.to) ++ holes Γ (.pt i p x t u :: as) (v :: r) := by
      rw [List.set_append_right _ _ (by rw [List.length_map]; omega), List.length_map, Nat.add_sub_cancel_left]
      rfl
    rw [e3] at s3
    exact s3
theorem S.backs {σ : St} {v : V} {tr : T} : ∀ {as : List Ag} {Γ : List Sl} {vs : List V} {us : List T}, AgOk Γ as → (agSlots as).Nodup → vs.length = as.length → S G F M0 M H (some v :: (vs.map some ++ σ)) (.ow tr :: ((fill (as.map Ag.ar) us).map .ow ++ holes Γ as vs)) → S G F M0 M H (some v :: σ) (.ow tr :: putBack Γ as us)
  | [], Γ, vs, us, _, _, hl, s => by
    have e : vs = [] := List.length_eq_zero_iff.mp hl
    subst e
    exact s
  | .dt d :: as, Γ, [], us, ok, nd, hl, s => by cases hl
  | .pt _ _ _ _ _ :: as, Γ, [], us, ok, nd, hl, s => by cases hl
  | .dt d :: as, Γ, w :: vs, us, ok, nd, hl, s => S.backs (as := as) (Γ := Γ) (vs := vs) (us := us) ok nd (Nat.succ.inj hl) (S.second s)
  | .pt i p x t u :: as, Γ, w :: vs, us, ok, nd, hl, s => by
    obtain ⟨o1, o2, o3, o4⟩ := ok
    have nd : (i :: agSlots as).Nodup := nd
    rw [List.nodup_cons] at nd
    have hl := Nat.succ.inj hl
    have key : ∀ (u' : T) (us' : List T), S G F M0 M H (some v :: some w :: (vs.map some ++ σ)) (.ow tr :: .ow u' :: ((fill (as.map Ag.ar) us').map .ow ++ (holes Γ as vs).set i (x.put (T.set p t (.imm (.val w)))))) → S G F M0 M H (some v :: σ) (.ow tr :: putBack (Γ.set i (x.put (T.set p t u'))) as us') := fun u' us' s => by
      have hlen : ((fill (as.map Ag.ar) us').map Sl.ow).length = as.length := by
        rw [List.length_map]
        have : ∀ (ars : List Ar) (us : List T), (fill ars us).length = ars.length := by
          intro ars
          induction ars with
          | nil => intro us; rfl
          | cons a ars ih =>
            intro us
            cases a with
            | dt d => show (fill ars us).length + 1 = _; rw [ih]; rfl
            | tr t =>
              cases us with
              | nil => show (fill ars []).length + 1 = _; rw [ih]; rfl
              | cons u us => show (fill ars us).length + 1 = _; rw [ih]; rfl
        rw [this, List.length_map]
      have hh : i < (holes Γ as vs).length := by
        have := holes_get (Γ := Γ) (i := i) (as := as) (vs := vs) nd.1
        rw [o1] at this
        exact (List.getElem?_eq_some_iff.mp this).1
      have e1 : ((fill (as.map Ag.ar) us').map Sl.ow ++ (holes Γ as vs).set i (x.put (T.set p t (.imm (.val w)))))[as.length + i]? = some (x.put (T.set p t (.imm (.val w)))) := by
        rw [List.getElem?_append_right (by omega), hlen, Nat.add_sub_cancel_left, List.getElem?_set_self hh]
      have s2 := s.giveBack (x0 := x) (u := u) e1 (Sl.tree_put o2) (T.get_set o3)
      rw [Sl.put_put, T.set_set o3, List.set_append_right _ _ (by omega), hlen, Nat.add_sub_cancel_left, List.set_set, ← holes_set nd.1] at s2
      refine S.backs (as := as) (Γ := Γ.set i (x.put (T.set p t u'))) (vs := vs) (us := us') ?_ nd.2 hl s2
      have agok : ∀ (as : List Ag), i ∉ agSlots as → AgOk Γ as → AgOk (Γ.set i (x.put (T.set p t u'))) as := by
        intro as
        induction as with
        | nil => intro _ _; trivial
        | cons a as ih =>
          intro hn ok
          cases a with
          | dt d => exact ih hn ok
          | pt j p' x' t' u2 =>
            obtain ⟨k1, k2, k3, k4⟩ := ok
            exact ⟨by rw [List.getElem?_set_ne (fun z => hn (by rw [z]; exact List.mem_cons_self))]; exact k1, k2, k3, ih (fun z => hn (List.mem_cons_of_mem _ z)) k4⟩
      exact agok as nd.1 o4
    cases us with
    | nil => exact key (.imm .any) [] s
    | cons u' us => exact key u' us s
/-- the front of the slots alone -/
theorem Sat.split : ∀ {ts : List T} {Γ : List Sl} {vs : List V} {σ : St} {as : List Addr}, vs.length = ts.length → Sat G F M H (ts.map .ow ++ Γ) (vs.map some ++ σ) as → ∃ a1 a2, as = a1 ++ a2 ∧ Owns G M H ts vs a1 ∧ Sat G F M H Γ σ a2
  | [], Γ, vs, σ, as, hl, s => by
    have e : vs = [] := List.length_eq_zero_iff.mp hl
    subst e
    exact ⟨[], as, rfl, ⟨rfl, rfl⟩, s⟩
  | t :: ts, Γ, [], σ, as, hl, s => by cases hl
  | t :: ts, Γ, v :: vs, σ, as, hl, ⟨v', r, a1, a2, h1, h2, h3, h4⟩ => by
    obtain ⟨e1, e2⟩ := List.cons.inj h1
    cases e1
    subst e2
    obtain ⟨b1, b2, q1, q2, q3⟩ := Sat.split (Nat.succ.inj hl) h4
    exact ⟨a1 ++ b1, b2, by rw [h2, q1, List.append_assoc], ⟨v, vs, a1, b1, rfl, rfl, h3, q2⟩, q3⟩
theorem Sat.join : ∀ {ts : List T} {Γ : List Sl} {vs : List V} {σ : St} {a1 a2 : List Addr}, Owns G M H ts vs a1 → Sat G F M H Γ σ a2 → Sat G F M H (ts.map .ow ++ Γ) (vs.map some ++ σ) (a1 ++ a2)
  | [], Γ, vs, σ, a1, a2, h, s => by rw [h.1, h.2]; exact s
  | t :: ts, Γ, vs, σ, as, a2, ⟨v, r, b1, b2, h1, h2, h3, h4⟩, s => by
    subst h1; subst h2
    exact ⟨v, _, b1, b2 ++ a2, rfl, by rw [List.append_assoc], h3, Sat.join h4 s⟩
theorem fill_len : ∀ (ars : List Ar) (us : List T), (fill ars us).length = ars.length
  | [], us => rfl
  | .dt d :: ars, us => by show (fill ars us).length + 1 = _; rw [fill_len]; rfl
  | .tr _ :: ars, u :: us => by show (fill ars us).length + 1 = _; rw [fill_len]; rfl
  | .tr _ :: ars, [] => by show (fill ars []).length + 1 = _; rw [fill_len]; rfl
/-- THE CALL: arguments are lent, changed, given back -/
theorem S.called {σ : St} {Γ : List Sl} {ags : List Ag} {vs : List V} (s : S G F M0 M H σ Γ) (ok : AgOk Γ ags) (nd : (agSlots ags).Nodup) (av : AgVs G M H σ ags vs) :
    ∃ as, Owns G M H ((ags.map Ag.ar).map Ar.to) vs as ∧ as.Nodup ∧ (∀ b ∈ as, M b = none) ∧
      (∀ M' H' us bs cs v tr, Chg M H M' H' as → Own G M' H' tr v bs → Owns G M' H' (fill (ags.map Ag.ar) us) vs cs → Nw M' H as (bs ++ cs) → S G F M0 M' H' (some v :: σ) (.ow tr :: putBack Γ ags us)) := by
  have s2 := s.lends ok nd av
  obtain ⟨as, f, sa⟩ := s2
  have e0 : ags.map (fun a => Sl.ow a.ar.to) = ((ags.map Ag.ar).map Ar.to).map .ow := by rw [List.map_map, List.map_map]; rfl
  rw [e0] at sa
  obtain ⟨a1, a2, q1, q2, q3⟩ := Sat.split (by rw [av.len, List.length_map, List.length_map]) sa
  subst q1
  have nd0 := f.nd
  rw [List.nodup_append] at nd0
  have th := Sat.there _ _ _ q3
  refine ⟨a1, q2, nd0.1, fun b hb => f.ma b (List.mem_append_left _ hb), fun M' H' us bs cs v tr c o os nw => ?_⟩
  refine S.backs (as := ags) (Γ := Γ) (vs := vs) (us := us) ok nd av.len ?_
  have keep2 : ∀ b ∈ a2, ∀ o, H b = some o → H' b = some o := fun b hb o e => c.kp b o (fun z => nd0.2.2 b z b hb rfl) e
  refine ⟨bs ++ (cs ++ a2), ⟨fun b o e => ?_, f.mm.trans c.mm, c.mh, fun b z => ?_, ?_, fun b hb => ?_, fun b hb => ?_⟩, ⟨v, _, bs, cs ++ a2, rfl, rfl, o, Sat.join os (Sat.keep c.mm _ _ _ keep2 q3)⟩⟩
  · exact c.kp b o (fun hb => by have := f.fa b (List.mem_append_left _ hb); rw [e] at this; cases this) (f.fh b o e)
  · rcases c.nw b z with q | q | q
    · exact f.nw b q
    · exact .inr (f.fh.free q)
    · exact .inr (f.fa b (List.mem_append_left _ q))
  · rw [← List.append_assoc, List.nodup_append]
    refine ⟨nw.nd, nd0.2.1, fun y hy y' hy' e => ?_⟩
    subst e
    rcases nw.fr y hy with q | q
    · exact nd0.2.2 y q y hy' rfl
    · exact th y hy' q
  · rw [← List.append_assoc] at hb
    rcases List.mem_append.mp hb with q | q
    · rcases nw.fr b q with z | z
      · exact f.fa b (List.mem_append_left _ z)
      · exact f.fh.free z
    · exact f.fa b (List.mem_append_right _ q)
  · rw [← List.append_assoc] at hb
    rcases List.mem_append.mp hb with q | q
    · exact nw.ma b q
    · cases eb : M' b with
      | none => rfl
      | some o =>
        rcases c.nw b (by rw [eb]; exact fun q => nomatch q) with z | z | z
        · exact absurd (f.ma b (List.mem_append_right _ q)) z
        · exact absurd z (th b q)
        · exact absurd rfl (nd0.2.2 b z b q)
end
def trs : List Ar → List T
  | [] => []
  | .dt _ :: as => trs as
  | .tr t :: as => t :: trs as
theorem fill_self : ∀ (ars : List Ar), fill ars (trs ars) = ars.map Ar.to
  | [] => rfl
  | .dt d :: as => congrArg (Cn.T.imm d :: ·) (fill_self as)
  | .tr t :: as => congrArg (t :: ·) (fill_self as)
theorem putBack_self : ∀ {ags : List Ag} {Γ : List Sl}, AgOk Γ ags → (agSlots ags).Nodup → putBack Γ ags (trs (ags.map Ag.ar)) = Γ
  | [], Γ, _, _ => rfl
  | .dt d :: as, Γ, ok, nd => putBack_self (ags := as) ok nd
  | .pt i p x t u :: as, Γ, ⟨o1, o2, o3, o4⟩, nd => by
    have nd : (i :: agSlots as).Nodup := nd
    rw [List.nodup_cons] at nd
    show putBack (Γ.set i (x.put (T.set p t u))) as _ = Γ
    rw [T.set_get o3, Sl.put_tree o2, set_same o1]
    exact putBack_self o4 nd.2
/-- a def that changes what it is handed: er r is handed back, post r are the trees behind it; where it raises, they are as they were -/
def SpG (G : Ctx) {α ρ : Type} (args : α → List Ar) (er : ρ → T) (post : ρ → List T) (f : α → R ρ) : Sp := fun vs H Q E => ∃ (a : α) (M : Hp) (as : List Addr), Same M H ∧ Owns G M H ((args a).map Ar.to) vs as ∧ as.Nodup ∧ (∀ b ∈ as, M b = none) ∧
  Po (f a) (fun r => ∀ v M' H' bs cs, Chg M H M' H' as → Own G M' H' (er r) v bs → Owns G M' H' (fill (args a) (post r)) vs cs → Nw M' H as (bs ++ cs) → Q v H')
    (fun c => ∀ M' H' cs, Chg M H M' H' as → Owns G M' H' ((args a).map Ar.to) vs cs → Nw M' H as cs → ∀ C, G.mg c = some (.ref C) → E (.ref C) none H')
section
variable {X : Cx} {W : WX} {Γe Γ : List Sl} {a b e c tg : Expr} {es : List Expr} {α β γ κ ω ω1 ρ ξ : Type} {pos : Pos} {s : Stmt} {rest ss A B : List Stmt}
abbrev DAM (X : Cx) (W : WX) (Γ : List Sl) (es : List Expr) {ξ : Type} (ags : ξ → List Ag) (m : R ξ) : Prop :=
  JQ X Γ (wA X es) fun F M0 M H σ Q => Po m (fun y => ∀ vs M' H', Gr M H M' H' → AgVs X.G M' H' σ (ags y) vs → Q vs H') (fun c => ∀ M' H', Gr M H M' H' → Er X.G W c σ H')
theorem dam_nil : DAM X W Γ [] (fun _ : Unit => []) (.ok ()) := amk ⟨_, pa_nil, fun F M0 M H σ Q s po => po [] M H (.refl s.mh) rfl⟩
theorem dam_dd {ec : α → D} {es' : β → List Ag} {m : R α} {n : R β} (h : DD X W Γ e ec m) (k : DAM X W Γ es es' n) (hs : starEach (e :: es) X.env = (false, eval e X.env) :: starEach es X.env := by exact star_cons rfl) :
    DAM X W Γ (e :: es) (fun p : α × β => .dt (ec p.1) :: es' p.2) (m >>= fun x => n >>= fun y => .ok (x, y)) :=
  amk ⟨_, pa_cons (pe_w X e) (pa_w X es) hs, fun F M0 M H σ Q s po => h F M0 M H σ _ s (po.bind.imp (fun x _ q v M1 H1 g o => k F M0 M1 H1 σ _ (s.grow g) (q.bind.imp (fun y _ z vs M2 H2 g2 r2 => z _ M2 H2 (g.trans g2) ⟨v, vs, rfl, Rep.mono g2.mm _ _ o, r2⟩) fun c z M2 H2 g2 => z M2 H2 (g.trans g2))) fun _ z => z)⟩
theorem dam_pt {i : Nat} {ea : α → T} {x0 : α} {path : κ → List Nat} {eb : β → T} {val : κ → β} {put : κ → β → α} {m : R κ} {x : Sl} {es' : ξ → List Ag} {n : R ξ} (h : DP X W Γ e i ea x0 path eb val put m) (hx : Γ[i]? = some x) (ht : x.tree = some (ea x0)) (k : DAM X W Γ es es' n) (hs : starEach (e :: es) X.env = (false, eval e X.env) :: starEach es X.env := by exact star_cons rfl) :
    DAM X W Γ (e :: es) (fun p : κ × ξ => .pt i (path p.1) x (ea x0) (eb (val p.1)) :: es' p.2) (m >>= fun x => n >>= fun y => .ok (x, y)) :=
  amk ⟨_, pa_cons (pe_w X e) (pa_w X es) hs, fun F M0 M H σ Q s po => h.run F M0 M H σ _ s (po.bind.imp (fun k0 _ q v w M1 H1 g hv hw => k F M0 M1 H1 σ _ (s.grow g) (q.bind.imp (fun y _ z vs M2 H2 g2 r2 => z _ M2 H2 (g.trans g2) ⟨w, vs, v, rfl, hv, At.same g2.hh hw, r2⟩) fun c z M2 H2 g2 => z M2 H2 (g.trans g2))) fun _ z => by
    exact z)⟩
/-- f(a, ..), which may change what it is handed -/
theorem dx_callG {k : Nat} {f : Addr} {fd : FuncData} {ps : List Str} {n : Str} {p : Pos} {args : α → List Ar} {er : ρ → T} {post : ρ → List T} {g : α → R ρ} {ags : ξ → List Ag} {m : R ξ} (cv : ξ → α) (Γ' : ξ × ρ → List Sl) (Fk : FnOk X.prog X.w X.K X.mg X.base (L2.CX X.prog X.w) k f fd ps (SpG X.G args er post g)) (hr : Room k X.A) (hm : X.mg n = some (.ref f)) (hk : PySem.W.keepIn X.K (.ref f) = true) (hb : Binds X.K fd ps [])
    (tk : Takes X W) (ha : DAM X W Γ (e :: es) ags m) (hok : ∀ y, m = .ok y → AgOk Γ (ags y)) (hnd : ∀ y, (agSlots (ags y)).Nodup := by intro _; decide) (hcv : ∀ y, args (cv y) = (ags y).map Ag.ar := by intro _; rfl) (hΓ : ∀ y r, m = .ok y → putBack Γ (ags y) (post r) = Γ' (y, r))
    (hg : Gl X n := by rfl) (hdb : (n == ("__debug__" : Str)) = false := by decide) (he : starEach (e :: es) X.env = (false, eval e X.env) :: starEach es X.env := by exact star_cons rfl) (hpl : (backTo pos (starEach es X.env)).any (·.1) = false := by exact star_none rfl) :
    DX X W Γ (.Call (.Name n p) (e :: es) [] pos) Γ' (fun r => er r.2) (m >>= fun y => g (cv y) >>= fun r => .ok (y, r)) :=
  dmk ⟨_, pe_callS Fk hr hg hm hk hb (fun σ => passAt tk σ) (pa_w X (e :: es)) hdb he hpl, fun F M0 M H σ Q s po => ha F M0 M H σ _ s (po.bind.and.imp (fun y _ ⟨em, q⟩ vs M1 H1 g1 av => by
    have s1 := s.grow g1
    obtain ⟨as, o, nd, ma, kk⟩ := s1.called (hok y em) (hnd y) av
    refine ⟨cv y, M1, as, g1.mh, by rw [hcv]; exact o, nd, ma, q.bind.imp (fun r _ q v M' H' bs cs c ow os nw => ?_) fun c z M' H' cs ch os nw C hC => ?_⟩
    · have s2 := kk M' H' (post r) bs cs v (er r) c ow (by rw [← hcv]; exact os) nw
      rw [hΓ y r em] at s2
      exact q v M' H' s2
    · have s2 := kk M' H' (trs ((ags y).map Ag.ar)) [] cs .non (.imm .non) ch ⟨rfl, rfl⟩ (by rw [fill_self, ← hcv]; exact os) nw
      rw [putBack_self (hok y em) (hnd y)] at s2
      exact z M' H' s2.front C hC) fun c z M' H' g => z M' H' (s.grow g))⟩
/-- o.m(a, ..), which may change o -/
theorem dx_methG {k : Nat} {f C : Addr} {fd : FuncData} {ps : List Str} {n mt : Str} {apos : Pos} {o : Expr} {fs : List Str} {ts : β → List T} {i : Nat} {ea : γ → T} {x0 : γ} {path : κ → List Nat} {eb : β → T} {val : κ → β} {put : κ → β → γ} {mo : R κ} {x : Sl} {args : α → List Ar} {er : ρ → T} {post : ρ → List T} {g : α → R ρ} {ags : ξ → List Ag} {m : R ξ}
    (cv : κ → ξ → α) (Γ' : (κ × ξ) × ρ → List Sl) (Fk : FnOk X.prog X.w X.K X.mg X.base (L2.CX X.prog X.w) k f fd ps (SpG X.G args er post g)) (hr : Room k X.A) (cf : ClF X n C) (hm : Meth X.K C mt f) (hb : Binds X.K fd ps [])
    (tk : Takes X W) (ho : DP X W Γ o i ea x0 path eb val put mo) (hx : Γ[i]? = some x) (ht : x.tree = some (ea x0)) (ha : DAM X W Γ (e :: es) ags m) (hok : ∀ y, m = .ok y → AgOk Γ (ags y)) (hnd : ∀ y, (i :: agSlots (ags y)).Nodup := by intro _; decide) (hcv : ∀ k y, args (cv k y) = .tr (eb (val k)) :: (ags y).map Ag.ar := by intro _ _; rfl)
    (hΓ : ∀ k y r, mo = .ok k → m = .ok y → putBack Γ (.pt i (path k) x (ea x0) (eb (val k)) :: ags y) (post r) = Γ' ((k, y), r)) (hob : ∀ y, eb y = .obj n fs (ts y) := by intro _; rfl) (hf : fs.contains mt = false := by decide)
    (he : starEach (e :: es) X.env = (false, eval e X.env) :: starEach es X.env := by exact star_cons rfl) (hpl : (backTo pos (starEach es X.env)).any (·.1) = false := by exact star_none rfl)
    (pl : Sem Bool) (hev : eval (.Call (.Attribute o mt apos) (e :: es) [] pos) X.env = (do
      let ov ← eval o X.env
      standAt apos.atName
      let (f, first) ← holding [ov] (getMethod ov mt pl)
      callWith pos f first (backTo pos (starEach (e :: es) X.env)) (backToKw pos (keywordEach [] X.env))) := by rfl) :
    DX X W Γ (.Call (.Attribute o mt apos) (e :: es) [] pos) Γ' (fun r => er r.2) (mo >>= fun k => m >>= fun y => g (cv k y) >>= fun r => .ok ((k, y), r)) :=
  dmk ⟨_, pe_methP (pl := pl) (pe_w X o) cf.c hm Fk hr hb (fun σ => passAt tk σ) (pa_w X (e :: es)) he hpl hev, fun F M0 M H σ Q s po => ho.run F M0 M H σ _ s (po.bind.and.imp (fun k0 _ ⟨ek, q⟩ v w M1 H1 g1 hv hw => by
    have s1 := s.grow g1
    obtain ⟨v', w', a', h1, h2, h3⟩ := s1.at hx ht (ho.get k0 ek)
    rw [hv] at h1
    cases h1
    cases At.det hw h2
    rw [hob] at h3
    obtain ⟨ad, c0, dx, kvs, r, rfl, q2, q3, q4, q5, q6⟩ := h3
    have z3 : X.mg n = some (.ref c0) := q3
    rw [cf.g] at z3
    cases z3
    refine ⟨ad, dx, kvs, rfl, q4, lookup_no (by rw [q5]; exact hf), ha F M0 M1 H1 σ _ s1 (q.bind.and.imp (fun y _ ⟨em, q⟩ vs M2 H2 g2 av => ?_) fun c z M' H' g => z M' H' (s1.grow g))⟩
    have s2 := s1.grow g2
    obtain ⟨as, o, nd, ma, kk⟩ := s2.called (ags := .pt i (path k0) x (ea x0) (eb (val k0)) :: ags y) (vs := .ref ad :: vs) ⟨hx, ht, ho.get k0 ek, hok y em⟩ (hnd y) ⟨.ref ad, vs, v, rfl, hv, At.same g2.hh hw, av⟩
    refine ⟨cv k0 y, M2, as, g2.mh, by rw [hcv]; exact o, nd, ma, q.bind.imp (fun r _ q v M' H' bs cs c ow os nw => ?_) fun c z M' H' cs ch os nw C hC => ?_⟩
    · have s3 := kk M' H' (post r) bs cs v (er r) c ow (by rw [hcv] at os; exact os) nw
      rw [hΓ k0 y r ek em] at s3
      exact q v M' H' s3
    · have s3 := kk M' H' (trs ((Ag.pt i (path k0) x (ea x0) (eb (val k0)) :: ags y).map Ag.ar)) [] cs .non (.imm .non) ch ⟨rfl, rfl⟩ (by rw [fill_self]; rw [hcv] at os; exact os) nw
      rw [putBack_self (ags := .pt i (path k0) x (ea x0) (eb (val k0)) :: ags y) ⟨hx, ht, ho.get k0 ek, hok y em⟩ (hnd y)] at s3
      exact z M' H' s3.front C hC) fun c z M' H' g => z M' H' (s.grow g))⟩
theorem dx_methG0 {k : Nat} {f C : Addr} {fd : FuncData} {ps : List Str} {n mt : Str} {apos : Pos} {o : Expr} {fs : List Str} {ts : β → List T} {i : Nat} {ea : γ → T} {x0 : γ} {path : κ → List Nat} {eb : β → T} {val : κ → β} {put : κ → β → γ} {mo : R κ} {x : Sl} {args : α → List Ar} {er : ρ → T} {post : ρ → List T} {g : α → R ρ}
    (cv : κ → α) (Γ' : κ × ρ → List Sl) (Fk : FnOk X.prog X.w X.K X.mg X.base (L2.CX X.prog X.w) k f fd ps (SpG X.G args er post g)) (hr : Room k X.A) (cf : ClF X n C) (hm : Meth X.K C mt f) (hb : Binds X.K fd ps [])
    (tk : Takes X W) (ho : DP X W Γ o i ea x0 path eb val put mo) (hx : Γ[i]? = some x) (ht : x.tree = some (ea x0)) (hcv : ∀ k, args (cv k) = [.tr (eb (val k))] := by intro _; rfl)
    (hΓ : ∀ k r, mo = .ok k → putBack Γ [.pt i (path k) x (ea x0) (eb (val k))] (post r) = Γ' (k, r)) (hob : ∀ y, eb y = .obj n fs (ts y) := by intro _; rfl) (hf : fs.contains mt = false := by decide)
    (pl : Sem Bool) (hev : eval (.Call (.Attribute o mt apos) [] [] pos) X.env = (do
      let ov ← eval o X.env
      standAt apos.atName
      let (f, first) ← holding [ov] (getMethod ov mt pl)
      callWith pos f first (backTo pos (starEach [] X.env)) (backToKw pos (keywordEach [] X.env))) := by rfl) :
    DX X W Γ (.Call (.Attribute o mt apos) [] [] pos) Γ' (fun r => er r.2) (mo >>= fun k => g (cv k) >>= fun r => .ok (k, r)) :=
  dmk ⟨_, pe_methP0 (pl := pl) (pe_w X o) cf.c hm Fk hr hb (fun σ => passAt tk σ) hev, fun F M0 M H σ Q s po => ho.run F M0 M H σ _ s (po.bind.and.imp (fun k0 _ ⟨ek, q⟩ v w M1 H1 g1 hv hw => by
    have s1 := s.grow g1
    obtain ⟨v', w', a', h1, h2, h3⟩ := s1.at hx ht (ho.get k0 ek)
    rw [hv] at h1
    cases h1
    cases At.det hw h2
    rw [hob] at h3
    obtain ⟨ad, c0, dx, kvs, r, rfl, q2, q3, q4, q5, q6⟩ := h3
    have z3 : X.mg n = some (.ref c0) := q3
    rw [cf.g] at z3
    cases z3
    have nd1 : (agSlots [Ag.pt i (path k0) x (ea x0) (eb (val k0))]).Nodup := by show ([i] : List Nat).Nodup; simp
    obtain ⟨as, o, nd, ma, kk⟩ := s1.called (ags := [.pt i (path k0) x (ea x0) (eb (val k0))]) (vs := [.ref ad]) ⟨hx, ht, ho.get k0 ek, trivial⟩ nd1 ⟨.ref ad, [], v, rfl, hv, hw, rfl⟩
    refine ⟨ad, dx, kvs, rfl, q4, lookup_no (by rw [q5]; exact hf), cv k0, M1, as, g1.mh, by rw [hcv]; exact o, nd, ma, q.bind.imp (fun r _ q v M' H' bs cs c ow os nw => ?_) fun c z M' H' cs ch os nw C hC => ?_⟩
    · have s3 := kk M' H' (post r) bs cs v (er r) c ow (by rw [hcv] at os; exact os) nw
      rw [hΓ k0 r ek] at s3
      exact q v M' H' s3
    · have s3 := kk M' H' (trs ([Ag.pt i (path k0) x (ea x0) (eb (val k0))].map Ag.ar)) [] cs .non (.imm .non) ch ⟨rfl, rfl⟩ (by rw [fill_self]; rw [hcv] at os; exact os) nw
      rw [putBack_self (ags := [.pt i (path k0) x (ea x0) (eb (val k0))]) ⟨hx, ht, ho.get k0 ek, trivial⟩ nd1] at s3
      exact z M' H' s3.front C hC) fun c z M' H' g => z M' H' (s.grow g))⟩
end
/-! ### a def that changes -/
/-- at its beginning -/
def slotsG : List Ar → List V → List Sl
  | .dt d :: as, _ :: vs => .ow (.imm d) :: slotsG as vs
  | .tr t :: as, v :: vs => .pn v t :: slotsG as vs
  | _, _ => []
/-- at its end: the trees us stand where they stood -/
def slotsR : List Ar → List V → List T → List Sl
  | .dt _ :: as, _ :: vs, us => .un :: slotsR as vs us
  | .tr _ :: as, v :: vs, u :: us => .pn v u :: slotsR as vs us
  | .tr _ :: as, _ :: vs, [] => .un :: slotsR as vs []
  | _, _, _ => []
section
variable {G : Ctx} {F M0 M M' H H' : Hp}
theorem Owns.satG : ∀ {ars : List Ar} {vs : List V} {as : List Addr}, Owns G M H (ars.map Ar.to) vs as → Sat G F M H (slotsG ars vs) (vs.map some) as
  | [], vs, as, h => by rw [h.1, h.2]; exact ⟨rfl, rfl⟩
  | .dt d :: ars, vs, as, ⟨v, r, a1, a2, h1, h2, h3, h4⟩ => by
    subst h1; subst h2
    exact ⟨v, _, a1, a2, rfl, rfl, h3, Owns.satG h4⟩
  | .tr t :: ars, vs, as, ⟨v, r, a1, a2, h1, h2, h3, h4⟩ => by
    subst h1; subst h2
    exact ⟨_, a1, a2, rfl, rfl, h3, Owns.satG h4⟩
theorem Sat.fillG {Γu : List Sl} (mm : Same M M') : ∀ {ars : List Ar} {vs : List V} {us : List T} {as cs : List Addr} {σ : St}, Owns G M H (ars.map Ar.to) vs as → Sat G F M' H' (slotsR ars vs us ++ Γu) σ cs → ∃ ds, ds.Sublist cs ∧ Owns G M' H' (fill ars us) vs ds
  | [], vs, us, as, cs, σ, o, s => ⟨[], List.nil_sublist _, by rw [o.1]; exact ⟨rfl, rfl⟩⟩
  | .dt d :: ars, vs, us, as, cs, σ, ⟨v, r, a1, a2, h1, h2, h3, h4⟩, s => by
    subst h1
    obtain ⟨x, r', e1, s2⟩ := s
    obtain ⟨ds, sub, ow⟩ := Sat.fillG mm h4 s2
    exact ⟨ds, sub, ⟨v, r, [], ds, rfl, rfl, ⟨rfl, Rep.mono mm _ _ h3.2⟩, ow⟩⟩
  | .tr t :: ars, vs, u :: us, as, cs, σ, ⟨v, r, a1, a2, h1, h2, h3, h4⟩, s => by
    subst h1
    obtain ⟨r', b1, b2, e1, e2, h5, s2⟩ := s
    obtain ⟨ds, sub, ow⟩ := Sat.fillG mm h4 s2
    exact ⟨b1 ++ ds, by rw [e2]; exact List.Sublist.append_left sub b1, ⟨v, r, b1, ds, rfl, rfl, h5, ow⟩⟩
  | .tr t :: ars, vs, [], as, cs, σ, ⟨v, r, a1, a2, h1, h2, h3, h4⟩, s => by
    subst h1
    obtain ⟨x, r', e1, s2⟩ := s
    obtain ⟨ds, sub, ow⟩ := Sat.fillG mm h4 s2
    exact ⟨ds, sub, ⟨v, r, [], ds, rfl, rfl, ⟨rfl, trivial⟩, ow⟩⟩
end
section
variable {P : Program} {w : World} {K : PySem.W.Frag} {mg : Str → Option Value} {base : Heap}
theorem fn_gen {x qual : Str} {st : Stmt} {f : Addr} {fd : FuncData} {N ps : List Str} {k : Nat} {α ρ : Type} {args : α → List Ar} {er : ρ → T} {post : ρ → List T} {g : α → R ρ} (κ : α → List V → ρ → Kd) (F : Fun K x qual st f fd) (Sc : FnScope N ps (defScope st))
    (hl : ∀ a, (args a).length = ps.length)
    (hb : ∀ (cdv : Value) (A : Around) (outer : List Env) (s : Shared) (H : Hp) (E : XK), Room k (A.deeper (PyProof.Rows.envOfC qual (defScope st) s.heap.objs.size f cdv)) → ∀ a (vs : List V), vs.length = ps.length →
      Bk (cxOf (L2.CX P w) P w K mg base N qual (defScope st) f cdv A outer s H E) (fun cls d _ H => E cls d H) (slotsR (args a) vs (trs (args a)) ++ List.replicate (N.length - ps.length) .un) (slotsG (args a) vs ++ List.replicate (N.length - ps.length) .un) (defBody st) (κ a vs) (g a))
    (hκ : ∀ a vs r, ((κ a vs r).nx = none ∨ ((κ a vs r).nx = some (slotsR (args a) vs (post r) ++ List.replicate (N.length - ps.length) .un) ∧ er r = .imm .non)) ∧ ((κ a vs r).rt = none ∨ (κ a vs r).rt = some (er r, slotsR (args a) vs (post r) ++ List.replicate (N.length - ps.length) .un)) ∧ (κ a vs r).bk = none ∧ (κ a vs r).ct = none) :
    FnOk P w K mg base (L2.CX P w) (k + 1) f fd ps (SpG ⟨K, mg⟩ args er post g) := by
  refine F.okX Sc (fun vs H Q E h => ?_) (fun cdv A outer s H vs Q E hr h => ?_)
  · obtain ⟨a, M, as, _, r, _⟩ := h
    rw [r.len, List.length_map, hl]
  · obtain ⟨a, M, as, mh, r, nd, ma, po⟩ := h
    have e : vs.length = ps.length := by rw [r.len, List.length_map, hl]
    obtain ⟨F0, hF⟩ : ∃ F0 : Hp, F0 = fun b => if b ∈ as then none else H b := ⟨_, rfl⟩
    have f1 : ∀ b ∈ as, F0 b = none := fun b hb => by rw [hF]; show (if b ∈ as then none else H b) = none; rw [if_pos hb]
    have f2 : ∀ b, b ∉ as → F0 b = H b := fun b hb => by rw [hF]; show (if b ∈ as then none else H b) = H b; rw [if_neg hb]
    have chg : ∀ {M' H' as'}, Fr0 F0 M M' H' as' → Chg M H M' H' as := fun {M' H' as'} f => ⟨fun b o hb eo => f.fh b o (by rw [f2 b hb]; exact eo), f.mm, f.mh, fun b z => by
      rcases f.nw b z with q | q
      · exact .inl q
      · by_cases hb : b ∈ as
        · exact .inr (.inr hb)
        · rw [f2 b hb] at q; exact .inr (.inl q)⟩
    have nwf : ∀ {M' H' as'}, Fr0 F0 M M' H' as' → Nw M' H as as' := fun {M' H' as'} f => ⟨f.nd, fun b hb => by
      by_cases hb' : b ∈ as
      · exact .inl hb'
      · have := f.fa b hb
        rw [f2 b hb'] at this; exact .inr this, f.ma⟩
    refine ⟨_, pss_w _ _, hb cdv A outer s H E hr a vs e F0 M M H _ _ ?_ ?_⟩
    · refine ⟨as, ⟨fun b o eo => ?_, .refl _, mh, fun _ z => .inl z, nd, f1, ma⟩, ?_⟩
      · by_cases hb : b ∈ as
        · rw [f1 b hb] at eo; cases eo
        · rw [f2 b hb] at eo; exact eo
      · unfold L2.start
        rw [e, ← List.append_nil as]
        exact Sat.app (bs := []) r.satG (Sat.uns _)
    · refine po.imp (fun x _ q => ⟨fun Γ e M' H' σ st => ?_, fun t Γ e M' H' σ v st => ?_, fun Γ e => ?_, fun Γ e => ?_⟩) fun c z M' H' σ' st C hC => ?_
      · rcases (hκ a vs x).1 with y | ⟨y, y2⟩
        · rw [y] at e; cases e
        · rw [y] at e
          cases e
          obtain ⟨cs, f, sa⟩ := st
          obtain ⟨ds, sub, ow⟩ := Sat.fillG f.mm r sa
          rw [y2] at q
          exact q .non M' H' [] ds (chg f) ⟨rfl, rfl⟩ ow (nwf (f.sub sub))
      · rcases (hκ a vs x).2.1 with y | y
        · rw [y] at e; cases e
        · rw [y] at e
          obtain ⟨e1, e2⟩ := Prod.mk.inj (Option.some.inj e)
          subst e1; subst e2
          obtain ⟨cs, f, ⟨v', r', a1, a2, z1, z2, z3, z4⟩⟩ := st
          obtain ⟨z5, z6⟩ := List.cons.inj z1
          cases z5
          subst z2
          obtain ⟨ds, sub, ow⟩ := Sat.fillG f.mm r z4
          exact q v M' H' a1 ds (chg f) z3 ow (nwf (f.sub (List.Sublist.append_left sub a1)))
      · rw [(hκ a vs x).2.2.1] at e; cases e
      · rw [(hκ a vs x).2.2.2] at e; cases e
      · obtain ⟨cs, f, sa⟩ := st
        obtain ⟨ds, sub, ow⟩ := Sat.fillG f.mm r sa
        rw [fill_self] at ow
        exact z M' H' ds (chg f) ow (nwf (f.sub sub)) C hC
end
end Cn
/-! CnG: fields that are stored, objects that are made, pop -/
namespace Cn
open PySem PySem.Spec L2
theorem putF_at {f : Str} {v : V} : ∀ {kvs : List (Str × V)} {j : Nat}, (kvs.map (·.1)).findIdx? (f == ·) = some j → (putF f v kvs).map (·.1) = kvs.map (·.1) ∧ (putF f v kvs).map (·.2) = (kvs.map (·.2)).set j v
  | [], j, h => by cases h
  | (k, x) :: kvs, j, h => by
    rw [List.map_cons, List.findIdx?_cons] at h
    by_cases c : (f == k) = true
    · rw [if_pos c] at h
      cases h
      have e : k = f := (eq_of_beq c).symm
      rw [show putF f v ((k, x) :: kvs) = (if k = f then (k, v) :: kvs else (k, x) :: putF f v kvs) from rfl, if_pos e]
      exact ⟨rfl, rfl⟩
    · rw [if_neg c] at h
      cases q : (kvs.map (·.1)).findIdx? (f == ·) with
      | none => rw [q] at h; cases h
      | some j' =>
        rw [q] at h
        cases h
        obtain ⟨h1, h2⟩ := putF_at (v := v) q
        have e : ¬ k = f := fun z => c (by rw [z]; exact beq_self_eq_true f)
        rw [show putF f v ((k, x) :: kvs) = (if k = f then (k, v) :: kvs else (k, x) :: putF f v kvs) from rfl, if_neg e]
        exact ⟨by rw [List.map_cons, List.map_cons, h1], by rw [List.map_cons, List.map_cons, h2]; rfl⟩
theorem putF_new {f : Str} {v : V} : ∀ {kvs : List (Str × V)}, (kvs.map (·.1)).contains f = false → putF f v kvs = kvs ++ [(f, v)]
  | [], h => rfl
  | (k, x) :: kvs, h => by
    rw [List.map_cons, List.contains_cons, Bool.or_eq_false_iff] at h
    have e : ¬ k = f := fun z => by rw [z] at h; simp at h
    rw [show putF f v ((k, x) :: kvs) = (if k = f then (k, v) :: kvs else (k, x) :: putF f v kvs) from rfl, if_neg e, putF_new h.2]
    rfl
/-- a child's tree gives place to a new one -/
theorem Owns.repl {G : Ctx} {M Hm H2 : Hp} {ts : List T} {vs : List V} {r n : List Addr} {j : Nat} {t0 t : T} {v : V} {ad : Addr} {o : HO} (h : Owns G M Hm ts vs r) (hj : ts[j]? = some t0) (nd : r.Nodup) (na : ad ∉ r) (g : Same Hm H2) (ma : ∀ b ∈ r, M b = none) (om : Own G M H2 t v n) (nn : n.Nodup) (fr : ∀ b ∈ n, Hm b = none ∧ M b = none) (ha : Hm ad ≠ none) :
    ∃ r', Owns G M (upd H2 ad o) (ts.set j t) (vs.set j v) r' ∧ r'.Nodup ∧ ∀ b ∈ r', (b ∈ r ∨ Hm b = none) ∧ M b = none := by
  obtain ⟨w0, lf, af, rf, q1, q2, q3, q4⟩ := Owns.focus h hj
  have hsub : ∀ b ∈ lf ++ rf, b ∈ r := fun b hb => by
    rw [q2]
    rcases List.mem_append.mp hb with y | y <;> simp [y]
  have hna : ∀ b ∈ n, b ≠ ad := fun b hb z => by subst z; exact ha (fr b hb).1
  have thr : ∀ b ∈ r, Hm b ≠ none := Owns.there _ _ _ h
  refine ⟨lf ++ n ++ rf, q4 M _ _ _ _ (.refl _) (fun b hb o e => by rw [upd_ne (fun z => na (by rw [← z]; exact hsub b hb))]; exact g b o e) (Own.keep (.refl _) _ _ _ (fun b hb o e => by rw [upd_ne (hna b hb)]; exact e) om), ?_, fun b hb => ?_⟩
  · have sub : (lf ++ rf).Sublist r := by
      rw [q2, List.append_assoc]
      exact List.Sublist.append_left (List.sublist_append_right _ _) _
    have nlr := nd.sublist sub
    rw [List.nodup_append] at nlr
    rw [List.append_assoc, List.nodup_append]
    refine ⟨nlr.1, by rw [List.nodup_append]; exact ⟨nn, nlr.2.1, fun y hy y' hy' e => by subst e; exact thr y (hsub y (List.mem_append_right _ hy')) (fr y hy).1⟩, fun y hy y' hy' e => ?_⟩
    subst e
    rcases List.mem_append.mp hy' with z | z
    · exact thr y (hsub y (List.mem_append_left _ hy)) (fr y z).1
    · exact nlr.2.2 y hy y z rfl
  · rcases List.mem_append.mp hb with y | y
    · rcases List.mem_append.mp y with y | y
      · exact ⟨.inl (hsub b (List.mem_append_left _ y)), ma b (hsub b (List.mem_append_left _ y))⟩
      · exact ⟨.inr (fr b y).1, (fr b y).2⟩
    · exact ⟨.inl (hsub b (List.mem_append_right _ y)), ma b (hsub b (List.mem_append_right _ y))⟩
section
variable {X : Cx} {W : WX} {Γe Γ : List Sl} {a b e c tg : Expr} {es : List Expr} {α β γ κ ω ω1 ρ ξ ζ : Type} {pos : Pos} {s : Stmt} {rest ss A B : List Stmt}
section
variable {i : Nat} {ea : α → T} {path : ζ → κ → List Nat} {eb : β → T} {x0 : ζ → α} {val : ζ → κ → β} {put : ζ → κ → β → α} {m : ζ → R κ} {x : ζ → Sl} {Γ1 : ζ → List Sl}
/-- tgt.f = e, a field that is there -/
theorem st_fldX {n f : Str} {C : Addr} {fs : List Str} {em : ζ → T} {me : R ζ} {ts : β → List T} {pos' : Pos} (j : Nat) (st : ζ → β → β) (he : DX X W Γ e Γ1 em me) (hp : ∀ z, DP X W (Γ1 z) tg i ea (x0 z) (path z) eb (val z) (put z) (m z)) (hx : ∀ z, (Γ1 z)[i]? = some (x z)) (ht : ∀ z, (x z).tree = some (ea (x0 z))) (cf : ClF X n C) (na : NoAttr X.K C f) (hw : Wk Γe Γ) (hw1 : ∀ z, Wk Γe (Γ1 z))
    (hb : ∀ y, eb y = .obj n fs (ts y) := by intro _; rfl) (hj : fs.findIdx? (f == ·) = some j := by decide) (hg : ∀ y, Nat.blt j (ts y).length = true := by intro _; rfl) (hst : ∀ z y, T.obj n fs ((ts y).set j (em z)) = eb (st z y) := by intro _ _; rfl) (hn : Nat.blt fs.length 1000 = true := by rfl)
    (hs : swapsWith e (some (.Attribute tg f pos')) pos.line X.env = pure false := by rfl) :
    St1 X W Γe Γ (.Assign [.Attribute tg f pos'] e pos) (fun r : ζ × α => .n ((Γ1 r.1).set i ((x r.1).put (ea r.2)))) (me >>= fun z => m z >>= fun k => .ok (z, put z k (st z (val z k)))) :=
  smk ⟨_, ps_fld (pe_w X tg) (pe_w X e) hs, fun F M0 M H σ D s po => by
    refine he F M0 M H σ _ s (po.bind.imp (fun z _ q v M1 H1 sF => ?_) fun c z => er_wkS hw z)
    have s1 := sF.front
    refine (hp z).run F M0 M1 H1 σ _ s1 (q.bind.and.imp (fun k _ ⟨ek, q⟩ v0 w M2 H2 g2 hv hw2 => ?_) fun c q => er_wk s1 (hw1 z) q)
    obtain ⟨Hm, n', sm, gm, om, ndm, frm⟩ := (sF.grow g2).back
    obtain ⟨v', w', aa, y1, y2, y3⟩ := sm.at (hx z) (ht z) ((hp z).get k ek)
    rw [hv] at y1
    cases y1
    cases At.det hw2 (At.same gm.hh y2)
    obtain ⟨a, o1, nd, ma, kk⟩ := sm.root (hx z) (ht z) ((hp z).get k ek) hv y2
    rw [hb] at o1
    obtain ⟨ad, c0, dx, kvs, r, rfl, ea', q3, h1, q5, q6⟩ := id o1
    have z3 : X.mg n = some (.ref c0) := q3
    rw [cf.g] at z3
    cases z3
    have hkl : kvs.length = fs.length := by rw [← q5, List.length_map]
    refine ⟨ad, C, dx, kvs, rfl, gm.hh _ _ h1, cf.c, na, by rw [hkl]; exact Nat.le_of_ble_eq_true hn, ?_⟩
    refine Kn.nx q _ rfl M2 _ σ ?_
    rw [← (hp z).set k _ ek]
    have hjk : (kvs.map (·.1)).findIdx? (f == ·) = some j := by rw [q5]; exact hj
    obtain ⟨k1, k2⟩ := putF_at (v := v) hjk
    have nd' := nd
    rw [ea', List.nodup_cons] at nd'
    have hjl : j < (ts (val z k)).length := Nat.le_of_ble_eq_true (hg _)
    obtain ⟨r', o', nr, fr⟩ := Owns.repl (ad := ad) (o := .ins C dx (putF f v kvs)) q6 (List.getElem?_eq_getElem hjl) nd'.2 nd'.1 gm.hh (fun b hb => ma b (by rw [ea']; exact List.mem_cons_of_mem _ hb)) om ndm frm (by rw [h1]; exact fun z => nomatch z)
    rw [← hst]
    exact kk ad r rfl ea' M2 H2 _ _ r' gm ⟨ad, C, dx, putF f v kvs, r', rfl, rfl, q3, upd_same, by rw [k1, q5], by rw [k2]; exact o'⟩ nr fr⟩
end
/-- self.f = e, a field that is new; self in slot i -/
theorem st_fldN {n f : Str} {C : Addr} {fs : List Str} {em : ζ → T} {me : R ζ} {ts : ζ → List T} {pos' pv : Pos} {nm : Str} {x : ζ → Sl} {Γ1 : ζ → List Sl} (i : Nat) (he : DX X W Γ e Γ1 em me) (hx : ∀ z, (Γ1 z)[i]? = some (x z)) (ht : ∀ z, (x z).tree = some (.obj n fs (ts z))) (cf : ClF X n C) (na : NoAttr X.K C f) (hw : Wk Γe Γ)
    (hj : fs.contains f = false := by decide) (hn : Nat.blt fs.length 1000 = true := by rfl) (hN : X.N[i]? = some nm := by rfl) (hv : Vis X.env.scope nm := by first | exact Or.inl rfl | exact Or.inr (Or.inl rfl) | exact Or.inr (Or.inr rfl))
    (hd : (nm == ("__debug__" : Str)) = false := by decide) (hcd : (nm == ("__classdict__" : Str)) = false := by decide)
    (hs : swapsWith e (some (.Attribute (.Name nm pv) f pos')) pos.line X.env = pure false := by rfl) :
    St1 X W Γe Γ (.Assign [.Attribute (.Name nm pv) f pos'] e pos) (fun z => .n ((Γ1 z).set i ((x z).put (.obj n (fs ++ [f]) (ts z ++ [em z]))))) me :=
  smk ⟨_, ps_fld (pe_var hN hv hd hcd) (pe_w X e) hs, fun F M0 M H σ D s po => by
    refine he F M0 M H σ _ s (po.imp (fun z _ q v M1 H1 sF => ?_) fun c z => er_wkS hw z)
    obtain ⟨Hm, n', sm, gm, om, ndm, frm⟩ := sF.back
    obtain ⟨v', w', aa, y1, y2, y3⟩ := sm.at (p := []) (hx z) (ht z) rfl
    obtain ⟨a, o1, nd, ma, kk⟩ := sm.root (p := []) (hx z) (ht z) rfl y1 y2
    obtain ⟨ad, c0, dx, kvs, r, rfl, ea', q3, h1, q5, q6⟩ := id o1
    cases y2
    have z3 : X.mg n = some (.ref c0) := q3
    rw [cf.g] at z3
    cases z3
    have hkl : kvs.length = fs.length := by rw [← q5, List.length_map]
    refine ⟨_, y1, ad, C, dx, kvs, rfl, gm.hh _ _ h1, cf.c, na, by rw [hkl]; exact Nat.le_of_ble_eq_true hn, ?_⟩
    refine Kn.nx q _ rfl M1 _ σ ?_
    have k1 := putF_new (v := v) (kvs := kvs) (f := f) (by rw [q5]; exact hj)
    have nd' := nd
    rw [ea', List.nodup_cons] at nd'
    have thr : ∀ b ∈ r, Hm b ≠ none := Owns.there _ _ _ q6
    have hna : ∀ b ∈ r ++ n', b ≠ ad := fun b hb z => by
      subst z
      rcases List.mem_append.mp hb with y | y
      · exact nd'.1 y
      · have := (frm b y).1
        rw [h1] at this; cases this
    refine kk ad r rfl ea' M1 H1 _ _ (r ++ n') gm ⟨ad, C, dx, putF f v kvs, r ++ n', rfl, rfl, q3, upd_same, by rw [k1, List.map_append, q5]; rfl, ?_⟩ ?_ fun b hb => ?_
    · rw [k1, List.map_append]
      refine Owns.app (Owns.keep gm.mm _ _ _ (fun b hb o e => by rw [upd_ne (hna b (List.mem_append_left _ hb))]; exact gm.hh b o e) q6) ?_
      exact ⟨v, [], n', [], rfl, by simp, Own.keep (.refl _) _ _ _ (fun b hb o e => by rw [upd_ne (hna b (List.mem_append_right _ hb))]; exact e) om, ⟨rfl, rfl⟩⟩
    · rw [List.nodup_append]
      refine ⟨nd'.2, ndm, fun y hy y' hy' e => ?_⟩
      subst e
      exact thr y hy (frm y hy').1
    · rcases List.mem_append.mp hb with y | y
      · exact ⟨.inl y, ma b (by rw [ea']; exact List.mem_cons_of_mem _ y)⟩
      · exact ⟨.inr (frm b y).1, (frm b y).2⟩⟩
/-! ### pop -/
section
variable {i : Nat} {ea : α → T} {x0 : α} {path : κ → List Nat} {m : R κ} {x : Sl} {apos cpos : Pos}
theorem erase_map {α β : Type} (f : α → β) : ∀ (xs : List α) (j : Nat), (xs.map f).eraseIdx j = (xs.eraseIdx j).map f
  | [], _ => rfl
  | _ :: xs, 0 => rfl
  | x :: xs, j + 1 => congrArg (f x :: ·) (erase_map f xs j)
def popO {γ : Type} (xs : List γ) (i : Int) : Option (γ × List γ) := if xs.length ≤ 16777216 then (match ixN xs.length i with
  | some j => xs[j]?.map fun y => (y, xs.eraseIdx j)
  | none => none) else none
theorem Reps.erase {G : Ctx} {M : Hp} : ∀ {ds : List D} {vs : List V} (j : Nat), Reps G M ds vs → Reps G M (ds.eraseIdx j) (vs.eraseIdx j)
  | [], vs, j, h => by rw [show vs = [] from h]; exact rfl
  | d :: ds, vs, 0, ⟨v, r, h1, h2, h3⟩ => by subst h1; exact h3
  | d :: ds, vs, j + 1, ⟨v, r, h1, h2, h3⟩ => by subst h1; exact ⟨v, r.eraseIdx j, rfl, h2, Reps.erase j h3⟩
/-- tgt.pop(b), items that are data -/
theorem dx_popI {ei : γ → D} {val : κ → List γ} {put : κ → List γ → α} {mi : R Int} (hp : DP X W Γ tg i ea x0 path (fun xs => .lst (xs.map fun y => .imm (ei y))) val put m) (hx : Γ[i]? = some x) (ht : x.tree = some (ea x0)) (hi : DD X W Γ b D.int mi)
    (hbase : attributeBase tg "pop" X.env (eval tg X.env) = eval tg X.env := by rfl)
    (hfew : ((backTo cpos (starEach [b] X.env)).all (fun x => !x.1) && (backToKw cpos (keywordEach [] X.env)).all (fun x => x.1.isSome)
      && decide (([b]).length + ([] : List Keyword).length + (if ([] : List Keyword).isEmpty then 0 else 1) < 30)) = true := by rfl)
    (hline : (apos.endLine == cpos.line) = true := by rfl) (hs : starEach [b] X.env = (false, eval b X.env) :: starEach [] X.env := by exact star_cons rfl) (hplain : (backTo cpos (starEach [] X.env)).any (·.1) = false := by rfl) :
    DX X W Γ (.Call (.Attribute tg "pop" apos) [b] [] cpos) (fun r : γ × α => Γ.set i (x.put (ea r.2))) (fun r => .imm (ei r.1)) (m >>= fun k => mi >>= fun j => ofO (popO (val k) j) >>= fun p => .ok (p.1, put k p.2)) :=
  dmk ⟨_, pe_bm PySem.F.plainAttrs_list PySem.F.slot_list_pop PySem.F.type_list_pop mt_popAt (pe_w X tg) (pa_cons (pe_w X b) pa_nil (hs := hs)) hbase hfew hline hs hplain, fun F M0 M H σ Q st po => by
    refine hp.run F M0 M H σ _ st (po.bind.and.imp (fun k _ ⟨em, q⟩ v w M1 H1 g1 hv ha => ?_) fun c z M' H' g => z M' H' (st.grow g))
    have st1 := st.grow g1
    obtain ⟨a, o1, nd, ma, kk⟩ := st1.root hx ht (hp.get k em) hv ha
    obtain ⟨ad, vs, r, rfl, ea', h1, h2⟩ := id o1
    refine ⟨.inl ⟨rfl, vs, .of h1⟩, ?_⟩
    refine hi F M0 M1 H1 σ _ st1 (q.bind.imp (fun j _ q v2 M2 H2 g2 r2 => ?_) fun c z M' H' g => z M' H' (st1.grow g))
    have q := q.bind
    obtain ⟨p, ez, q⟩ := q.ofO
    unfold popO at ez
    by_cases hc : (val k).length ≤ 16777216
    case neg => rw [if_neg hc] at ez; cases ez
    rw [if_pos hc] at ez
    cases hq : ixN (val k).length j with
    | none => rw [hq] at ez; cases ez
    | some l =>
      rw [hq] at ez
      obtain ⟨s1, s2, s3, s4⟩ := ixN_seq hq
      have hlv : (val k)[l]? = some (val k)[l] := List.getElem?_eq_getElem s2
      have ez : ((val k)[l]?.map fun y => (y, (val k).eraseIdx l)) = some p := ez
      rw [hlv] at ez
      cases ez
      rw [map_imm] at h2
      obtain ⟨h3, er⟩ := Owns.of_imm h2
      subst er
      have hlen : vs.length = (val k).length := by rw [h3.len, List.length_map]
      obtain ⟨y, e3, r3⟩ := Reps.get h3 (i := l) (d := ei (val k)[l]) (by rw [List.getElem?_map, hlv]; rfl)
      refine ⟨ad, vs, j, l, y, rfl, by rw [show v2 = .int j from r2], g2.hh _ _ h1, by omega, by omega, by rw [hlen]; exact s1, e3, ?_⟩
      refine q y M2 _ ?_
      show S X.G F M0 M2 _ (some y :: σ) (.ow (.imm (ei (val k)[l])) :: Γ.set i (x.put (ea (put k ((val k).eraseIdx l)))))
      rw [← hp.set k _ em]
      refine S.consD (kk ad [] rfl ea' M2 H2 _ _ [] g2 ⟨ad, vs.eraseIdx l, [], rfl, rfl, upd_same, ?_⟩ List.nodup_nil fun _ z => nomatch z) (Rep.mono g2.mm _ _ r3)
      rw [map_imm]
      have := Reps.erase l (Reps.mono g2.mm _ _ h3)
      rw [erase_map] at this
      exact Owns.imm this⟩
/-- tgt.pop(): the last item -/
def popLO {γ : Type} (xs : List γ) : Option (γ × List γ) := xs[xs.length - 1]?.map fun y => (y, xs.dropLast)
end
/-! ### objects that are made -/
def agSh : Ag → Ag
  | .dt d => .dt d
  | .pt i p x t u => .pt (i + 1) p x t u
theorem agSh_ar : ∀ a : Ag, (agSh a).ar = a.ar
  | .dt _ => rfl
  | .pt _ _ _ _ _ => rfl
theorem agSh_ok {x0 : Sl} : ∀ {ags : List Ag} {Γ : List Sl}, AgOk Γ ags → AgOk (x0 :: Γ) (ags.map agSh)
  | [], _, _ => trivial
  | .dt _ :: as, Γ, h => agSh_ok (ags := as) h
  | .pt i p x t u :: as, Γ, ⟨h1, h2, h3, h4⟩ => ⟨h1, h2, h3, agSh_ok h4⟩
theorem agSh_slots : ∀ {ags : List Ag}, agSlots (ags.map agSh) = (agSlots ags).map (· + 1)
  | [] => rfl
  | .dt _ :: as => agSh_slots (ags := as)
  | .pt i _ _ _ _ :: as => congrArg ((i + 1) :: ·) (agSh_slots (ags := as))
theorem agSh_vs {G : Ctx} {M H : Hp} {σ : St} {y : Option V} : ∀ {ags : List Ag} {vs : List V}, AgVs G M H σ ags vs → AgVs G M H (y :: σ) (ags.map agSh) vs
  | [], vs, h => h
  | .dt d :: as, vs, ⟨v, r, h1, h2, h3⟩ => ⟨v, r, h1, h2, agSh_vs h3⟩
  | .pt i p _ _ _ :: as, vs, ⟨v, r, v0, h1, h2, h3, h4⟩ => ⟨v, r, v0, h1, h2, h3, agSh_vs h4⟩
theorem agSh_back {x0 : Sl} : ∀ {ags : List Ag} {Γ : List Sl} {us : List T}, putBack (x0 :: Γ) (ags.map agSh) us = x0 :: putBack Γ ags us
  | [], _, _ => rfl
  | .dt _ :: as, Γ, us => agSh_back (ags := as)
  | .pt i p x t u :: as, Γ, u' :: us => agSh_back (ags := as) (Γ := Γ.set i (x.put (T.set p t u'))) (us := us)
  | .pt i p x t u :: as, Γ, [] => agSh_back (ags := as) (Γ := Γ.set i (x.put (T.set p t (.imm .any)))) (us := [])
theorem run_makeS {CX : CXT} {k : Nat} {C f : Addr} {fd : FuncData} {ps : List Str} {sp : Sp} {E : St → XK} {pins : List (Addr × Obj)} {σ : St} {H : Hp} {s : Shared} {Q : VK} {us : List Value} {vs : List V} (M : Mk X.K C f) (F : FnOk X.prog X.w X.K X.mg X.base CX k f fd ps sp) (hr : Room (k + 1) X.A) (hb : Binds X.K fd ps [])
    (hx : PassesAt CX X σ (E σ)) (I : Inv X pins σ H s) (r : Vals vs us)
    (h : ∀ x dx, H x = none → H dx = none → dx ≠ x → sp (.ref x :: vs) (upd (upd H dx (.own x)) x (.ins C dx [])) (fun v H2 => v = .non ∧ Q (.ref x) H2) (E σ)) :
    wpAny (model X.prog X.w) X.A (call (.ref C) us) (EP X pins σ Q) X.xe s := by
  have hq := h (s.heap.objs.size + 1) s.heap.objs.size (I.hok.fresh (Nat.le_succ _)) (I.hok.fresh (Nat.le_refl _)) (Nat.ne_of_lt (Nat.lt_succ_self _))
  have I2 := Inv.made (C := C) I
  have r2 : Vals (V.ref (s.heap.objs.size + 1) :: vs) (Value.ref (s.heap.objs.size + 1) :: us) := .cons rfl r
  have hl : (Value.ref (s.heap.objs.size + 1) :: us).length = ps.length := by
    have e := r2.length
    rw [F.len _ _ _ _ hq] at e
    exact e.symm
  have b := hb _ (Value.ref (s.heap.objs.size + 1) :: us) I2.kIn (by rw [List.append_nil]; exact hl)
  rw [List.append_nil] at b
  refine wpAny_call (make_map (f := f) I.kIn M.makes M.init (beq_iff_eq.mp M.fn) (codeAny_mono (F.run _ X.stack _ _ ⟨Value.ref (s.heap.objs.size + 1) :: us, []⟩ (Value.ref (s.heap.objs.size + 1) :: us) _ _ (E σ) (hr.make C us [])
    (I2.env0.make C us []) b r2 hq) fun r s' hq' => ?_))
  cases r with
  | error e => exact hx pins _ _ e s' I2 hq'
  | ok fl =>
    cases fl with
    | ret u =>
      obtain ⟨v, H', I3, rv, ev, q3⟩ := I2.after hq'
      subst ev
      exact ⟨rv, ⟨V.ref (s.heap.objs.size + 1), H', I3, rfl, q3⟩⟩
    | next => exact False.elim hq'
    | brk => exact False.elim hq'
    | cont => exact False.elim hq'
def tMakeS (C : Addr) (sp : Sp) (E : St → XK) (t : TA) : TE := fun σ H Q => t σ H fun vs H1 => ∀ x dx, H1 x = none → H1 dx = none → dx ≠ x → sp (.ref x :: vs) (upd (upd H1 dx (.own x)) x (.ins C dx [])) (fun v H2 => v = .non ∧ Q (.ref x) H2) (E σ)
theorem pe_makeP {CX : CXT} {k : Nat} {C f : Addr} {fd : FuncData} {ps : List Str} {sp : Sp} {E : St → XK} {x : Str} {p : Pos} {t : TA} (M : Mk X.K C f) (F : FnOk X.prog X.w X.K X.mg X.base CX k f fd ps sp) (hr : Room (k + 1) X.A) (hg : Gl X x) (hm : X.mg x = some (.ref C)) (hb : Binds X.K fd ps []) (hx : ∀ σ, PassesAt CX X σ (E σ))
    (ha : PA X (e :: es) t) (hdb : (x == ("__debug__" : Str)) = false := by decide) (he : starEach (e :: es) X.env = (false, eval e X.env) :: starEach es X.env := by rfl) (hpl : (backTo pos (starEach es X.env)).any (·.1) = false := by rfl) :
    PE X (.Call (.Name x p) (e :: es) [] pos) (tMakeS C sp E t) := by
  refine ⟨fun pins s σ H Q I h => ?_⟩
  refine wpAny_Call_Name_kw (ld_glob I hg hm ?_ hdb)
  refine PySem.W.callWith_K (h₀ := X.base) I.ok.mod.kin M.kp (thn (ha.run pos pins s σ H _ I h) fun us s1 ⟨vs, H1, I1, r, q⟩ => ⟨I1.kIn, ?_⟩) he hpl
  exact run_makeS M F hr hb (hx σ) I1 r q
theorem pe_makeP0 {CX : CXT} {k : Nat} {C f : Addr} {fd : FuncData} {ps : List Str} {sp : Sp} {E : St → XK} {x : Str} {p : Pos} (M : Mk X.K C f) (F : FnOk X.prog X.w X.K X.mg X.base CX k f fd ps sp) (hr : Room (k + 1) X.A) (hg : Gl X x) (hm : X.mg x = some (.ref C)) (hb : Binds X.K fd ps []) (hx : ∀ σ, PassesAt CX X σ (E σ))
    (hdb : (x == ("__debug__" : Str)) = false := by decide) : PE X (.Call (.Name x p) [] [] pos) (tMakeS C sp E tNil) := by
  refine ⟨fun pins s σ H Q I h => ?_⟩
  refine wpAny_Call_Name_kw (ld_glob I hg hm ?_ hdb)
  exact PySem.W.callWith_K0 I.kIn M.kp (run_makeS (us := []) M F hr hb (hx σ) I .nil h)
/-- the new object, filled by __init__ -/
theorem made_ok {n : Str} {C : Addr} {k : Nat} {args : α → List Ar} {post : ρ → List T} {g : α → R ρ} {ags : List Ag} {eb : γ → T} {vr : ρ → γ} {pr : ρ → List T} {y : α} {F M0 M1 H1 : Hp} {σ : St} {Q : VK} {vs : List V} {Γ' : ρ → List Sl} (cf : ClF X n C) (s1 : S X.G F M0 M1 H1 σ Γ) (hok : AgOk Γ ags) (hnd : (agSlots ags).Nodup) (av : AgVs X.G M1 H1 σ ags vs)
    (hcv : args y = .tr (.obj n [] []) :: ags.map Ag.ar) (hpost : ∀ r, post r = eb (vr r) :: pr r) (hΓ : ∀ r, putBack Γ ags (pr r) = Γ' r)
    (q : Po (g y) (fun r => ∀ v M' H', S X.G F M0 M' H' (some v :: σ) (.ow (eb (vr r)) :: Γ' r) → Q v H') (fun c => ∀ M' H', S X.G F M0 M' H' σ Γ → Er X.G W c σ H')) :
    ∀ x dx, H1 x = none → H1 dx = none → dx ≠ x → SpG X.G args (fun _ => .imm .non) post g (.ref x :: vs) (upd (upd H1 dx (.own x)) x (.ins C dx [])) (fun v H2 => v = .non ∧ Q (.ref x) H2) (WE W σ) := by
  intro x dx hx hdx hne
  have m1x : M1 x = none := by
    cases e : M1 x with
    | none => rfl
    | some o => rw [s1.mh x o e] at hx; cases hx
  have m1d : M1 dx = none := by
    cases e : M1 dx with
    | none => rfl
    | some o => rw [s1.mh dx o e] at hdx; cases hdx
  have gr : Gr M1 H1 M1 (upd (upd H1 dx (.own x)) x (.ins C dx [])) := ⟨fun b o e => by rw [upd_ne (ne_of_none e hx), upd_ne (ne_of_none e hdx)]; exact e, .refl _, fun b o e => by rw [upd_ne (ne_of_none e m1x), upd_ne (ne_of_none e m1d)]; exact s1.mh b o e, fun _ z => .inl z⟩
  have s2 := s1.cons (v := .ref x) (t := .obj n [] []) (n := [x]) gr ⟨x, C, dx, [], [], rfl, rfl, cf.g, upd_same, rfl, ⟨rfl, rfl⟩⟩ (by simp) (fun a ha => by rw [List.mem_singleton.mp ha]; exact ⟨hx, m1x⟩)
  obtain ⟨as, o, nd, ma, kk⟩ := s2.called (ags := .pt 0 [] (.ow (.obj n [] [])) (.obj n [] []) (.obj n [] []) :: ags.map agSh) (vs := .ref x :: vs) ⟨rfl, rfl, rfl, agSh_ok hok⟩ (by
    show (0 :: agSlots (ags.map agSh)).Nodup
    rw [agSh_slots, List.nodup_cons]
    refine ⟨fun h => by obtain ⟨z, _, e⟩ := List.mem_map.mp h; omega, ?_⟩
    exact List.Pairwise.map _ (fun a b h => by omega) hnd) ⟨.ref x, vs, .ref x, rfl, rfl, rfl, agSh_vs (av.grow gr)⟩
  have ear : (Ag.pt 0 [] (.ow (.obj n [] [])) (.obj n [] []) (.obj n [] []) :: ags.map agSh).map Ag.ar = args y := by
    rw [hcv, List.map_cons, List.map_map]
    congr 1
    exact List.map_congr_left fun a _ => agSh_ar a
  rw [ear] at o
  refine ⟨y, M1, as, s2.mh, o, nd, ma, q.imp (fun r _ q v M' H' bs cs c ow os nw => ⟨?_, ?_⟩) fun c z M' H' cs ch os nw C' hC => ?_⟩
  · exact ow.2
  · have s3 := kk M' H' (post r) bs cs v (.imm .non) c ow (by rw [ear]; exact os) nw
    rw [hpost] at s3
    have e : putBack (.ow (.obj n [] []) :: Γ) (.pt 0 [] (.ow (.obj n [] [])) (.obj n [] []) (.obj n [] []) :: ags.map agSh) (eb (vr r) :: pr r) = .ow (eb (vr r)) :: Γ' r := by
      show putBack (.ow (eb (vr r)) :: Γ) (ags.map agSh) (pr r) = _
      rw [agSh_back, hΓ]
    rw [e] at s3
    exact q _ M' H' s3.front
  · have s3 := kk M' H' (trs (args y)) [] cs .non (.imm .non) ch ⟨rfl, rfl⟩ (by rw [ear, fill_self]; exact os) nw
    rw [← ear, putBack_self (ags := .pt 0 [] (.ow (.obj n [] [])) (.obj n [] []) (.obj n [] []) :: ags.map agSh) (Γ := .ow (.obj n [] []) :: Γ) ⟨rfl, rfl, rfl, agSh_ok hok⟩ (by
      show (0 :: agSlots (ags.map agSh)).Nodup
      rw [agSh_slots, List.nodup_cons]
      refine ⟨fun h => by obtain ⟨z, _, e⟩ := List.mem_map.mp h; omega, ?_⟩
      exact List.Pairwise.map _ (fun a b h => by omega) hnd)] at s3
    exact z M' H' s3.front.front C' hC
theorem dx_make {k : Nat} {f C : Addr} {fd : FuncData} {ps : List Str} {n : Str} {p : Pos} {args : α → List Ar} {post : ρ → List T} {g : α → R ρ} {ags : ξ → List Ag} {m : R ξ} {eb : γ → T} {pr : ρ → List T} (vr : ρ → γ) (cv : ξ → α) (Γ' : ξ × ρ → List Sl) (Mk : Mk X.K C f) (Fk : FnOk X.prog X.w X.K X.mg X.base (L2.CX X.prog X.w) k f fd ps (SpG X.G args (fun _ => .imm .non) post g)) (hr : Room (k + 1) X.A) (cf : ClF X n C) (hb : Binds X.K fd ps [])
    (tk : Takes X W) (ha : DAM X W Γ (e :: es) ags m) (hok : ∀ y, m = .ok y → AgOk Γ (ags y)) (hnd : ∀ y, (agSlots (ags y)).Nodup := by intro _; decide) (hcv : ∀ y, args (cv y) = .tr (.obj n [] []) :: (ags y).map Ag.ar := by intro _; rfl) (hpost : ∀ r, post r = eb (vr r) :: pr r := by intro _; rfl) (hΓ : ∀ y r, m = .ok y → putBack Γ (ags y) (pr r) = Γ' (y, r))
    (hg : Gl X n := by rfl) (hdb : (n == ("__debug__" : Str)) = false := by decide) (he : starEach (e :: es) X.env = (false, eval e X.env) :: starEach es X.env := by exact star_cons rfl) (hpl : (backTo pos (starEach es X.env)).any (·.1) = false := by exact star_none rfl) :
    DX X W Γ (.Call (.Name n p) (e :: es) [] pos) Γ' (fun r => eb (vr r.2)) (m >>= fun y => g (cv y) >>= fun r => .ok (y, r)) :=
  dmk ⟨_, pe_makeP Mk Fk hr hg cf.g hb (fun σ => passAt tk σ) (pa_w X (e :: es)) (hdb := hdb) (he := he) (hpl := hpl), fun F M0 M H σ Q s po => ha F M0 M H σ _ s (po.bind.and.imp (fun y _ ⟨em, q⟩ vs M1 H1 g1 av =>
    made_ok (k := k) (Γ' := fun r => Γ' (y, r)) (W := W) cf (s.grow g1) (hok y em) (hnd y) av (hcv y) hpost (fun r => hΓ y r em) (q.bind.imp (fun r _ q => q) fun c z M' H' s' => z M' H' s')) fun c z M' H' g => z M' H' (s.grow g))⟩
theorem dx_make0 {k : Nat} {f C : Addr} {fd : FuncData} {ps : List Str} {n : Str} {p : Pos} {args : Unit → List Ar} {post : ρ → List T} {g : Unit → R ρ} {eb : γ → T} {pr : ρ → List T} (vr : ρ → γ) (Mk : Mk X.K C f) (Fk : FnOk X.prog X.w X.K X.mg X.base (L2.CX X.prog X.w) k f fd ps (SpG X.G args (fun _ => .imm .non) post g)) (hr : Room (k + 1) X.A) (cf : ClF X n C) (hb : Binds X.K fd ps [])
    (tk : Takes X W) (hcv : args () = [.tr (.obj n [] [])] := by rfl) (hpost : ∀ r, post r = eb (vr r) :: pr r := by intro _; rfl) (hg : Gl X n := by rfl) (hdb : (n == ("__debug__" : Str)) = false := by decide) :
    DX X W Γ (.Call (.Name n p) [] [] pos) (fun _ => Γ) (fun r => eb (vr r)) (g ()) :=
  dmk ⟨_, pe_makeP0 Mk Fk hr hg cf.g hb (fun σ => passAt tk σ) (hdb := hdb), fun F M0 M H σ Q s po =>
    made_ok (k := k) (ags := []) (Γ' := fun _ => Γ) (W := W) cf s trivial List.nodup_nil rfl hcv hpost (fun r => rfl) po⟩
end
end Cn
/-! CnH: calm blocks, several targets, stores in place, further small ones -/
namespace Cn
open PySem PySem.Spec L2
theorem po_calm {α : Type} {m : R α} {Q : α → Prop} {E E' : Str → Prop} (h : Po (noErr m) Q E) : Po m Q E' := h.noErr.imp (fun _ _ z => z) fun _ z => z.elim
section
variable {X : Cx} {W : WX} {Γe Γe' Γ : List Sl} {a b c2 e c tg : Expr} {es : List Expr} {α β γ κ ω ω1 ρ ξ ζ : Type} {pos : Pos} {s : Stmt} {rest ss A B : List Stmt}
/-- from here on nothing is raised -/
theorem bk_calm {κ : ω → Kd} {m : R ω} (h : Bk X W Γe' Γ ss κ m) : Bk X W Γe Γ ss κ (noErr m) := ⟨fun F M0 M H σ D s po => h F M0 M H σ D s (po_calm po)⟩
/-! ### from one kind to another -/
theorem df_co {emb : α → T} {emb' : β → T} {m : R α} (h : DF X W Γ e emb m) (g : α → β) (he : ∀ x, emb x = emb' (g x) := by intro _; rfl) : DF X W Γ e emb' (m >>= fun x => .ok (g x)) := ⟨fun F M0 M H σ Q s po => h F M0 M H σ Q s (po.bind.imp (fun x _ k v M' H' as g o nd fr => k v M' H' as g (by rw [← he]; exact o) nd fr) fun _ z => z)⟩
theorem dx_co {Γ' : α → List Sl} {Γ2 : β → List Sl} {emb : α → T} {emb' : β → T} {m : R α} (h : DX X W Γ e Γ' emb m) (g : α → β) (he : ∀ x, emb x = emb' (g x) := by intro _; rfl) (hΓ : ∀ x, Γ' x = Γ2 (g x) := by intro _; rfl) : DX X W Γ e Γ2 emb' (m >>= fun x => .ok (g x)) := ⟨fun F M0 M H σ Q s po => h F M0 M H σ Q s (po.bind.imp (fun x _ k v M' H' s' => k v M' H' (by rw [← he, ← hΓ]; exact s')) fun _ z => z)⟩
theorem db_co {emb : α → T} {emb' : β → T} {m : R α} (h : DB X W Γ e emb m) (g : α → β) (he : ∀ x, emb x = emb' (g x) := by intro _; rfl) : DB X W Γ e emb' (m >>= fun x => .ok (g x)) := ⟨fun F M0 M H σ Q s po => h F M0 M H σ Q s (po.bind.imp (fun x _ k v M' H' as g o => k v M' H' as g (by rw [← he]; exact o)) fun _ z => z)⟩
theorem dlt_co {ei : β → D} {ei' : γ → D} {m : R (List β)} (h : DLt X W Γ e (fun xs => xs.map ei) m) (g : β → γ) (he : ∀ x, ei x = ei' (g x) := by intro _; rfl) : DLt X W Γ e (fun xs => xs.map ei') (m >>= fun xs => .ok (xs.map g)) := ⟨fun F M0 M H σ Q s po => h F M0 M H σ Q s (po.bind.imp (fun x _ k a vs M' H' gr hl r => k a vs M' H' gr hl (by
  show Reps X.G M' ((x.map g).map ei') vs
  rw [List.map_map, show ((ei' ∘ g) : β → D) = ei from funext fun z => (he z).symm]; exact r)) fun _ z => z)⟩
/-- a tree that is compared as data -/
theorem de_db {emb : α → T} {emb' : α → D} {m : R α} (h : DB X W Γ e emb m) (he : ∀ x, fz (emb x) = emb' x := by intro _; rfl) : DE X W Γ e emb' m := ⟨fun F M0 M H σ Q s po => h F M0 M H σ Q s (po.imp (fun x _ k v M' H' as g o => k v M' H' g fun H'' s2 c => by
  have r := Own.freeze (M' := H') g.mh _ _ _ (fun a _ o e => e) o
  rw [he] at r
  exact Rep.dp (G := X.G) s2 _ _ c r) fun _ z => z)⟩
/-- one's own, or None -/
def eOptT {α : Type} (e : α → T) : Option α → T
  | none => .imm .non
  | some x => e x
theorem fz_opt {e : α → T} {e' : α → D} (h : ∀ x, fz (e x) = e' x) (x : Option α) : fz (eOptT e x) = eOpt e' x := by
  cases x with
  | none => rfl
  | some x => exact h x
/-! ### trees side by side -/
abbrev DAF (X : Cx) (W : WX) (Γ : List Sl) (es : List Expr) {α : Type} (emb : α → List T) (m : R α) : Prop :=
  JQ X Γ (wA X es) fun F M0 M H σ Q => Po m (fun x => ∀ vs M' H' as, Gr M H M' H' → Owns X.G M' H' (emb x) vs as → as.Nodup → (∀ a ∈ as, H a = none ∧ M' a = none) → Q vs H') (fun c => ∀ M' H', Gr M H M' H' → Er X.G W c σ H')
theorem daf_nil : DAF X W Γ [] (fun _ : Unit => []) (.ok ()) := amk ⟨_, pa_nil, fun F M0 M H σ Q s po => po [] M H [] (.refl s.mh) ⟨rfl, rfl⟩ List.nodup_nil fun _ z => nomatch z⟩
theorem daf_cons {ec : α → T} {es' : β → List T} {m : R α} {n : R β} (h : DF X W Γ e ec m) (k : DAF X W Γ es es' n) (hs : starEach (e :: es) X.env = (false, eval e X.env) :: starEach es X.env := by exact star_cons rfl) :
    DAF X W Γ (e :: es) (fun p : α × β => ec p.1 :: es' p.2) (m >>= fun x => n >>= fun y => .ok (x, y)) :=
  amk ⟨_, pa_cons (pe_w X e) (pa_w X es) hs, fun F M0 M H σ Q s po => h F M0 M H σ _ s (po.bind.imp (fun x _ q v M1 H1 a1 g o nd fr => k F M0 M1 H1 σ _ (s.grow g) (q.bind.imp (fun y _ z vs M2 H2 as g2 r2 nd2 fr2 => by
    have th : ∀ b ∈ a1, H1 b ≠ none := Own.there _ _ _ o
    refine z _ M2 H2 (a1 ++ as) (g.trans g2) ⟨v, vs, a1, as, rfl, rfl, Own.keep g2.mm _ _ _ (fun b _ o e => g2.hh b o e) o, r2⟩ ?_ fun b hb => ?_
    · rw [List.nodup_append]
      refine ⟨nd, nd2, fun y hy y' hy' e => ?_⟩
      subst e
      exact th y hy (fr2 y hy').1
    · rcases List.mem_append.mp hb with q | q
      · exact ⟨(fr b q).1, gr_keepNone g2 (fr b q).2 (th b q)⟩
      · exact ⟨g.hh.free (fr2 b q).1, (fr2 b q).2⟩) fun c z M2 H2 g2 => z M2 H2 (g.trans g2))) fun _ z => z)⟩
theorem S.conss {G : Ctx} {F M0 M H M' H' : Hp} {σ : St} {Γ : List Sl} {ts : List T} {vs : List V} {n : List Addr} (s : S G F M0 M H σ Γ) (g : Gr M H M' H') (o : Owns G M' H' ts vs n) (nd : n.Nodup) (fr : ∀ a ∈ n, H a = none ∧ M' a = none) : S G F M0 M' H' (vs.map some ++ σ) (ts.map .ow ++ Γ) := by
  obtain ⟨as, f, sa⟩ := s
  have th := Sat.there Γ σ as sa
  have sa' := Sat.keep g.mm Γ σ as (fun a _ o e => g.hh a o e) sa
  refine ⟨n ++ as, ?_, Sat.join o sa'⟩
  exact (f.grow th g).add (l := []) (by simp) nd (fun a ha => f.fh.free (fr a ha).1) (fun a ha => (fr a ha).2) fun a ha z => th a z (fr a ha).1
/-- [e, ..] of trees -/
theorem df_dispT {ec : β → T} {args : α → List T} {m : R α} (h : DAF X W Γ es args m) (g : α → List β) (he : ∀ x, args x = (g x).map ec := by intro _; rfl) (hz : ∀ x, Nat.ble (args x).length 100000 = true := by intro _; rfl) : DF X W Γ (.List es pos) (fun xs => .lst (xs.map ec)) (m >>= fun x => .ok (g x)) :=
  dmk ⟨_, pe_lst (pa_w X es), fun F M0 M H σ Q s po => h F M0 M H σ _ s (po.bind.imp (fun x _ k vs M1 H1 as g1 o nd fr => by
    have th : ∀ b ∈ as, H1 b ≠ none := Owns.there _ _ _ o
    refine ⟨by rw [o.len]; exact small_len (Nat.le_of_ble_eq_true (hz x)), fun p hp => ?_⟩
    have mp : M1 p = none := by
      cases e : M1 p with
      | none => rfl
      | some u => rw [g1.mh p u e] at hp; cases hp
    have hpa : ∀ b ∈ as, b ≠ p := fun b hb z => th b hb (by rw [z]; exact hp)
    have k : WF X.G M H (.lst ((g x).map ec)) Q := k
    rw [← he] at k
    refine k (.ref p) M1 _ (p :: as) (g1.trans (gr_list (.refl g1.mh) hp mp)) ⟨p, vs, as, rfl, rfl, upd_same, Owns.keep (.refl _) _ _ _ (fun b hb o e => by rw [upd_ne (hpa b hb)]; exact e) o⟩ ?_ fun b hb => ?_
    · rw [List.nodup_cons]
      exact ⟨fun z => hpa p z rfl, nd⟩
    · rcases List.mem_cons.mp hb with z | z
      · rw [z]; exact ⟨g1.hh.free hp, mp⟩
      · exact fr b z) fun _ z => z)⟩
/-- x, y = e, f -/
theorem st_par2 {x y : Str} {px py pt : Pos} {kt k2 pt2} {e1 : α → T} {e2 : β → T} {m : R α} {n : R β} (i j : Nat) (hij : i ≠ j) (hc : X.calm = true) (hN : X.N.Nodup) (ha : DF X W Γ a e1 m) (hb : DF X W Γ b e2 n) (hwk : Wk Γe Γ) (hl : Nat.blt i Γ.length = true := by rfl) (hl2 : Nat.blt j Γ.length = true := by rfl) (hi : X.N[i]? = some x := by rfl) (hj : X.N[j]? = some y := by rfl)
    (hx : X.env.scope.names.lookup x = some .local := by rfl) (hy : X.env.scope.names.lookup y = some .local := by rfl)
    (hw : swappedStores [.Tuple [.Name x px, .Name y py] kt pt] (.Tuple [a, b] k2 pt2) X.env = pure (some [x, y]) := by rfl)
    (hs : swapsWithSole [.Tuple [.Name x px, .Name y py] kt pt] (.Tuple [a, b] k2 pt2) pos.line X.env = pure false := by rfl) (h1 : starEach [a, b] X.env = (false, eval a X.env) :: starEach [b] X.env := by exact star_cons rfl) (h2 : starEach [b] X.env = (false, eval b X.env) :: starEach [] X.env := by exact star_cons rfl) :
    St1 X W Γe Γ (.Assign [.Tuple [.Name x px, .Name y py] kt pt] (.Tuple [a, b] k2 pt2) pos) (fun r : α × β => .n ((Γ.set i (.ow (e1 r.1))).set j (.ow (e2 r.2)))) (m >>= fun p => n >>= fun q => .ok (p, q)) :=
  smk ⟨_, ps_par hc hN hi hj hij hx hy (pa_w X [a, b]) hw hs, fun F M0 M H σ D s po => by
    have hA := daf_cons ha (daf_cons hb daf_nil (hs := h2)) (hs := h1)
    refine hA F M0 M H σ _ s ?_
    cases m with
    | bad => exact po
    | err c => exact fun M' H' g => er_wk s hwk po M' H' g
    | ok p =>
      cases n with
      | bad => exact po
      | err c => exact fun M' H' g => er_wk s hwk po M' H' g
      | ok q =>
        intro vs M1 H1 as g1 o nd fr
        have s1 := s.conss g1 o nd fr
        obtain ⟨v, r, a1, a2, rfl, _, _, ⟨w, r2, b1, b2, rfl, _, _, h3⟩⟩ := o
        obtain ⟨rfl, _⟩ := h3
        refine ⟨v, w, rfl, ?_⟩
        have s2 := S.pop (i := i + 1) s1 (by show i + 1 < _ + 1; exact Nat.succ_lt_succ (Nat.le_of_ble_eq_true hl))
        have s3 := S.pop (i := j) s2 (by rw [List.length_set]; exact Nat.le_of_ble_eq_true hl2)
        exact Kn.nx po _ rfl M1 H1 _ s3⟩
theorem st_par3 {x y z : Str} {px py pz pt : Pos} {kt k2 pt2} {e1 : α → T} {e2 : β → T} {e3 : γ → T} {m : R α} {n : R β} {o : R γ} (i j l : Nat) (hij : i ≠ j) (hil : i ≠ l) (hjl : j ≠ l) (hc : X.calm = true) (hN : X.N.Nodup) (ha : DF X W Γ a e1 m) (hb : DF X W Γ b e2 n) (hd : DF X W Γ c2 e3 o) (hwk : Wk Γe Γ) (hl : Nat.blt i Γ.length = true := by rfl) (hl2 : Nat.blt j Γ.length = true := by rfl) (hl3 : Nat.blt l Γ.length = true := by rfl) (hi : X.N[i]? = some x := by rfl) (hj : X.N[j]? = some y := by rfl) (hk : X.N[l]? = some z := by rfl)
    (hx : X.env.scope.names.lookup x = some .local := by rfl) (hy : X.env.scope.names.lookup y = some .local := by rfl) (hz : X.env.scope.names.lookup z = some .local := by rfl)
    (hw : swappedStores [.Tuple [.Name x px, .Name y py, .Name z pz] kt pt] (.Tuple [a, b, c2] k2 pt2) X.env = pure (some [x, y, z]) := by rfl)
    (hs : swapsWithSole [.Tuple [.Name x px, .Name y py, .Name z pz] kt pt] (.Tuple [a, b, c2] k2 pt2) pos.line X.env = pure false := by rfl) (h0 : starEach [a, b, c2] X.env = (false, eval a X.env) :: starEach [b, c2] X.env := by exact star_cons rfl) (h1 : starEach [b, c2] X.env = (false, eval b X.env) :: starEach [c2] X.env := by exact star_cons rfl) (h2 : starEach [c2] X.env = (false, eval c2 X.env) :: starEach [] X.env := by exact star_cons rfl) :
    St1 X W Γe Γ (.Assign [.Tuple [.Name x px, .Name y py, .Name z pz] kt pt] (.Tuple [a, b, c2] k2 pt2) pos) (fun r : α × β × γ => .n (((Γ.set i (.ow (e1 r.1))).set j (.ow (e2 r.2.1))).set l (.ow (e3 r.2.2)))) (m >>= fun p => n >>= fun q => o >>= fun r => .ok (p, q, r)) :=
  smk ⟨_, ps_par3 hc hN hi hj hk hij hil hjl hx hy hz (pa_w X [a, b, c2]) hw hs, fun F M0 M H σ D s po => by
    have hA := daf_cons ha (daf_cons hb (daf_cons hd daf_nil (hs := h2)) (hs := h1)) (hs := h0)
    refine hA F M0 M H σ _ s ?_
    cases m with
    | bad => exact po
    | err c => exact fun M' H' g => er_wk s hwk po M' H' g
    | ok p =>
      cases n with
      | bad => exact po
      | err c => exact fun M' H' g => er_wk s hwk po M' H' g
      | ok q =>
        cases o with
        | bad => exact po
        | err c => exact fun M' H' g => er_wk s hwk po M' H' g
        | ok r' =>
          intro vs M1 H1 as g1 o nd fr
          have s1 := s.conss g1 o nd fr
          obtain ⟨v, r, a1, a2, rfl, _, _, ⟨w, r2, b1, b2, rfl, _, _, ⟨u, r3, c1, c2, rfl, _, _, h3⟩⟩⟩ := o
          obtain ⟨rfl, _⟩ := h3
          refine ⟨v, w, u, rfl, ?_⟩
          have s2 := S.pop (i := i + 2) s1 (by show i + 2 < _ + 2; exact Nat.succ_lt_succ (Nat.succ_lt_succ (Nat.le_of_ble_eq_true hl)))
          have s3 := S.pop (i := j + 1) s2 (by show j + 1 < _ + 1; rw [List.length_set]; exact Nat.succ_lt_succ (Nat.le_of_ble_eq_true hl2))
          have s4 := S.pop (i := l) s3 (by rw [List.length_set, List.length_set]; exact Nat.le_of_ble_eq_true hl3)
          exact Kn.nx po _ rfl M1 H1 _ s4⟩
/-! ### targets, for trees -/
/-- v is stored; what it owned goes along; vs: what stands ahead of the slots besides -/
def DGX (X : Cx) (Γ : List Sl) (tg : Expr) (put : List Sl) (t : T) : Prop := ∃ g, PG X tg g ∧ ∀ F M0 M H (σ : St) (v : V) (vs : List V) (ts : List T) Q, vs.length = ts.length → S X.G F M0 M H (some v :: (vs.map some ++ σ)) (.ow t :: (ts.map .ow ++ Γ)) → (∀ M' H' σ', S X.G F M0 M' H' (vs.map some ++ σ') (ts.map .ow ++ put) → Q σ' H') → g v σ H Q
theorem dgx_name {n : Str} {t : T} (i : Nat) (hN : X.N.Nodup) (hi : X.N[i]? = some n := by rfl) (hl : Nat.blt i Γ.length = true := by rfl) (hx : Loc X.env.scope n := by first | exact Or.inl rfl | exact Or.inr rfl) (hf : X.fn n = true ∨ X.env.scope.names.lookup n = some .local := by first | exact .inl rfl | exact .inr rfl) :
    DGX X Γ (.Name n pos) (Γ.set i (.ow t)) t := ⟨_, pg_name hN hi hx hf, fun F M0 M H σ v vs ts Q hlen s q => q M H _ (by
    have hi := Nat.le_of_ble_eq_true hl
    have s2 := S.pop (i := ts.length + i) s (by rw [List.length_append, List.length_map]; omega)
    rw [List.set_append_right _ _ (by rw [List.length_map]; omega), List.set_append_right _ _ (by rw [List.length_map]; omega), List.length_map, List.length_map, hlen, Nat.add_sub_cancel_left] at s2
    exact s2)⟩
theorem pg_fld {o : Expr} {f : Str} {ta : TE} (ha : PE X o ta) : PG X (.Attribute o f pos) (fun v σ H Q => ta σ H fun x H2 => ∃ a C dx fs, x = .ref a ∧ H2 a = some (.ins C dx fs) ∧ Cls X.K C ∧ NoAttr X.K C f ∧ fs.length < 1000 ∧ Q σ (upd H2 a (.ins C dx (putF f v fs)))) := by
  refine ⟨fun pins s σ H v u Q I ry h => ?_⟩
  rw [assign_Attribute]
  have h2 := ha.run pins s σ H _ I h
  have key : wpAny (model X.prog X.w) X.A (eval o X.env) (fun ov s2 => wpAny (model X.prog X.w) X.A (setAttr ov f u) (fun _ s' => ∃ σ' H', Inv X pins σ' H' s' ∧ Q σ' H') X.xe s2) X.xe s := thn h2 fun ov s2 ⟨x, H2, I2, rx, a, C, dx, fs, ex, ea, c, n, l, q2⟩ => by
    subst ex
    obtain rfl : ov = Value.ref a := rx
    exact setattr_ok I2 ea c n l ry fun s3 I3 => ⟨σ, _, I3, q2⟩
  intro Γ p hΓ
  simp only [Sem.wp_bind', Sem.wp_holding, Sem.wp_cmd_standAt, Sem.wp_release, Sem.wp_pure']
  exact Sem.wp_mono _ Γ _ (fun ov _ s₂ h₂ => h₂ Γ _ hΓ) (fun _ _ _ h' => h') _ _ (key Γ p hΓ)
/-- the core of a field's store -/
theorem S.setFld {G : Ctx} {F M0 M1 H1 M2 H2 : Hp} {σ : St} {Γ : List Sl} {K : PySem.W.Frag} {i j : Nat} {x : Sl} {ea : α → T} {x0 : α} {path : List Nat} {n f : Str} {fs : List Str} {ts : List T} {t u' ta : T} {v v0 w : V} {C : Addr} (sF : S G F M0 M1 H1 (some v :: σ) (.ow t :: Γ)) (g2 : Gr M1 H1 M2 H2) (hx : Γ[i]? = some x) (ht : x.tree = some ta) (hget : T.get path ta = some (.obj n fs ts)) (hv : σ[i]? = some (some v0)) (hw2 : At H2 path v0 w) (hg : G.mg n = some (.ref C)) (hj : fs.findIdx? (f == ·) = some j) (hjl : j < ts.length) :
    ∃ ad dx kvs, w = .ref ad ∧ H2 ad = some (.ins C dx kvs) ∧ kvs.length = fs.length ∧ S G F M0 M2 (upd H2 ad (.ins C dx (putF f v kvs))) σ (Γ.set i (x.put (T.set path ta (.obj n fs (ts.set j t))))) := by
  obtain ⟨Hm, n', sm, gm, om, ndm, frm⟩ := (sF.grow g2).back
  obtain ⟨v', w', aa, y1, y2, y3⟩ := sm.at hx ht hget
  rw [hv] at y1
  cases y1
  cases At.det hw2 (At.same gm.hh y2)
  obtain ⟨a, o1, nd, ma, kk⟩ := sm.root hx ht hget hv y2
  obtain ⟨ad, c0, dx, kvs, r, rfl, ea', q3, h1, q5, q6⟩ := id o1
  rw [hg] at q3
  cases q3
  have hkl : kvs.length = fs.length := by rw [← q5, List.length_map]
  have hjk : (kvs.map (·.1)).findIdx? (f == ·) = some j := by rw [q5]; exact hj
  obtain ⟨k1, k2⟩ := putF_at (v := v) hjk
  have nd' := nd
  rw [ea', List.nodup_cons] at nd'
  obtain ⟨r', o', nr, fr⟩ := Owns.repl (ad := ad) (o := .ins C dx (putF f v kvs)) q6 (List.getElem?_eq_getElem hjl) nd'.2 nd'.1 gm.hh (fun b hb => ma b (by rw [ea']; exact List.mem_cons_of_mem _ hb)) om ndm frm (by rw [h1]; exact fun z => nomatch z)
  exact ⟨ad, dx, kvs, rfl, gm.hh _ _ h1, hkl, kk ad r rfl ea' M2 H2 _ _ r' gm ⟨ad, C, dx, putF f v kvs, r', rfl, rfl, hg, upd_same, by rw [k1, q5], by rw [k2]; exact o'⟩ nr fr⟩
/-- self.f as a target; self in slot i -/
theorem dgx_fld {n f nm : Str} {C : Addr} {fs : List Str} {tl : List T} {t : T} {x : Sl} {pv : Pos} (i j : Nat) (hx : Γ[i]? = some x) (ht : x.tree = some (.obj n fs tl)) (cf : ClF X n C) (na : NoAttr X.K C f)
    (hj : fs.findIdx? (f == ·) = some j := by decide) (hg : Nat.blt j tl.length = true := by rfl) (hn : Nat.blt fs.length 1000 = true := by rfl) (hN : X.N[i]? = some nm := by rfl) (hv : Vis X.env.scope nm := by first | exact Or.inl rfl | exact Or.inr (Or.inl rfl) | exact Or.inr (Or.inr rfl))
    (hd : (nm == ("__debug__" : Str)) = false := by decide) (hcd : (nm == ("__classdict__" : Str)) = false := by decide) : DGX X Γ (.Attribute (.Name nm pv) f pos) (Γ.set i (x.put (.obj n fs (tl.set j t)))) t :=
  ⟨_, pg_fld (pe_var hN hv hd hcd), fun F M0 M H σ v vs ts Q hlen s q => by
    have hx' : (ts.map Sl.ow ++ Γ)[ts.length + i]? = some x := by rw [List.getElem?_append_right (by rw [List.length_map]; omega), List.length_map, Nat.add_sub_cancel_left]; exact hx
    obtain ⟨v0, w, a, h1, h2, h3⟩ := s.front.at (p := []) hx' ht rfl
    obtain ⟨ad, dx, kvs, e1, e2, e3, s2⟩ := S.setFld (K := X.K) (ea := fun t : T => t) (x0 := t) (u' := t) s (.refl s.mh) hx' ht rfl h1 h2 cf.g hj (Nat.le_of_ble_eq_true hg)
    cases h2
    rw [List.getElem?_append_right (by rw [List.length_map]; omega), List.length_map, hlen, Nat.add_sub_cancel_left] at h1
    rw [List.set_append_right _ _ (by rw [List.length_map]; omega), List.length_map, Nat.add_sub_cancel_left] at s2
    exact ⟨_, h1, ad, C, dx, kvs, e1, e2, cf.c, na, by rw [e3]; exact Nat.le_of_ble_eq_true hn, q M _ σ s2⟩⟩
def DGXs (X : Cx) (Γ : List Sl) (tgs : List Expr) (put : List Sl) (ts : List T) : Prop := ∃ g, PGs X tgs g ∧ ∀ F M0 M H (σ : St) (vs : List V) Q, vs.length = ts.length → S X.G F M0 M H (vs.map some ++ σ) (ts.map .ow ++ Γ) → (∀ M' H' σ', S X.G F M0 M' H' σ' put → Q σ' H') → g vs σ H Q
theorem dgxs_nil : DGXs X Γ [] Γ [] := ⟨_, pgs_nil, fun F M0 M H σ vs Q hl s q => by
  have e : vs = [] := List.length_eq_zero_iff.mp hl
  subst e
  exact ⟨rfl, q M H σ s⟩⟩
theorem dgxs_cons {tgs : List Expr} {Γ1 put : List Sl} {t : T} {ts : List T} (h : DGX X Γ tg Γ1 t) (k : DGXs X Γ1 tgs put ts) (hs : (assignEach (tg :: tgs) X.env).map (·.2) = assign tg X.env :: (assignEach tgs X.env).map (·.2) := by rfl) : DGXs X Γ (tg :: tgs) put (t :: ts) := by
  obtain ⟨g1, p1, q1⟩ := h
  obtain ⟨g2, p2, q2⟩ := k
  refine ⟨_, pgs_cons p1 p2 hs, fun F M0 M H σ vs Q hl s q => ?_⟩
  cases vs with
  | nil => cases hl
  | cons v vs =>
    have hl := Nat.succ.inj hl
    exact ⟨v, vs, rfl, q1 F M0 M H σ v vs ts _ hl s fun M1 H1 σ1 s1 => q2 F M0 M1 H1 σ1 vs Q hl s1 q⟩
/-- tg1, tg2 = e1, e2, trees; not as a swap of names -/
theorem st_tupX {tgs es : List Expr} {put : α → List Sl} {ets : α → List T} {m : R α} {k k2 : _} {pt pt2 : Pos} (hc : X.calm = true) (ha : DAF X W Γ es ets m) (hg : ∀ x, DGXs X Γ tgs (put x) (ets x)) (hw : Wk Γe Γ) (hn : ∀ x, (ets x).length = (assignEach tgs X.env).length := by intro _; rfl) (hz : ∀ x, Nat.ble (ets x).length 100000 = true := by intro _; rfl) (hst : (assignEach tgs X.env).findIdx? (·.1) = none := by rfl)
    (hs : swapsWithSole [.Tuple tgs k pt] (.Tuple es k2 pt2) pos.line X.env = pure false := by rfl) (hsw : swappedStores [.Tuple tgs k pt] (.Tuple es k2 pt2) X.env = pure none := by rfl)
    (h1 : (assignEach [.Tuple tgs k pt] X.env).map (·.2) = [assign (.Tuple tgs k pt) X.env] := by rfl) : St1 X W Γe Γ (.Assign [.Tuple tgs k pt] (.Tuple es k2 pt2) pos) (fun x => .n (put x)) m := by
  cases m with
  | bad => exact ⟨fun F M0 M H σ D st po => po.elim⟩
  | err c => exact smk ⟨_, ps_asg (pe_tup (pa_w X es)) (pg_w X (.Tuple tgs k pt)) hs hsw h1, fun F M0 M H σ D st po => ha F M0 M H σ _ st (show Po (R.err c) _ _ from fun M' H' g => er_wk st hw po M' H' g)⟩
  | ok x =>
    obtain ⟨g, pg, hgr⟩ := hg x
    refine smk ⟨_, ps_asg (pe_tup (pa_w X es)) (pg_tup hc pg rfl hst) hs hsw h1, fun F M0 M H σ D st po => ha F M0 M H σ _ st (show Po (R.ok x) _ _ from fun vs M1 H1 as g1 o nd fr => ?_)⟩
    have th : ∀ b ∈ as, H1 b ≠ none := Owns.there _ _ _ o
    refine ⟨by rw [o.len]; exact small_len (Nat.le_of_ble_eq_true (hz x)), fun p hp => ?_⟩
    have mp : M1 p = none := by
      cases e : M1 p with
      | none => rfl
      | some u => rw [g1.mh p u e] at hp; cases hp
    have gp : Gr M1 H1 M1 (upd H1 p (.tup vs)) := ⟨fun b u e => by rw [upd_ne (ne_of_none e hp)]; exact e, .refl _, fun b u e => by rw [upd_ne (ne_of_none e mp)]; exact g1.mh b u e, fun _ z => .inl z⟩
    have s2 := (st.conss g1 o nd fr).grow gp
    exact ⟨p, vs, rfl, .inl (.inl upd_same), by rw [o.len, hn], hgr F M0 M1 _ σ vs _ o.len s2 fun M2 H2 σ2 s3 => Kn.nx po _ rfl M2 H2 σ2 s3⟩
/-! ### stores in place -/
theorem get_listL {X : Cx} : PGet X (rIxL X.K) := by
  intro pins s σ H o i ov iv Q I ro ri h
  obtain ⟨p, xs, i, z, rfl, rfl, hq, he, q⟩ := h
  cases ro
  obtain ⟨t, rfl⟩ := ri
  obtain ⟨its, r, pl, hz⟩ := I.list hq
  obtain ⟨j, h1, h2, h3, h4, h5⟩ := atI_get he
  obtain ⟨w, ew, rw'⟩ := r.get h2
  have hl := r.length
  have hn := line63
  have fin : EP X pins σ Q w s := ⟨z, H, I, rw', q⟩
  by_cases h0 : 0 ≤ i
  · have hj : i.toNat = j := by
      rw [seqIndex_of h0 h5] at h1
      exact Option.some.inj h1
    exact wpAny_getItem_list pl.isList h0 (by omega) (by rw [hj]; simpa using ew) fin
  · have hj : (i + (its.toArray.size : Int)).toNat = j := by
      rw [seqIndex_neg (by omega) h4] at h1
      rw [List.size_toArray, ← hl]
      exact Option.some.inj h1
    exact wpAny_getItem_list_neg pl.isList (by omega) (by rw [List.size_toArray] <;> omega) (by omega) (by rw [hj]; simpa using ew) fin
/-- tgt[b] op= e, ints -/
theorem st_augix {i : Nat} {ea : α → T} {x0 : α} {path : κ → List Nat} {m : R κ} {x : Sl} {val : κ → List Int} {put : κ → List Int → α} {mi me : R Int} {op : Operator} {f : Int → Int → Option Int} {tpos : Pos} (hf : AugI X op f) (hp : DP X W Γ tg i ea x0 path (fun xs => .lst (xs.map fun y => .imm (.int y))) val put m) (hx : Γ[i]? = some x) (ht : x.tree = some (ea x0)) (hi : DD X W Γ b D.int mi) (he : DD X W Γ e D.int me) (hw : Wk Γe Γ)
    (ha : ∀ ov iv new, augStore b ov iv new = (do holding [new, ov, iv] (setItem ov iv new); release [new, ov, iv] []; pure .next) := by intros; rfl) :
    St1 X W Γe Γ (.AugAssign (.Subscript tg b tpos) op e pos) (fun y => .n (Γ.set i (x.put (ea y)))) (m >>= fun k => mi >>= fun j => ofO (atI (val k) j) >>= fun y => me >>= fun z => ofO (f y z) >>= fun y' => ofO (setO (val k) j y') >>= fun ys => .ok (put k ys)) := by
  obtain ⟨ti, hti, htr⟩ := hf
  refine smk ⟨_, ps_augS (pe_w X tg) (pe_w X b) get_listL (pe_w X e) hti set_list ha, fun F M0 M H σ D st po => ?_⟩
  refine hp.run F M0 M H σ _ st (po.bind.and.imp (fun k _ ⟨em, q⟩ v w M1 H1 g1 hv hat => ?_) fun c z => er_wk st hw z)
  have st1 := st.grow g1
  refine hi F M0 M1 H1 σ _ st1 (q.bind.imp (fun j _ q vj M2 H2 g2 r2 => ?_) fun c z => er_wk st1 hw z)
  have st2 := st1.grow g2
  have hat2 := At.same g2.hh hat
  have q := q.bind
  obtain ⟨y, ey, q⟩ := q.ofO
  obtain ⟨v', w', a, e1, e2, o1⟩ := st2.at hx ht (hp.get k em)
  rw [hv] at e1
  cases e1
  cases At.det hat2 e2
  obtain ⟨ad, vs, r, rfl, ea', h1, h2⟩ := o1
  rw [map_imm] at h2
  obtain ⟨h3, er⟩ := Owns.of_imm h2
  have evs : vs = (val k).map V.int := reps_ints h3
  subst evs
  rw [show vj = .int j from r2]
  refine ⟨ad, _, j, .int y, rfl, rfl, .of h1, by rw [ixN_map, ey]; rfl, ?_⟩
  refine he F M0 M2 H2 σ _ st2 (q.bind.imp (fun z _ q vz M3 H3 g3 r3 => ?_) fun c z => er_wk st2 hw z)
  rw [show vz = .int z from r3]
  have q := q.bind
  obtain ⟨y', ey', q⟩ := q.ofO
  refine htr y z y' H3 _ ey' ?_
  have q := q.bind
  obtain ⟨ys, eys, q⟩ := q.ofO
  have st3 := st2.grow g3
  obtain ⟨a, o1, nd, ma, kk⟩ := st3.root hx ht (hp.get k em) hv (At.same g3.hh hat2)
  obtain ⟨ad', vs', r', ead, ea3, h1', h2'⟩ := id o1
  cases ead
  have h1'' := g3.hh _ _ h1
  rw [h1'] at h1''
  cases h1''
  rw [map_imm] at h2'
  obtain ⟨h3', er'⟩ := Owns.of_imm h2'
  subst er'
  unfold setO at eys
  cases hq : ixN (val k).length j with
  | none => rw [hq] at eys; cases eys
  | some l =>
    rw [hq] at eys
    cases eys
    refine ⟨ad, _, j, l, rfl, rfl, h1', by rw [List.length_map]; exact hq, ?_⟩
    refine Kn.nx q _ rfl M3 _ σ ?_
    rw [← hp.set k _ em]
    refine kk ad [] rfl ea3 M3 H3 _ _ [] (.refl st3.mh) ⟨ad, _, [], rfl, rfl, upd_same, ?_⟩ List.nodup_nil fun _ z => nomatch z
    rw [map_imm, ← List.map_set]
    refine Owns.imm ?_
    have := ints_reps (G := X.G) (M := M3) ((val k).set l y')
    exact this
/-- tgt.f op= e, an int -/
theorem st_fldaug {i : Nat} {ea : α → T} {x0 : α} {path : κ → List Nat} {m : R κ} {x : Sl} {eb : β → T} {val : κ → β} {put : κ → β → α} {me : R Int} {op : Operator} {r0 : R2} {f : Int → Int → Option Int} {tpos : Pos} {n fl : Str} {C : Addr} {fs : List Str} {ts : β → List T} (j : Nat) (g : β → Int) (st : β → Int → β) (ho : OpR X (inplaceOp op) r0) (hf : ∀ x y z H Q, f x y = some z → Q (.int z) H → r0 (.int x) (.int y) H Q) (hp : DP X W Γ tg i ea x0 path eb val put m) (hx : Γ[i]? = some x) (ht : x.tree = some (ea x0)) (he : DD X W Γ e D.int me) (cf : ClF X n C) (na : NoAttr X.K C fl) (hw : Wk Γe Γ)
    (hb : ∀ y, eb y = .obj n fs (ts y) := by intro _; rfl) (hj : fs.findIdx? (fl == ·) = some j := by decide) (hg : ∀ y, (ts y)[j]? = some (.imm (.int (g y))) := by intro _; rfl) (hst : ∀ y z, T.obj n fs ((ts y).set j (.imm (.int z))) = eb (st y z) := by intro _ _; rfl) (hn : Nat.blt fs.length 1000 = true := by rfl) :
    St1 X W Γe Γ (.AugAssign (.Attribute tg fl tpos) op e pos) (fun y => .n (Γ.set i (x.put (ea y)))) (m >>= fun k => me >>= fun z => ofO (f (g (val k)) z) >>= fun y => .ok (put k (st (val k) y))) := by
  refine smk ⟨_, ps_fldaug (pe_w X tg) (pe_w X e) (fun pins s σ H x y v u Q I r1 r2 q => ho pins s σ H x y v u Q I r1 r2 q), fun F M0 M H σ D s po => ?_⟩
  refine hp.run F M0 M H σ _ s (po.bind.and.imp (fun k _ ⟨em, q⟩ v w M1 H1 g1 hv hat => ?_) fun c z => er_wk s hw z)
  have st1 := s.grow g1
  obtain ⟨v', w', a, e1, e2, o1⟩ := st1.at hx ht (hp.get k em)
  rw [hv] at e1
  cases e1
  cases At.det hat e2
  rw [hb] at o1
  obtain ⟨ad, c0, dx, kvs, r, rfl, ea', q3, h1, q5, q6⟩ := o1
  have z3 : X.mg n = some (.ref c0) := q3
  rw [cf.g] at z3
  cases z3
  have hjk : (kvs.map (·.1)).findIdx? (fl == ·) = some j := by rw [q5]; exact hj
  obtain ⟨u, z1, z2⟩ := lookup_ix hjk
  obtain ⟨w0, a0, y1, y2, _⟩ := Owns.get q6 (hg (val k))
  rw [z1] at y1
  cases y1
  refine ⟨ad, C, dx, kvs, u, rfl, h1, cf.c, na, z2, he F M0 M1 H1 σ _ st1 (q.bind.imp (fun z _ q vz M2 H2 g2 r2 => ?_) fun c z => er_wk st1 hw z)⟩
  rw [show vz = .int z from r2, show u = .int (g (val k)) from y2.2]
  have q := q.bind
  obtain ⟨y, ey, q⟩ := q.ofO
  refine hf _ z y H2 _ ey ?_
  have h2 := g2.hh _ _ h1
  have hkl : kvs.length = fs.length := by rw [← q5, List.length_map]
  refine ⟨dx, kvs, h2, by rw [hkl]; exact Nat.le_of_ble_eq_true hn, ?_⟩
  refine Kn.nx q _ rfl M2 _ σ ?_
  have st2 := st1.grow g2
  have sF := st2.consD (d := .int y) (v := .int y) rfl
  have hjl : j < (ts (val k)).length := (List.getElem?_eq_some_iff.mp (hg (val k))).1
  obtain ⟨ad', dx', kvs', e1, e2', e3, s2⟩ := S.setFld (K := X.K) (ea := ea) (x0 := x0) (u' := .imm (.int y)) sF (.refl st2.mh) hx ht (by rw [hp.get k em, hb]) hv (At.same g2.hh hat) cf.g hj hjl
  cases e1
  rw [h2] at e2'
  cases e2'
  rw [← hp.set k _ em, ← hst]
  exact s2
theorem iop_i {f : Int → Int → Int} : ∀ x y z (H : Hp) (Q : VK), (fun a b => some (f a b)) x y = some z → Q (.int z) H → (rI0 fun i j => .int (f i j)) (.int x) (.int y) H Q := fun x y z H Q e q => ⟨x, y, rfl, rfl, by cases e; exact q⟩
end
/-! ### a def that changes and raises nothing -/
section
variable {P : Program} {w : World} {K : PySem.W.Frag} {mg : Str → Option Value} {base : Heap}
theorem fn_genN {x qual : Str} {st : Stmt} {f : Addr} {fd : FuncData} {N ps : List Str} {k : Nat} {α ρ : Type} {args : α → List Ar} {er : ρ → T} {post : ρ → List T} {g : α → R ρ} (κ : α → List V → ρ → Kd) (F : Fun K x qual st f fd) (Sc : FnScope N ps (defScope st))
    (hl : ∀ a, (args a).length = ps.length)
    (hb : ∀ (cdv : Value) (A : Around) (outer : List Env) (s : Shared) (H : Hp) (E : XK), Room k (A.deeper (PyProof.Rows.envOfC qual (defScope st) s.heap.objs.size f cdv)) → ∀ a (vs : List V), vs.length = ps.length →
      Bk (cxOf (L2.CX P w) P w K mg base N qual (defScope st) f cdv A outer s H E) (fun cls d _ H => E cls d H) (List.replicate N.length .un) (slotsG (args a) vs ++ List.replicate (N.length - ps.length) .un) (defBody st) (κ a vs) (g a))
    (hκ : ∀ a vs r, ((κ a vs r).nx = none ∨ ((κ a vs r).nx = some (slotsR (args a) vs (post r) ++ List.replicate (N.length - ps.length) .un) ∧ er r = .imm .non)) ∧ ((κ a vs r).rt = none ∨ (κ a vs r).rt = some (er r, slotsR (args a) vs (post r) ++ List.replicate (N.length - ps.length) .un)) ∧ (κ a vs r).bk = none ∧ (κ a vs r).ct = none) :
    FnOk P w K mg base (L2.CX P w) (k + 1) f fd ps (SpG ⟨K, mg⟩ args er post fun a => noErr (g a)) :=
  fn_gen κ F Sc hl (fun cdv A outer s H E hr a vs hv => bk_calm (hb cdv A outer s H E hr a vs hv)) hκ
end
end Cn
/-! CnI: one's own or None; zip, enumerate, reversed; list(range(..)) -/
namespace Cn
open PySem PySem.Spec L2
section
variable {X : Cx} {W : WX} {Γe Γe' Γ : List Sl} {a b c2 e c tg : Expr} {es : List Expr} {α β γ κ ω ω1 ρ ξ ζ : Type} {pos : Pos} {s : Stmt} {rest ss A B : List Stmt}
/-! ### None or not -/
def optK {α ω : Type} (o : Option α) (n : ω) (s : α → ω) : ω := match o with
  | none => n
  | some y => s y
theorem optK_none {α ω : Type} (n : ω) (s : α → ω) : optK none n s = n := rfl
theorem optK_some {α ω : Type} (y : α) (n : ω) (s : α → ω) : optK (some y) n s = s y := rfl
/-- a tree is never None -/
def NotN (G : Ctx) {α : Type} (emb : α → T) : Prop := ∀ x v M H as, Own G M H (emb x) v as → v ≠ .non
theorem notN_lst {G : Ctx} {ec : β → T} : NotN G fun xs : List β => .lst (xs.map ec) := fun x v M H as ⟨a, vs, r, h, _⟩ => by rw [h]; exact fun z => nomatch z
theorem notN_obj {G : Ctx} {n : Str} {fs : List Str} {eb : β → T} {ts : β → List T} (hb : ∀ y, eb y = .obj n fs (ts y) := by intro _; rfl) : NotN G eb := fun x v M H as o => by
  rw [hb] at o
  obtain ⟨a, c, dx, kvs, r, h, _⟩ := o
  rw [h]; exact fun z => nomatch z
theorem notN_tup {G : Ctx} {eb : β → D} {ds : β → List D} (hb : ∀ y, eb y = .tup (ds y) := by intro _; rfl) : NotN G fun x => .imm (eb x) := fun x v M H as o => by
  have o := o.2
  rw [hb] at o
  obtain ⟨a, vs, h, _⟩ := o
  rw [h]; exact fun z => nomatch z
theorem notN_dlst {G : Ctx} {eb : β → D} {ds : β → List D} (hb : ∀ y, eb y = .lst (ds y) := by intro _; rfl) : NotN G fun x => .imm (eb x) := fun x v M H as o => by
  have o := o.2
  rw [hb] at o
  obtain ⟨a, vs, h, _⟩ := o
  rw [h]; exact fun z => nomatch z
theorem notN_int {G : Ctx} : NotN G fun x : Int => .imm (.int x) := fun x v M H as o => by rw [show v = .int x from o.2]; exact fun z => nomatch z
theorem notN_str {G : Ctx} : NotN G fun x : Str => .imm (.str x) := fun x v M H as o => by rw [show v = .str x from o.2]; exact fun z => nomatch z
theorem own_optN {G : Ctx} {M H : Hp} {emb : α → T} {x : Option α} {v : V} {as : List Addr} (hn : NotN G emb) (o : Own G M H (eOptT emb x) v as) : decide (v = .non) = x.isNone := by
  cases x with
  | none => rw [show v = .non from o.2]; rfl
  | some y => rw [decide_eq_false (hn y v M H as o)]; rfl
theorem dd_isNT {emb : α → T} {m : R (Option α)} {j p} (hn : NotN X.G emb) (h : DB X W Γ e (eOptT emb) m) : DD X W Γ (.Compare e [.Is] [.Constant .none j p] pos) D.bl (m >>= fun x => .ok x.isNone) :=
  dmk ⟨_, pe_cmpR op_isN (pe_w X e) pe_non (nomark _), fun F M0 M H σ Q s po => h F M0 M H σ _ s (po.bind.imp (fun x _ k v M1 H1 as g1 o => ⟨rfl, k _ M1 H1 g1 (by rw [own_optN hn o]; rfl)⟩) fun _ z => z)⟩
theorem dd_notNT {emb : α → T} {m : R (Option α)} {j p} (hn : NotN X.G emb) (h : DB X W Γ e (eOptT emb) m) : DD X W Γ (.Compare e [.IsNot] [.Constant .none j p] pos) D.bl (m >>= fun x => .ok x.isSome) :=
  dmk ⟨_, pe_cmpR op_notN (pe_w X e) pe_non (nomark _), fun F M0 M H σ Q s po => h F M0 M H σ _ s (po.bind.imp (fun x _ k v M1 H1 as g1 o => ⟨rfl, k _ M1 H1 g1 (by rw [own_optN hn o]; cases x <;> rfl)⟩) fun _ z => z)⟩
theorem dt_isNT {emb : α → T} {m : R (Option α)} {j p} (hn : NotN X.G emb) (h : DB X W Γ e (eOptT emb) m) : DT X W Γ (.Compare e [.Is] [.Constant .none j p] pos) (m >>= fun x => .ok x.isNone) :=
  tmk ⟨_, pt_cmpR op_isN (pe_w X e) pe_non (nomark _), fun F M0 M H σ Q s po => h F M0 M H σ _ s (po.bind.imp (fun x _ k v M1 H1 as g1 o => ⟨rfl, x.isNone, by rw [own_optN hn o], k M1 H1 g1⟩) fun _ z => z)⟩
theorem dt_notNT {emb : α → T} {m : R (Option α)} {j p} (hn : NotN X.G emb) (h : DB X W Γ e (eOptT emb) m) : DT X W Γ (.Compare e [.IsNot] [.Constant .none j p] pos) (m >>= fun x => .ok x.isSome) :=
  tmk ⟨_, pt_cmpR op_notN (pe_w X e) pe_non (nomark _), fun F M0 M H σ Q s po => h F M0 M H σ _ s (po.bind.imp (fun x _ k v M1 H1 as g1 o => ⟨rfl, x.isSome, by rw [own_optN hn o]; cases x <;> rfl, k M1 H1 g1⟩) fun _ z => z)⟩
/-- data, or None, as a tree -/
theorem db_optD {ei : α → D} {m : R (Option α)} (h : DD X W Γ e (eOpt ei) m) : DB X W Γ e (eOptT fun x => .imm (ei x)) m := ⟨fun F M0 M H σ Q s po => h F M0 M H σ Q s (po.imp (fun x _ k v M' H' g r => k v M' H' [] g (by
  cases x with
  | none => exact ⟨rfl, r⟩
  | some y => exact ⟨rfl, r⟩)) fun _ z => z)⟩
/-- a slot, seen otherwise -/
theorem bk_seen {κ : ω → Kd} {m : R ω} {Γ1 : List Sl} (h : Bk X W Γe Γ1 ss κ m) (e : Γ = Γ1) : Bk X W Γe Γ ss κ m := by rw [e]; exact h
/-- if x is None: A, which leaves; else the rest, where x is known -/
theorem bk_ifNoneX {emb : α → T} {x : Option α} {sl : Sl} {n : Str} {p1 p2 p3 : Pos} {jc} {κ : ω → Kd} {mA : R ω} {mB : α → R ω} (i : Nat) (h : Γ[i]? = some sl) (hs : sl.look = some (eOptT emb x)) (hn : NotN X.G emb) (ha : Bk X W Γe Γ A (fun o => (κ o).ex) mA) (Γs : α → List Sl) (hb : ∀ y, Bk X W Γe (Γs y) rest κ (mB y)) (hΓ : ∀ y, x = some y → Γ = Γs y) (hw : Wk Γe Γ)
    (hN : X.N[i]? = some n := by rfl) (hv : Vis X.env.scope n := by first | exact Or.inl rfl | exact Or.inr (Or.inl rfl) | exact Or.inr (Or.inr rfl)) (hd : (n == ("__debug__" : Str)) = false := by decide) (hcd : (n == ("__classdict__" : Str)) = false := by decide) :
    Bk X W Γe Γ (.If (.Compare (.Name n p1) [.Is] [.Constant .none jc p2] p3) A [] pos :: rest) κ (optK x mA mB) := by
  have hc := dt_isNT (X := X) (W := W) (Γ := Γ) (pos := p3) (j := jc) (p := p2) hn (db_see (pos := p1) i h hs hN hv hd hcd)
  cases x with
  | none => exact bk_ifX (mc := .ok true) (ma := mA) (mb := .bad) hc ha ⟨fun F M0 M H σ D s po => po.elim⟩ hw
  | some y => exact bk_ifX (mc := .ok false) (ma := .bad) (mb := mB y) hc ⟨fun F M0 M H σ D s po => po.elim⟩ (bk_seen (hb y) (hΓ y rfl)) hw
/-- if x is not None: A else: B -/
theorem st_ifSome {emb : α → T} {x : Option α} {sl : Sl} {n : Str} {p1 p2 p3 : Pos} {jc} {κ : ω → Kd} {mA : α → R ω} {mB : R ω} (i : Nat) (h : Γ[i]? = some sl) (hs : sl.look = some (eOptT emb x)) (hn : NotN X.G emb) (Γs : α → List Sl) (ha : ∀ y, Bk X W Γe (Γs y) A κ (mA y)) (hΓ : ∀ y, x = some y → Γ = Γs y) (hb : Bk X W Γe Γ B κ mB) (hw : Wk Γe Γ)
    (hN : X.N[i]? = some n := by rfl) (hv : Vis X.env.scope n := by first | exact Or.inl rfl | exact Or.inr (Or.inl rfl) | exact Or.inr (Or.inr rfl)) (hd : (n == ("__debug__" : Str)) = false := by decide) (hcd : (n == ("__classdict__" : Str)) = false := by decide) :
    St1 X W Γe Γ (.If (.Compare (.Name n p1) [.IsNot] [.Constant .none jc p2] p3) A B pos) κ (optK x mB mA) := by
  have hc := dt_notNT (X := X) (W := W) (Γ := Γ) (pos := p3) (j := jc) (p := p2) hn (db_see (pos := p1) i h hs hN hv hd hcd)
  cases x with
  | none => exact st_if (mc := .ok false) (ma := .bad) (mb := mB) hc ⟨fun F M0 M H σ D s po => po.elim⟩ hb hw
  | some y => exact st_if (mc := .ok true) (ma := mA y) (mb := .bad) hc (bk_seen (ha y) (hΓ y rfl)) ⟨fun F M0 M H σ D s po => po.elim⟩ hw
theorem st_ifNone {emb : α → T} {x : Option α} {sl : Sl} {n : Str} {p1 p2 p3 : Pos} {jc} {κ : ω → Kd} {mA : R ω} {mB : α → R ω} (i : Nat) (h : Γ[i]? = some sl) (hs : sl.look = some (eOptT emb x)) (hn : NotN X.G emb) (ha : Bk X W Γe Γ A κ mA) (Γs : α → List Sl) (hb : ∀ y, Bk X W Γe (Γs y) B κ (mB y)) (hΓ : ∀ y, x = some y → Γ = Γs y) (hw : Wk Γe Γ)
    (hN : X.N[i]? = some n := by rfl) (hv : Vis X.env.scope n := by first | exact Or.inl rfl | exact Or.inr (Or.inl rfl) | exact Or.inr (Or.inr rfl)) (hd : (n == ("__debug__" : Str)) = false := by decide) (hcd : (n == ("__classdict__" : Str)) = false := by decide) :
    St1 X W Γe Γ (.If (.Compare (.Name n p1) [.Is] [.Constant .none jc p2] p3) A B pos) κ (optK x mA mB) := by
  have hc := dt_isNT (X := X) (W := W) (Γ := Γ) (pos := p3) (j := jc) (p := p2) hn (db_see (pos := p1) i h hs hN hv hd hcd)
  cases x with
  | none => exact st_if (mc := .ok true) (ma := mA) (mb := .bad) hc ha ⟨fun F M0 M H σ D s po => po.elim⟩ hw
  | some y => exact st_if (mc := .ok false) (ma := .bad) (mb := mB y) hc ⟨fun F M0 M H σ D s po => po.elim⟩ (bk_seen (hb y) (hΓ y rfl)) hw
/-! ### int(a bool) -/
theorem dd_intB {m : R Bool} {p : Pos} (h : DD X W Γ e D.bl m) (hm : X.mg "int" = none) (hg : Gl X "int" := by rfl) (hs : starEach [e] X.env = (false, eval e X.env) :: starEach [] X.env := by exact star_cons rfl) : DD X W Γ (.Call (.Name "int" p) [e] [] pos) D.int (m >>= fun b => .ok (if b then 1 else 0)) :=
  dmk ⟨_, pe_callTy call_int1 hg hm (by decide +kernel) (pa_cons (pe_w X e) pa_nil (hs := hs)) (he := hs), fun F M0 M H σ Q s po => h F M0 M H σ _ s (po.bind.imp (fun b _ k v M1 H1 g r => .inr ⟨b, by rw [show v = .bl b from r], k _ M1 H1 g rfl⟩) fun _ z => z)⟩
/-! ### list(range(..)) -/
noncomputable def rangeLO (lo hi : Int) : Option (List Int) := @ite _ (RgOk lo hi) (Classical.propDecidable _) (some (irange lo hi)) none
theorem rgV_irange {lo hi : Int} : rgV lo hi = (irange lo hi).map V.int := by unfold rgV irange; rw [List.map_map]; rfl
theorem df_listR1 {m : R Int} {p p2 pos2 : Pos} (hc : X.calm = true) (h : DD X W Γ a D.int m) (hm : X.mg "list" = none) (hr : X.mg "range" = none) (hg : Gl X "list" := by rfl) (hg2 : Gl X "range" := by rfl) (hs : starEach [a] X.env = (false, eval a X.env) :: starEach [] X.env := by exact star_cons rfl) (hs2 : starEach [.Call (.Name "range" p2) [a] [] pos2] X.env = (false, eval (.Call (.Name "range" p2) [a] [] pos2) X.env) :: starEach [] X.env := by exact star_cons rfl) :
    DF X W Γ (.Call (.Name "list" p) [.Call (.Name "range" p2) [a] [] pos2] [] pos) (fun xs => .lst (xs.map fun x => .imm (.int x))) (m >>= fun n => ofO (rangeLO 0 n)) :=
  dmk ⟨_, pe_listRg hc hg hm (prg_1 hg2 hr (pe_w X a) (na := hs)) (na := hs2), fun F M0 M H σ Q s po => h F M0 M H σ _ s (po.bind.imp (fun n _ k v M1 H1 g r => by
    obtain ⟨xs, e, k⟩ := k.ofO
    unfold rangeLO at e
    by_cases c : RgOk 0 n
    · rw [if_pos c] at e
      cases e
      refine ⟨n, r, c, ?_⟩
      rw [rgV_irange]
      refine new_list (G := X.G) g (ds := (irange 0 n).map D.int) (ints_reps _) ?_
      rw [← map_imm]
      exact k
    · rw [if_neg c] at e; cases e) fun _ z => z)⟩
/-! ### zip, enumerate, reversed -/
theorem new_pair {G : Ctx} {M1 M H : Hp} {T : Addr} {ds : List D} {vs : List V} (g : Same M H) (hT : H T = none) (r : Reps G M ds vs) : ∃ M', Gr M H M' (upd H T (.tup vs)) ∧ Rep G M' (.tup ds) (.ref T) := by
  have mT : M T = none := by
    cases e : M T with
    | none => rfl
    | some o => rw [g T o e] at hT; cases hT
  refine ⟨upd M T (.tup vs), ⟨fun b o e => by rw [upd_ne (ne_of_none e hT)]; exact e, fun b o e => by rw [upd_ne (ne_of_none e mT)]; exact e, fun b o e => ?_, fun b z => ?_⟩, T, vs, rfl, .inl (.inl upd_same), Reps.mono (fun b o e => by rw [upd_ne (ne_of_none e mT)]; exact e) _ _ r⟩
  · by_cases hb : b = T
    · subst hb; rw [upd_same] at e ⊢; exact e
    · rw [upd_ne hb] at e ⊢; exact g b o e
  · by_cases hb : b = T
    · subst hb; exact .inr hT
    · rw [upd_ne hb] at z; exact .inl z
def zipL {α β : Type} (xs : List α) (ys : List β) : List (α × β) := xs.zip ys
theorem di_zip {ei : α → D} {ej : β → D} {m : R (List α)} {n : R (List β)} {elts : List Expr} {kk : Nat} {p tpos : Pos} (ha : DD X W Γ a (fun xs => .lst (xs.map ei)) m) (hb : DD X W Γ b (fun xs => .lst (xs.map ej)) n) (hm : X.mg "zip" = none) (hg : Gl X "zip" := by rfl) (hs : starEach [a, b] X.env = (false, eval a X.env) :: starEach [b] X.env := by exact star_cons rfl) (hs2 : starEach [b] X.env = (false, eval b X.env) :: starEach [] X.env := by exact star_cons rfl) (hpl : (backTo pos (starEach [b] X.env)).any (·.1) = false := by exact star_none rfl) :
    DI X W Γ (.Tuple elts kk tpos) (.Call (.Name "zip" p) [a, b] [] pos) (fun zs => zs.map fun z : α × β => .tup [ei z.1, ej z.2]) (m >>= fun xs => n >>= fun ys => .ok (xs.zip ys)) :=
  imk ⟨_, pi_zip hg hm (pa_w X [a, b]) (hs := hs) (hpl := hpl), fun F M0 M H σ Q s po => by
    have hA := da_cons ha (da_cons hb da_nil (hs := hs2)) (hs := hs)
    refine hA F M0 M H σ _ s ?_
    cases m with
    | bad => exact po
    | err c => exact po
    | ok xs =>
      cases n with
      | bad => exact po
      | err c => exact po
      | ok ys =>
        intro vs M1 H1 g r
        obtain ⟨v, r', rfl, r1, w, r'', rfl, r2, r3⟩ := r
        rw [show r'' = [] from r3]
        obtain ⟨p1, v1, rfl, q1, rs1⟩ := r1
        obtain ⟨p2, v2, rfl, q2, rs2⟩ := r2
        refine ⟨p1, p2, v1, v2, rfl, .of (g.mh _ _ q1), .of (g.mh _ _ q2), po _ M1 H1 g fun M H i hm hh => ?_⟩
        have s1 : SqL X.K H p1 v1 := .of (hh _ _ (hm _ _ q1))
        have s2 : SqL X.K H p2 v2 := .of (hh _ _ (hm _ _ q2))
        refine ⟨fun d hd => ?_, fun hi => ⟨v1, v2, s1, s2, by
          rw [List.length_map, List.length_zip] at hi
          rw [rs1.len, rs2.len, List.length_map, List.length_map]
          show xs.length ≤ i ∨ ys.length ≤ i
          omega⟩⟩
        rw [List.getElem?_map] at hd
        cases ez : (xs.zip ys)[i]? with
        | none => rw [ez] at hd; cases hd
        | some z =>
          rw [ez] at hd
          cases hd
          rw [List.getElem?_zip_eq_some] at ez
          obtain ⟨u1, e1, k1⟩ := rs1.get (i := i) (d := ei z.1) (by rw [List.getElem?_map, ez.1]; rfl)
          obtain ⟨u2, e2, k2⟩ := rs2.get (i := i) (d := ej z.2) (by rw [List.getElem?_map, ez.2]; rfl)
          refine ⟨⟨v1, v2, u1, u2, s1, s2, e1, e2⟩, fun x H' y => ?_⟩
          obtain ⟨T, x1, x2, rfl, hT, rfl, f1, f2⟩ := y
          have f1 := f1 v1 s1
          have f2 := f2 v2 s2
          rw [e1] at f1
          rw [e2] at f2
          cases f1
          cases f2
          exact new_pair (M1 := M) hh hT ⟨u1, _, rfl, Rep.mono hm _ _ k1, u2, _, rfl, Rep.mono hm _ _ k2, rfl⟩⟩
def enumL {α : Type} (xs : List α) : List (Int × α) := (List.range xs.length).zip xs |>.map fun p => ((p.1 : Int), p.2)
theorem enumL_get {α : Type} {xs : List α} {i : Nat} {z : Int × α} (h : (enumL xs)[i]? = some z) : z.1 = i ∧ xs[i]? = some z.2 := by
  unfold enumL at h
  rw [List.getElem?_map] at h
  cases e : ((List.range xs.length).zip xs)[i]? with
  | none => rw [e] at h; cases h
  | some q =>
    rw [e] at h
    cases h
    rw [List.getElem?_zip_eq_some] at e
    have := List.getElem?_eq_some_iff.mp e.1
    obtain ⟨h1, h2⟩ := this
    rw [List.getElem_range] at h2
    exact ⟨by show ((q.1 : Nat) : Int) = _; rw [← h2], e.2⟩
theorem enumL_len {α : Type} {xs : List α} : (enumL xs).length = xs.length := by unfold enumL; simp
theorem di_enum {ei : α → D} {m : R (List α)} {elts : List Expr} {kk : Nat} {p tpos : Pos} (ha : DD X W Γ a (fun xs => .lst (xs.map ei)) m) (hm : X.mg "enumerate" = none) (hg : Gl X "enumerate" := by rfl) (hs : starEach [a] X.env = (false, eval a X.env) :: starEach [] X.env := by exact star_cons rfl) :
    DI X W Γ (.Tuple elts kk tpos) (.Call (.Name "enumerate" p) [a] [] pos) (fun zs => zs.map fun z : Int × α => .tup [.int z.1, ei z.2]) (m >>= fun xs => .ok (enumL xs)) :=
  imk ⟨_, pi_enum hg hm (pa_w X [a]) (hs := hs), fun F M0 M H σ Q s po => by
    have hA := da_cons ha da_nil (hs := hs)
    refine hA F M0 M H σ _ s ?_
    cases m with
    | bad => exact po
    | err c => exact po
    | ok xs =>
      intro vs M1 H1 g r
      obtain ⟨v, r', rfl, r1, r3⟩ := r
      rw [show r' = [] from r3]
      obtain ⟨p1, v1, rfl, q1, rs1⟩ := r1
      refine ⟨p1, v1, rfl, .of (g.mh _ _ q1), po _ M1 H1 g fun M H i hm hh => ?_⟩
      have s1 : SqL X.K H p1 v1 := .of (hh _ _ (hm _ _ q1))
      refine ⟨fun d hd => ?_, fun hi => ⟨v1, s1, by
        rw [List.length_map, enumL_len] at hi
        rw [rs1.len, List.length_map]; exact hi⟩⟩
      rw [List.getElem?_map] at hd
      cases ez : (enumL xs)[i]? with
      | none => rw [ez] at hd; cases hd
      | some z =>
        rw [ez] at hd
        cases hd
        obtain ⟨z1, z2⟩ := enumL_get ez
        obtain ⟨u1, e1, k1⟩ := rs1.get (i := i) (d := ei z.2) (by rw [List.getElem?_map, z2]; rfl)
        refine ⟨⟨v1, u1, s1, e1⟩, fun x H' y => ?_⟩
        obtain ⟨T, x1, rfl, hT, rfl, f1⟩ := y
        have f1 := f1 v1 s1
        rw [e1] at f1
        cases f1
        exact new_pair (M1 := M) hh hT ⟨.int (i : Nat), _, rfl, by rw [z1]; rfl, u1, _, rfl, Rep.mono hm _ _ k1, rfl⟩⟩
/-- reversed(a list that is shared) -/
theorem di_rev {ei : α → D} {m : R (List α)} {p : Pos} (ha : DD X W Γ a (fun xs => .lst (xs.map ei)) m) (hm : X.mg "reversed" = none) (hg : Gl X "reversed" := by rfl) (hs : starEach [a] X.env = (false, eval a X.env) :: starEach [] X.env := by exact star_cons rfl) :
    DI X W Γ tg (.Call (.Name "reversed" p) [a] [] pos) (fun xs => xs.map ei) (m >>= fun xs => .ok xs.reverse) :=
  imk ⟨_, pi_reversed hg hm (pa_w X [a]) (hs := hs), fun F M0 M H σ Q s po => by
    have hA := da_cons ha da_nil (hs := hs)
    refine hA F M0 M H σ _ s ?_
    cases m with
    | bad => exact po
    | err c => exact po
    | ok xs =>
      intro vs M1 H1 g r
      obtain ⟨v, r', rfl, r1, r3⟩ := r
      rw [show r' = [] from r3]
      obtain ⟨p1, v1, rfl, q1, rs1⟩ := r1
      have hl : v1.length = xs.length := by rw [rs1.len, List.length_map]
      refine ⟨p1, v1, rfl, .of (g.mh _ _ q1), po _ M1 H1 g fun M H i hm hh => ?_⟩
      have s1 : SqL X.K H p1 v1 := .of (hh _ _ (hm _ _ q1))
      refine ⟨fun d hd => ?_, fun hi => ?_⟩
      · have hi : i < xs.length := by
          have := (List.getElem?_eq_some_iff.mp hd).1
          rw [List.length_map, List.length_reverse] at this; exact this
        rw [List.getElem?_map, List.getElem?_reverse hi] at hd
        cases ez : xs[xs.length - 1 - i]? with
        | none => rw [ez] at hd; cases hd
        | some z =>
          rw [ez] at hd
          cases hd
          obtain ⟨u1, e1, k1⟩ := rs1.get (i := xs.length - 1 - i) (d := ei z) (by rw [List.getElem?_map, ez]; rfl)
          refine ⟨⟨by omega, v1, u1, s1, by rw [hl]; exact e1⟩, fun x H' y => ?_⟩
          obtain ⟨rfl, f1⟩ := y
          have f1 := f1 v1 s1
          rw [hl, e1] at f1
          cases f1
          exact ⟨M, .refl hh, Rep.mono hm _ _ k1⟩
      · rw [List.length_map, List.length_reverse] at hi
        show v1.length ≤ i
        omega⟩
theorem bk_as {κ : ω → Kd} {m : R ω} (Γ' : List Sl) (h : Γ = Γ') (hb : Bk X W Γe Γ' ss κ m) : Bk X W Γe Γ ss κ m := h ▸ hb
end
end Cn
/-! CnJ: dicts of the module's, ints to ints -/
namespace Cn
open PySem PySem.Spec L2 PyProof.Rows
def GEnt : List (Int × Int) → List DictEntry → Prop := Paired fun p e => ∃ t u, e = ⟨hashInt p.1, .int p.1 t, .int p.2 u⟩
def GDct (K : PySem.W.Frag) (A : Addr) (kvs : List (Int × Int)) : Prop := (A == sysModules) = false ∧ (kvs.map (·.1)).Nodup ∧ ∃ es n, K.lookup A = some ⟨.type "dict", none, .dict es n, #[]⟩ ∧ GEnt kvs es.toList
def GVal : List (Int × Int) → List (Key × Value) → Prop := Paired fun p q => q.1 = .inl p.1 ∧ ∃ u, q.2 = .int p.2 u
theorem gent_vals {P : Program} {w : World} : ∀ {kvs : List (Int × Int)} {es : List DictEntry}, GEnt kvs es → ∃ vs, GVal kvs vs ∧ Pairs (mixKind P w) es vs ∧ vs.map (·.1) = kvs.map (fun p => (Sum.inl p.1 : Key)) ∧ ∀ e ∈ es, ∃ k, (mixKind P w).is k e.key = true ∧ e.hash = (mixKind P w).hash k
  | [], [], _ => ⟨[], .nil, .nil, rfl, fun _ z => nomatch z⟩
  | p :: kvs, e :: es, h => by
    cases h with
    | cons h1 h2 =>
      obtain ⟨t, u, rfl⟩ := h1
      obtain ⟨vs, g, q, m, a⟩ := gent_vals (P := P) (w := w) h2
      refine ⟨(.inl p.1, .int p.2 u) :: vs, .cons ⟨rfl, u, rfl⟩ g, .cons (keyIs_int p.1 t) rfl q, by rw [List.map_cons, List.map_cons, m], fun e he => ?_⟩
      rcases List.mem_cons.mp he with z | z
      · subst z; exact ⟨.inl p.1, keyIs_int p.1 t, rfl⟩
      · exact a e z
theorem gval_at : ∀ {kvs : List (Int × Int)} {vs : List (Key × Value)}, GVal kvs vs → ∀ i : Int, (∀ z, kvs.lookup i = some z → ∃ u, PySem.valueAt vs (Sum.inl i : Key) = some (.int z u)) ∧ (PySem.valueAt vs (Sum.inl i : Key)).isSome = (kvs.lookup i).isSome
  | [], [], _, i => ⟨fun z h => (nomatch h), rfl⟩
  | p :: kvs, q :: vs, h, i => by
    cases h with
    | cons h1 h2 =>
      obtain ⟨e, u, e2⟩ := h1
      obtain ⟨k, v⟩ := q
      obtain ⟨a, b⟩ := p
      simp only at e e2
      subst e
      subst e2
      have ih := gval_at h2 i
      unfold PySem.valueAt at ih ⊢
      rw [List.lookup_cons, List.find?_cons]
      by_cases c : i = a
      · subst c
        rw [beq_self_eq_true]
        simp only [decide_true]
        exact ⟨fun z hz => ⟨u, by cases hz; rfl⟩, rfl⟩
      · rw [show (i == a) = false from beq_eq_false_iff_ne.mpr c, decide_eq_false (fun z => c (Sum.inl.inj z).symm)]
        exact ih
theorem nodup_inl : ∀ {l : List Int}, l.Nodup → (l.map (fun i => (Sum.inl i : Key))).Nodup
  | [], _ => List.nodup_nil
  | a :: l, h => by
    rw [List.nodup_cons] at h
    rw [List.map_cons, List.nodup_cons]
    refine ⟨fun z => ?_, nodup_inl h.2⟩
    obtain ⟨b, hb, e⟩ := List.mem_map.mp z
    cases e
    exact h.1 hb
theorem gdct_at {P : Program} {w : World} {K : PySem.W.Frag} {h : Heap} {A : Addr} {kvs : List (Int × Int)} (X : K.In h) (g : GDct K A kvs) : ∃ vs, h.DictOf (mixKind P w) A vs ∧ GVal kvs vs := by
  obtain ⟨_, nd, es, n, hl, ge⟩ := g
  obtain ⟨vs, gv, pr, m, a⟩ := gent_vals (P := P) (w := w) ge
  refine ⟨vs, ⟨_, es, n, X _ _ hl, ⟨rfl, rfl, rfl⟩, rfl, fun e he => a e (Array.mem_toList_iff.mpr he), pr, ?_⟩, gv⟩
  have := nodup_inl nd
  rw [List.map_map] at this
  rw [m]
  exact this
section
variable {X : Cx} {W : WX} {Γe Γ : List Sl} {a b e c tg : Expr} {α β γ : Type} {pos : Pos}
theorem ix_gdct : IxR X (fun x y H Q => ∃ A kvs i z, x = .ref A ∧ y = .int i ∧ GDct X.K A kvs ∧ kvs.lookup i = some z ∧ Q (.int z) H) := by
  intro value slice pins s σ H x y v u Q I rx ry h hs
  obtain ⟨A, kvs, i, z, rfl, rfl, g, l, q⟩ := h
  obtain rfl : v = Value.ref A := rx
  obtain ⟨vs, dd, gv⟩ := gdct_at (P := X.prog) (w := X.w) I.kIn g
  obtain ⟨t, hv⟩ := (gval_at gv i).1 z l
  exact tail_any dd.mapOf.typeIs slot_dict_getitem.lookup (wpAny_getItem_of (kV_is (k := .inl i) ry) dd.mapOf hv ⟨.int z, H, I.tok _, ⟨t, rfl⟩, q⟩) hs
theorem pc_gdin {ta td : TE} (hi : PE X a ta) (ho : PE X e td) : PC X .In a e (fun σ H Q => ta σ H fun x H1 => td σ H1 fun y H2 => ∃ i A kvs, x = .int i ∧ y = .ref A ∧ GDct X.K A kvs ∧ Q (.bl (kvs.lookup i).isSome) H2) := by
  refine ⟨fun pins s σ H Q I h => ?_⟩
  refine thn (hi.run pins s σ H _ I h) fun iv s1 ⟨y, H1, I1, ry, q1⟩ => thn (ho.run pins s1 σ H1 _ I1 q1) fun u s2 ⟨x, H2, I2, rx, i, A, kvs, e1, e2, g, q2⟩ => ?_
  subst e1
  subst e2
  obtain rfl : u = Value.ref A := rx
  obtain ⟨vs, dd, gv⟩ := gdct_at (P := X.prog) (w := X.w) I2.kIn g
  refine wpAny_in_of (kV_is (k := .inl i) ry) g.1 dd.mapOf ?_
  rw [(gval_at gv i).2]
  exact ⟨.bl (kvs.lookup i).isSome, H2, I2.tok _, rfl, q2⟩
theorem pc_gdnin {ta td : TE} (hi : PE X a ta) (ho : PE X e td) : PC X .NotIn a e (fun σ H Q => ta σ H fun x H1 => td σ H1 fun y H2 => ∃ i A kvs, x = .int i ∧ y = .ref A ∧ GDct X.K A kvs ∧ Q (.bl (!(kvs.lookup i).isSome)) H2) := by
  refine ⟨fun pins s σ H Q I h => ?_⟩
  refine thn (hi.run pins s σ H _ I h) fun iv s1 ⟨y, H1, I1, ry, q1⟩ => thn (ho.run pins s1 σ H1 _ I1 q1) fun u s2 ⟨x, H2, I2, rx, i, A, kvs, e1, e2, g, q2⟩ => ?_
  subst e1
  subst e2
  obtain rfl : u = Value.ref A := rx
  obtain ⟨vs, dd, gv⟩ := gdct_at (P := X.prog) (w := X.w) I2.kIn g
  refine wpAny_notIn_of (kV_is (k := .inl i) ry) g.1 dd.mapOf ?_
  rw [(gval_at gv i).2]
  exact ⟨.bl (!(kvs.lookup i).isSome), H2, I2.tok _, rfl, q2⟩
theorem dd_gdget {n : Str} {kvs : List (Int × Int)} {ad : Addr} {p : Pos} {m : R Int} (hm : X.mg n = some (.ref ad)) (h : GDct X.K ad kvs) (hb : DD X W Γ b D.int m) (hg : Gl X n := by rfl) (hd : (n == ("__debug__" : Str)) = false := by decide) (hs : PlainIx b := by exact fun _ _ => rfl) : DD X W Γ (.Subscript (.Name n p) b pos) D.int (m >>= fun i => ofO (kvs.lookup i)) :=
  dmk ⟨_, pe_ix ix_gdct (pe_glob (v := .ref ad) hg hm rfl hd) (pe_w X b) hs, fun F M0 M H σ Q s po => hb F M0 M H σ _ s (po.bind.imp (fun i _ q v M1 H1 g r => by
    obtain ⟨z, e, k⟩ := q.ofO
    exact ⟨ad, kvs, i, z, rfl, r, h, e, k _ M1 H1 g rfl⟩) fun _ z => z)⟩
theorem dd_gdin {n : Str} {kvs : List (Int × Int)} {ad : Addr} {p : Pos} {m : R Int} (hm : X.mg n = some (.ref ad)) (h : GDct X.K ad kvs) (hb : DD X W Γ a D.int m) (hg : Gl X n := by rfl) (hd : (n == ("__debug__" : Str)) = false := by decide) (h1 : behindInMarks .In (.Name n p) = false := by rfl) : DD X W Γ (.Compare a [.In] [.Name n p] pos) D.bl (m >>= fun i => .ok (kvs.lookup i).isSome) :=
  dmk ⟨_, pe_cmp (pc_gdin (pe_w X a) (pe_glob (v := .ref ad) hg hm rfl hd)) h1, fun F M0 M H σ Q s po => hb F M0 M H σ _ s (po.bind.imp (fun i _ q v M1 H1 g r => ⟨i, ad, kvs, r, rfl, h, q _ M1 H1 g rfl⟩) fun _ z => z)⟩
theorem dd_gdnin {n : Str} {kvs : List (Int × Int)} {ad : Addr} {p : Pos} {m : R Int} (hm : X.mg n = some (.ref ad)) (h : GDct X.K ad kvs) (hb : DD X W Γ a D.int m) (hg : Gl X n := by rfl) (hd : (n == ("__debug__" : Str)) = false := by decide) (h1 : behindInMarks .NotIn (.Name n p) = false := by rfl) : DD X W Γ (.Compare a [.NotIn] [.Name n p] pos) D.bl (m >>= fun i => .ok (!(kvs.lookup i).isSome)) :=
  dmk ⟨_, pe_cmp (pc_gdnin (pe_w X a) (pe_glob (v := .ref ad) hg hm rfl hd)) h1, fun F M0 M H σ Q s po => hb F M0 M H σ _ s (po.bind.imp (fun i _ q v M1 H1 g r => ⟨i, ad, kvs, r, rfl, h, q _ M1 H1 g rfl⟩) fun _ z => z)⟩
end
end Cn
/-! CnK: in and index of lists of ints -/
namespace Cn
open PySem PySem.Spec L2 PyProof.Rows
theorem inV_ints (i : Int) (xs : List Int) : inV (.int i) (xs.map V.int) = decide (i ∈ xs) := by
  unfold inV
  induction xs with
  | nil => rfl
  | cons x xs ih =>
    rw [List.map_cons, List.any_cons, ih, Bool.eq_iff_iff, Bool.or_eq_true, decide_eq_true_iff, decide_eq_true_iff, List.mem_cons]
    show (x == i) = true ∨ _ ↔ _
    rw [beq_iff_eq]
    exact ⟨fun z => z.imp Eq.symm id, fun z => z.imp Eq.symm id⟩
theorem flat_ints (xs : List Int) : (xs.map V.int).all flatV = true := by
  induction xs with
  | nil => rfl
  | cons x xs ih => rw [List.map_cons, List.all_cons, ih]; rfl
/-- the first place of i in xs -/
def idxO (xs : List Int) (i : Int) : Option Int := (xs.findIdx? (· == i)).map fun j : Nat => (j : Int)
section
variable {X : Cx} {W : WX} {Γe Γ : List Sl} {a b e c tg o : Expr} {α β γ : Type} {pos cpos apos : Pos}
theorem dd_inL {m : R Int} {n : R (List Int)} (ha : DD X W Γ a D.int m) (hb : DL X W Γ b (fun xs => xs.map D.int) n) (h1 : behindInMarks .In b = false := by rfl) : DD X W Γ (.Compare a [.In] [b] pos) D.bl (m >>= fun i => n >>= fun xs => .ok (decide (i ∈ xs))) :=
  dmk ⟨_, pe_cmpR op_in_seq (pe_w X a) (pe_w X b) h1, fun F M0 M H σ Q s po => ha F M0 M H σ _ s (po.bind.imp (fun i _ q v M1 H1 g r => hb F M0 M1 H1 σ _ (s.grow g) (q.bind.imp (fun xs _ k p vs M2 H2 g2 hq r2 => by
    rw [show v = .int i from r]
    refine ⟨p, vs, rfl, .inl hq, rfl, ?_, ?_⟩
    · rw [reps_ints r2]; exact flat_ints xs
    · rw [reps_ints r2]
      show Q (.bl (if false = true then _ else inV (.int i) (xs.map V.int))) H2
      rw [if_neg (by decide), inV_ints]
      exact k (.bl (decide (i ∈ xs))) M2 H2 (g.trans g2) rfl) fun c z M' H' g2 => z M' H' (g.trans g2))) fun _ z => z)⟩
theorem dd_ninL {m : R Int} {n : R (List Int)} (ha : DD X W Γ a D.int m) (hb : DL X W Γ b (fun xs => xs.map D.int) n) (h1 : behindInMarks .NotIn b = false := by rfl) : DD X W Γ (.Compare a [.NotIn] [b] pos) D.bl (m >>= fun i => n >>= fun xs => .ok (!decide (i ∈ xs))) :=
  dmk ⟨_, pe_cmpR op_notIn_seq (pe_w X a) (pe_w X b) h1, fun F M0 M H σ Q s po => ha F M0 M H σ _ s (po.bind.imp (fun i _ q v M1 H1 g r => hb F M0 M1 H1 σ _ (s.grow g) (q.bind.imp (fun xs _ k p vs M2 H2 g2 hq r2 => by
    rw [show v = .int i from r]
    refine ⟨p, vs, rfl, .inl hq, rfl, ?_, ?_⟩
    · rw [reps_ints r2]; exact flat_ints xs
    · rw [reps_ints r2]
      show Q (.bl (if true = true then !inV (.int i) (xs.map V.int) else _)) H2
      rw [if_pos rfl, inV_ints]
      exact k (.bl (!decide (i ∈ xs))) M2 H2 (g.trans g2) rfl) fun c z M' H' g2 => z M' H' (g.trans g2))) fun _ z => z)⟩
theorem dd_idxL {m : R (List Int)} {n : R Int} (hc : X.calm = true) (ho : DL X W Γ o (fun xs => xs.map D.int) m) (he : DD X W Γ e D.int n) (hbase : attributeBase o "index" X.env (eval o X.env) = eval o X.env := by rfl)
    (hfew : ((backTo cpos (starEach [e] X.env)).all (fun x => !x.1) && (backToKw cpos (keywordEach [] X.env)).all (fun x => x.1.isSome)
      && decide (([e]).length + ([] : List Keyword).length + (if ([] : List Keyword).isEmpty then 0 else 1) < 30)) = true := by rfl)
    (hline : (apos.endLine == cpos.line) = true := by rfl) (hs : starEach [e] X.env = (false, eval e X.env) :: starEach [] X.env := by exact star_cons rfl) (hplain : (backTo cpos (starEach [] X.env)).any (·.1) = false := by rfl) : DD X W Γ (.Call (.Attribute o "index" apos) [e] [] cpos) D.int (m >>= fun xs => n >>= fun i => ofO (idxO xs i)) :=
  dmk ⟨_, pe_bm F.plainAttrs_list F.slot_list_index F.type_list_index mt_index (pe_w X o) (pa_cons (pe_w X e) pa_nil (hs := hs)) (hbase := hbase) (hfew := hfew) (hline := hline) (hs := hs) (hplain := hplain), fun F M0 M H σ Q s po => ho F M0 M H σ _ s (po.bind.imp (fun xs _ q p vs M1 H1 g hq r => by
    refine ⟨.inl ⟨rfl, vs, hq⟩, he F M0 M1 H1 σ _ (s.grow g) (q.bind.imp (fun i _ k v M2 H2 g2 r2 => ?_) fun c z M' H' g2 => z M' H' (g.trans g2))⟩
    obtain ⟨z, ez, k⟩ := k.ofO
    unfold idxO at ez
    obtain ⟨j, ej, rfl⟩ := Option.map_eq_some_iff.mp ez
    obtain ⟨hj, hp, hl⟩ := List.findIdx?_eq_some_iff_getElem.mp ej
    refine ⟨p, vs, v, j, .int xs[j], rfl, rfl, g2.hh.seq hq, ?_, ?_, ?_, ?_, ?_, k (.int (j : Nat)) M2 H2 (g.trans g2) rfl⟩
    · rw [show v = .int i from r2]; rfl
    · rw [reps_ints r]; exact flat_ints xs
    · rw [reps_ints r, List.getElem?_map, List.getElem?_eq_getElem hj]; rfl
    · rw [show v = .int i from r2]; exact hp
    · intro m z' hm hz
      rw [reps_ints r, List.getElem?_map, List.getElem?_eq_getElem (by omega)] at hz
      cases hz
      rw [show v = .int i from r2]
      show (xs[m] == i) = false
      cases h : (xs[m] == i) with
      | false => rfl
      | true => exact absurd h (hl m hm)) fun _ z => z)⟩
/-! xs[::-1] -/
theorem pe_rev {te tc : TE} {p2 : Pos} (he : PE X e te) (hc : PE X c tc) (hs0 : ∀ (v r : Value), subscripted (.Slice none none (some c) p2) false v r = operate [v, r] (getItem v r) := by intros; with_unfolding_all rfl) :
    PE X (.Subscript e (.Slice none none (some c) p2) pos) (fun σ H Q => te σ H fun x H1 => tc σ H1 fun y H2 => y = .int (-1) ∧ ∃ a xs, x = .ref a ∧ SqL X.K H2 a xs ∧ ∀ q, H2 q = none → Q (.ref q) (upd H2 q (.lst xs.reverse))) := by
  refine ⟨fun pins s σ H Q I h => ?_⟩
  refine Subscript_ (thn (he.run pins s σ H _ I h) fun v s1 ⟨x, H1, I1, r1, q1⟩ => ?_)
  refine wpAny_Slice ?_
  rw [evalPart_none, evalPart_some]
  refine wpAny_pure (wpAny_pure (thn (hc.run pins s1 σ H1 _ I1 q1) fun vs s3 ⟨y, H3, I3, ry, ey, a, xs, ex, hx, q⟩ => ?_))
  subst ey
  subst ex
  obtain ⟨t, rfl⟩ := (show ∃ t, vs = Value.int (-1) t from ry)
  obtain rfl : v = Value.ref a := r1
  have I4 : Inv X pins σ H3 { s3 with heap := s3.heap.push { cls := .type "slice", data := .fields #[.none, .none, .int (-1) t] } } := I3.kept (t' := s3.toks) fun b ob q => Heap.get?_push_of_some _ q
  obtain ⟨its, r, ht, hz⟩ := I4.list hx
  have hlen := r.length
  refine tail_any (ops := [.ref a, .ref s3.heap.objs.size]) ht.isList.typeIs slot_list_getitem.lookup ?_ (hs0 _ _)
  refine wpAny_getItem_list_slice ht.isList (Heap.IsSliceOf.new ..) .none .none (.int (-1) t) (by decide) ?_ (by rw [List.size_toArray] <;> omega)
  rw [PySem.W.krv_pick]
  refine ⟨.ref (s3.heap.push _).objs.size, _, I4.laid (o := .lst xs.reverse) (fun b ob q => Heap.get?_push_of_some _ q) (Nat.le_refl _) ?_, rfl, q _ (I4.hok.fresh (Nat.le_refl _))⟩
  refine ⟨by rw [List.length_reverse]; exact hz, _, 0, ?_, Heap.get?_push_size _ rfl⟩
  exact r.reverse
theorem Reps.len' {G : Ctx} {M : Hp} : ∀ {ds : List D} {vs : List V}, Reps G M ds vs → vs.length = ds.length
  | [], vs, h => by rw [show vs = [] from h]; rfl
  | d :: ds, vs, ⟨v, r, h1, h2, h3⟩ => by subst h1; rw [List.length_cons, List.length_cons, Reps.len' h3]
theorem reps_app {G : Ctx} {M : Hp} : ∀ {ds es : List D} {vs ws : List V}, Reps G M ds vs → Reps G M es ws → Reps G M (ds ++ es) (vs ++ ws)
  | [], _, vs, _, h, k => by rw [show vs = [] from h]; exact k
  | d :: ds, _, vs, _, ⟨v, r, h1, h2, h3⟩, k => by subst h1; exact ⟨v, _, rfl, h2, reps_app h3 k⟩
theorem reps_rev {G : Ctx} {M : Hp} : ∀ {ds : List D} {vs : List V}, Reps G M ds vs → Reps G M ds.reverse vs.reverse
  | [], vs, h => by rw [show vs = [] from h]; exact rfl
  | d :: ds, vs, ⟨v, r, h1, h2, h3⟩ => by
    subst h1
    rw [List.reverse_cons, List.reverse_cons]
    exact reps_app (reps_rev h3) ⟨v, [], rfl, h2, rfl⟩
theorem df_revL {ei : β → D} {m : R (List β)} {mc : R Int} {p2 : Pos} (h : DL X W Γ e (fun xs => xs.map ei) m) (hc : DD X W Γ c D.int mc) (hm : mc = .ok (-1) := by rfl) (hs0 : ∀ (v r : Value), subscripted (.Slice none none (some c) p2) false v r = operate [v, r] (getItem v r) := by intros; with_unfolding_all rfl) :
    DF X W Γ (.Subscript e (.Slice none none (some c) p2) pos) (fun xs => .lst (xs.map fun x => .imm (ei x))) (m >>= fun xs => .ok xs.reverse) := by
  subst hm
  exact dmk ⟨_, pe_rev (pe_w X e) (pe_w X c) hs0, fun F M0 M H σ Q s po => h F M0 M H σ _ s (po.bind.imp (fun xs _ k a vs M1 H1 g1 hq r1 => hc F M0 M1 H1 σ _ (s.grow g1) (fun v M2 H2 g2 rv => by
    refine ⟨rv, a, vs, rfl, g2.hh.seq hq, new_list (g1.trans g2) (ds := (xs.map ei).reverse) (reps_rev (Reps.mono g2.mm _ _ r1)) ?_⟩
    rw [← List.map_reverse, ← map_imm]
    exact k)) fun _ z => z)⟩
/-! an object made, as a new tree -/
theorem sat_un {G : Ctx} {F M H : Hp} : ∀ σ : L2.St, Sat G F M H (List.replicate σ.length .un) σ []
  | [] => ⟨rfl, rfl⟩
  | x :: σ => ⟨x, σ, rfl, sat_un σ⟩
theorem df_gen {emb : α → T} {m : R α} (h : ∀ Γ, DX X W Γ e (fun _ => Γ) emb m) : DF X W Γ e emb m :=
  ⟨fun F M0 M H σ Q s po => h (List.replicate σ.length .un) H M M H σ Q ⟨[], ⟨.refl _, .refl _, s.mh, fun _ z => .inl z, List.nodup_nil, (fun _ z => nomatch z), (fun _ z => nomatch z)⟩, sat_un σ⟩ (po.imp (fun x _ k v M' H' sx => by
    obtain ⟨as, f, v', r, a1, a2, e1, e2, o, _⟩ := sx
    cases e1
    subst e2
    exact k v M' H' a1 ⟨f.fh, f.mm, f.mh, f.nw⟩ o (List.nodup_append.mp f.nd).1 fun a ha => ⟨f.fa a (List.mem_append_left _ ha), f.ma a (List.mem_append_left _ ha)⟩) fun c z M' H' sx => z M' H' (by
    obtain ⟨as, f, _⟩ := sx
    exact ⟨f.fh, f.mm, f.mh, f.nw⟩))⟩
/-- if x is None or ..: A, which leaves; else the rest, where x is known -/
theorem bk_ifNoneOrX {ω : Type} {rest A : List Stmt} {es : List Expr} {emb : α → T} {x : Option α} {sl : Sl} {n : Str} {p1 p2 p3 p4 : Pos} {jc} {κ : ω → Kd} {mA : R ω} {mc : α → R Bool} {mB : α → R ω} (i : Nat) (h : Γ[i]? = some sl) (hs : sl.look = some (eOptT emb x)) (hn : NotN X.G emb) (ha : Bk X W Γe Γ A (fun o => (κ o).ex) mA) (Γs : α → List Sl) (hc : ∀ y, DW X W (Γs y) (.BoolOp .Or (b :: es) p4) (mc y)) (hb : ∀ y, Bk X W Γe (Γs y) rest κ (mB y)) (hΓ : ∀ y, x = some y → Γ = Γs y) (hw : Wk Γe Γ)
    (hN : X.N[i]? = some n := by rfl) (hv : Vis X.env.scope n := by first | exact Or.inl rfl | exact Or.inr (Or.inl rfl) | exact Or.inr (Or.inr rfl)) (hd : (n == ("__debug__" : Str)) = false := by decide) (hcd : (n == ("__classdict__" : Str)) = false := by decide) :
    Bk X W Γe Γ (.If (.BoolOp .Or (.Compare (.Name n p1) [.Is] [.Constant .none jc p2] p3 :: b :: es) p4) A [] pos :: rest) κ (optK x mA fun y => mc y >>= fun c => if c then mA else mB y) := by
  have h0 := dt_isNT (X := X) (W := W) (Γ := Γ) (pos := p3) (j := jc) (p := p2) hn (db_see (pos := p1) i h hs hN hv hd hcd)
  cases x with
  | none => exact bk_ifX (mc := .ok true) (ma := mA) (mb := .bad) (dt_dw (dw_or (n := .bad) h0 ⟨fun F M0 M H σ Q s po => po.elim⟩)) ha ⟨fun F M0 M H σ D s po => po.elim⟩ hw
  | some y =>
    have e := hΓ y rfl
    have hb' := hb y
    have hc' := hc y
    rw [← e] at hb' hc'
    exact bk_ifX (mc := mc y) (ma := mA) (mb := mB y) (dt_dw (dw_or h0 hc')) ha hb' hw
end
end Cn
/-! CnL: {a: x, b: y}.get(i, z) -/
namespace Cn
open PySem PySem.Spec L2 PyProof.Rows
theorem gr_new {M H : Hp} {p : Addr} {o : HO} (h : Same M H) (hp : H p = none) : Gr M H M (upd H p o) :=
  have hs : Same H (upd H p o) := fun b u e => by
    have : b ≠ p := fun z => by subst z; rw [hp] at e; cases e
    rw [upd_ne this]; exact e
  ⟨hs, .refl _, h.trans hs, fun _ z => .inl z⟩
theorem gr_over {M H M2 H2 : Hp} {p : Addr} {o o' : HO} (h : Same M H) (hp : H p = none) (g : Gr M (upd H p o) M2 H2) : Gr M H M2 (upd H2 p o') := by
  have mp : M p = none := by
    cases e : M p with
    | none => rfl
    | some u => have := h p u e; rw [hp] at this; cases this
  have m2 : M2 p = none := by
    cases e : M2 p with
    | none => rfl
    | some u =>
      rcases g.nw p (by rw [e]; simp) with z | z
      · exact absurd mp z
      · rw [upd_same] at z; cases z
  refine ⟨fun b u e => ?_, g.mm, fun b u e => ?_, fun a z => ?_⟩
  · have hb : b ≠ p := fun z => by subst z; rw [hp] at e; cases e
    rw [upd_ne hb]
    exact g.hh b u (by rw [upd_ne hb]; exact e)
  · have hb : b ≠ p := fun z => by subst z; rw [m2] at e; cases e
    rw [upd_ne hb]
    exact g.mh b u e
  · rcases g.nw a z with y | y
    · exact .inl y
    · by_cases hb : a = p
      · subst hb; rw [upd_same] at y; cases y
      · rw [upd_ne hb] at y; exact .inr y
section
variable {X : Cx} {W : WX} {Γe Γ : List Sl} {a b e f c k1 k2 v1 v2 : Expr} {α β γ : Type} {pos cpos apos dp : Pos}
theorem m2_of {m : Str} {o : Expr} (hbase : attributeBase o m X.env (eval o X.env) = eval o X.env) (hfew : ((backTo cpos (starEach [e, f] X.env)).all (fun x => !x.1) && (backToKw cpos (keywordEach [] X.env)).all (fun x => x.1.isSome)
    && decide (([e, f] : List Expr).length + ([] : List Keyword).length + (if ([] : List Keyword).isEmpty then 0 else 1) < 30)) = true) (hline : (apos.endLine == cpos.line) = true) (ht : backTo cpos (starEach [e, f] X.env) = [(false, eval e X.env), (false, eval f X.env)]) : M2 X o m apos e f cpos := ⟨hbase, hfew, hline, ht⟩
theorem dd_get22 {i1 i2 : Int} {emb : α → D} {mk1 mk2 : R Int} {m1 m2 mf : R α} {me : R Int} (hu : X.A.units + 1 < cLine) (h1 : DD X W Γ k1 D.int mk1) (hv1 : DD X W Γ v1 emb m1) (h2 : DD X W Γ k2 D.int mk2) (hv2 : DD X W Γ v2 emb m2) (he : DD X W Γ e D.int me) (hf : DD X W Γ f emb mf)
    (e1 : mk1 = .ok i1 := by rfl) (e2 : mk2 = .ok i2 := by rfl) (hne : i1 ≠ i2 := by decide) (M : M2 X (.Dict [some k1, some k2] [v1, v2] dp) "get" apos e f cpos := by exact m2_of rfl rfl rfl rfl) :
    DD X W Γ (.Call (.Attribute (.Dict [some k1, some k2] [v1, v2] dp) "get" apos) [e, f] [] cpos) emb (m1 >>= fun x => m2 >>= fun y => me >>= fun i => mf >>= fun d => .ok (if i = i1 then x else if i = i2 then y else d)) := by
  subst e1
  subst e2
  refine dmk ⟨_, pe_dget2 hu (pe_disp (pps_cons (pe_w X k1) (pe_w X v1) (pps_cons (pe_w X k2) (pe_w X v2) pps_nil)) rfl rfl (by simp) (by show 2 ≤ 15; decide)) (pe_w X e) (pe_w X f) M, fun F M0 M H σ Q s po => ?_⟩
  intro p hp
  have g0 : Gr M H M (upd H p (.dK [])) := gr_new s.mh hp
  have s0 := s.grow g0
  refine h1 F M0 M _ σ _ s0 (fun w1 Ma Ha ga ra => ?_)
  refine hv1 F M0 Ma Ha σ _ (s0.grow ga) (po.bind.imp (fun x _ po u1 Mb Hb gb rb => ?_) fun c z M' H' g => z M' H' ((g0.trans ga).trans g))
  refine h2 F M0 Mb Hb σ _ ((s0.grow ga).grow gb) (fun w2 Mc Hc gc rc => ?_)
  refine hv2 F M0 Mc Hc σ _ (((s0.grow ga).grow gb).grow gc) (po.bind.imp (fun y _ po u2 Md Hd gd rd => ?_) fun c z M' H' g => z M' H' (((((g0.trans ga).trans gb).trans gc)).trans g))
  have gg : Gr M (upd H p (.dK [])) Md Hd := ((ga.trans gb).trans gc).trans gd
  refine ⟨gg.hh p _ upd_same, [(.inl i1, u1), (.inl i2, u2)], by rw [show w1 = .int i1 from ra, show w2 = .int i2 from rc]; rfl, by show 2 ≤ 15; decide, ?_⟩
  have gx : Gr M H Md (upd Hd p (.dK (mergeK [] [(.inl i1, u1), (.inl i2, u2)]))) := gr_over s.mh hp gg
  refine ⟨p, rfl, .inl ⟨_, .inl upd_same⟩, ?_⟩
  refine he F M0 Md _ σ _ (s.grow gx) (po.bind.imp (fun i _ po w3 Me He ge re => ?_) fun c z M' H' g => z M' H' (gx.trans g))
  refine hf F M0 Me He σ _ ((s.grow gx).grow ge) (po.bind.imp (fun d _ k w4 Mf Hf gf rf => ?_) fun c z M' H' g => z M' H' ((gx.trans ge).trans g))
  have hq : Hf p = some (.dK (mergeK [] [((Sum.inl i1 : Key), u1), (Sum.inl i2, u2)])) := gf.hh p _ (ge.hh p _ upd_same)
  rw [show w3 = .int i from re]
  refine ⟨_, DGet.k (k := .inl i) hq, ?_⟩
  have hm : mergeK [] [((Sum.inl i1 : Key), u1), (Sum.inl i2, u2)] = [(Sum.inl i1, u1), (Sum.inl i2, u2)] := by
    show putK (putK [] (Sum.inl i1 : Key) u1) (Sum.inl i2) u2 = _
    unfold putK
    simp [hne]
  rw [hm]
  have r1 : Rep X.G Mf (emb x) u1 := Rep.mono (((gc.mm.trans gd.mm).trans ge.mm).trans gf.mm) _ _ rb
  have r2 : Rep X.G Mf (emb y) u2 := Rep.mono (ge.mm.trans gf.mm) _ _ rd
  by_cases c1 : i = i1
  · subst c1
    have : valV [((.inl i : Key), u1), (.inl i2, u2)] (.inl i) = some u1 := by unfold valV; rw [List.find?_cons_of_pos (by simp)]; rfl
    rw [this]
    rw [if_pos rfl] at k
    exact k u1 Mf Hf ((gx.trans ge).trans gf) r1
  · by_cases c2 : i = i2
    · subst c2
      have : valV [((.inl i1 : Key), u1), (.inl i, u2)] (.inl i) = some u2 := by unfold valV; rw [List.find?_cons_of_neg (by simpa using hne), List.find?_cons_of_pos (by simp)]; rfl
      rw [this]
      rw [if_neg c1, if_pos rfl] at k
      exact k u2 Mf Hf ((gx.trans ge).trans gf) r2
    · have : valV [((.inl i1 : Key), u1), (.inl i2, u2)] (.inl i) = none := by unfold valV; rw [List.find?_cons_of_neg (by simpa using fun z : i1 = i => c1 z.symm), List.find?_cons_of_neg (by simpa using fun z : i2 = i => c2 z.symm)]; rfl
      rw [this]
      rw [if_neg c1, if_neg c2] at k
      exact k w4 Mf Hf ((gx.trans ge).trans gf) rf
/-! in, as a test -/
theorem dt_gdin {n : Str} {kvs : List (Int × Int)} {ad : Addr} {p : Pos} {m : R Int} (hm : X.mg n = some (.ref ad)) (h : GDct X.K ad kvs) (hb : DD X W Γ a D.int m) (hg : Gl X n := by rfl) (hd : (n == ("__debug__" : Str)) = false := by decide) (h1 : behindInMarks .In (.Name n p) = false := by rfl) : DT X W Γ (.Compare a [.In] [.Name n p] pos) (m >>= fun i => .ok (kvs.lookup i).isSome) :=
  tmk ⟨_, pt_cmp (pc_gdin (pe_w X a) (pe_glob (v := .ref ad) hg hm rfl hd)) h1, fun F M0 M H σ Q s po => hb F M0 M H σ _ s (po.bind.imp (fun i _ q v M1 H1 g r => ⟨i, ad, kvs, r, rfl, h, _, rfl, q M1 H1 g⟩) fun _ z => z)⟩
theorem dt_gdnin {n : Str} {kvs : List (Int × Int)} {ad : Addr} {p : Pos} {m : R Int} (hm : X.mg n = some (.ref ad)) (h : GDct X.K ad kvs) (hb : DD X W Γ a D.int m) (hg : Gl X n := by rfl) (hd : (n == ("__debug__" : Str)) = false := by decide) (h1 : behindInMarks .NotIn (.Name n p) = false := by rfl) : DT X W Γ (.Compare a [.NotIn] [.Name n p] pos) (m >>= fun i => .ok (!(kvs.lookup i).isSome)) :=
  tmk ⟨_, pt_cmp (pc_gdnin (pe_w X a) (pe_glob (v := .ref ad) hg hm rfl hd)) h1, fun F M0 M H σ Q s po => hb F M0 M H σ _ s (po.bind.imp (fun i _ q v M1 H1 g r => ⟨i, ad, kvs, r, rfl, h, _, rfl, q M1 H1 g⟩) fun _ z => z)⟩
theorem dt_inL {m : R Int} {n : R (List Int)} (ha : DD X W Γ a D.int m) (hb : DL X W Γ b (fun xs => xs.map D.int) n) (h1 : behindInMarks .In b = false := by rfl) : DT X W Γ (.Compare a [.In] [b] pos) (m >>= fun i => n >>= fun xs => .ok (decide (i ∈ xs))) :=
  tmk ⟨_, pt_cmpR op_in_seq (pe_w X a) (pe_w X b) h1, fun F M0 M H σ Q s po => ha F M0 M H σ _ s (po.bind.imp (fun i _ q v M1 H1 g r => hb F M0 M1 H1 σ _ (s.grow g) (q.bind.imp (fun xs _ k p vs M2 H2 g2 hq r2 => by
    rw [show v = .int i from r]
    refine ⟨p, vs, rfl, .inl hq, rfl, ?_, decide (i ∈ xs), ?_, k M2 H2 (g.trans g2)⟩
    · rw [reps_ints r2]; exact flat_ints xs
    · rw [reps_ints r2]
      show V.bl (if false = true then _ else inV (.int i) (xs.map V.int)) = _
      rw [if_neg (by decide), inV_ints]) fun c z M' H' g2 => z M' H' (g.trans g2))) fun _ z => z)⟩
end
end Cn
/-! CnM: expressions that change slots, inside others -/
namespace Cn
open PySem PySem.Spec L2 PyProof.Rows
section
variable {X : Cx} {W : WX} {Γe Γ : List Sl} {a b e c : Expr} {α β γ : Type} {pos : Pos}
theorem S.now {G : Ctx} {F M0 M H : Hp} {σ : L2.St} {Γ : List Sl} (s : S G F M0 M H σ Γ) : S G F M M H σ Γ := by
  obtain ⟨as, f, sa⟩ := s
  exact ⟨as, ⟨f.fh, .refl _, f.mh, fun _ z => .inl z, f.nd, f.fa, f.ma⟩, sa⟩
theorem S.ago {G : Ctx} {F M0 M1 H1 M H : Hp} {σ σ1 : L2.St} {Γ Γ1 : List Sl} (s1 : S G F M0 M1 H1 σ1 Γ1) (s : S G F M1 M H σ Γ) : S G F M0 M H σ Γ := by
  obtain ⟨as1, f1, _⟩ := s1
  obtain ⟨as, f, sa⟩ := s
  exact ⟨as, ⟨f.fh, f1.mm.trans f.mm, f.mh, fun x z => by
    rcases f.nw x z with q | q
    · exact f1.nw x q
    · exact .inr q, f.nd, f.fa, f.ma⟩, sa⟩
theorem S.mm {G : Ctx} {F M0 M H : Hp} {σ : L2.St} {Γ : List Sl} (s : S G F M0 M H σ Γ) : Same M0 M := by
  obtain ⟨as, f, sa⟩ := s
  exact f.mm
theorem S.drop {G : Ctx} {F M0 M H : Hp} {σ : L2.St} {v : Option V} {t : T} {Γ : List Sl} (s : S G F M0 M H (v :: σ) (.ow t :: Γ)) : S G F M0 M H σ Γ := by
  obtain ⟨as, f, w, r, a1, a2, e1, e2, o, sa⟩ := s
  cases e1
  subst e2
  exact ⟨a2, ⟨f.fh, f.mm, f.mh, f.nw, (List.nodup_append.mp f.nd).2.1, fun a ha => f.fa a (List.mem_append_right _ ha), fun a ha => f.ma a (List.mem_append_right _ ha)⟩, sa⟩
theorem S.head {G : Ctx} {F M0 M H : Hp} {σ : L2.St} {v : V} {t : T} {Γ : List Sl} (s : S G F M0 M H (some v :: σ) (.ow t :: Γ)) : ∃ as, Own G M H t v as := by
  obtain ⟨as, f, w, r, a1, a2, e1, e2, o, sa⟩ := s
  cases e1
  exact ⟨a1, o⟩
/-- a + b, where b changes slots and a is shared -/
theorem dx_cat {ei : β → D} {Γ' : γ → List Sl} {ma : R (List β)} {mb : R γ} {em : γ → T} (g : γ → List β) (ha : DD X W Γ a (fun xs => .lst (xs.map ei)) ma) (hb : DX X W Γ b Γ' em mb) (he : ∀ y, em y = .lst ((g y).map fun x => .imm (ei x)) := by intro _; rfl) :
    DX X W Γ (.BinOp a .Add b pos) (fun p => Γ' p.1) (fun p : γ × List β => .lst (p.2.map fun x => .imm (ei x))) (ma >>= fun xs => mb >>= fun y => ofO (catO xs (g y)) >>= fun zs => .ok (y, zs)) :=
  dmk ⟨_, pe_op op_cat (pe_w X a) (pe_w X b), fun F M0 M H σ Q s po => ha F M0 M H σ _ s (po.bind.imp (fun xs _ k v0 M1 H1 g1 r0 => by
    obtain ⟨p, vs, rfl, hp, r1⟩ := r0
    have s1 := s.grow g1
    refine hb F M1 M1 H1 σ _ s1.now (k.bind.imp (fun y _ k v M2 H2 s2 => ?_) fun c z M2 H2 s2 => z M2 H2 (s1.ago s2))
    obtain ⟨z, ez, k⟩ := k.bind.ofO
    have mm := s2.mm
    have s3 := s1.ago s2.front
    obtain ⟨as, o⟩ := s2.head
    rw [he y] at o
    obtain ⟨q, ws, r, rfl, _, hq, ow⟩ := o
    rw [map_imm] at ow
    have r2 := (Owns.of_imm ow).1
    unfold catO at ez
    by_cases hc : xs.length + (g y).length ≤ 16777216
    · rw [if_pos hc] at ez
      cases ez
      refine ⟨p, q, vs, ws, rfl, rfl, s3.mh _ _ (mm _ _ hp), hq, ?_, new_list (.refl s3.mh) (ds := xs.map ei ++ (g y).map ei) ((Reps.mono mm _ _ r1).app r2) ?_⟩
      · rw [r1.len, r2.len, List.length_map, List.length_map, sizeLine_eq]; exact hc
      · rw [← List.map_append, ← map_imm]
        intro v' M' H' as' g' o' nd fr
        exact k v' M' H' (s3.cons g' o' nd fr)
    · rw [if_neg hc] at ez; cases ez) fun c z M' H' g => z M' H' (s.grow g))⟩
/-! tests that change slots -/
abbrev DWX (X : Cx) (W : WX) (Γ : List Sl) (e : Expr) {β : Type} (Γ' : β → List Sl) (m : R (Bool × β)) : Prop :=
  JQ X Γ (wW X e) fun F M0 M H σ Q => Po m (fun x => ∀ M' H', S X.G F M0 M' H' σ (Γ' x.2) → Q x.1 H') (fun c => ∀ M' H', S X.G F M0 M' H' σ Γ → Er X.G W c σ H')
abbrev DTX (X : Cx) (W : WX) (Γ : List Sl) (e : Expr) {β : Type} (Γ' : β → List Sl) (m : R (Bool × β)) : Prop :=
  JQ X Γ (wT X e) fun F M0 M H σ Q => Po m (fun x => ∀ M' H', S X.G F M0 M' H' σ (Γ' x.2) → Q x.1 H') (fun c => ∀ M' H', S X.G F M0 M' H' σ Γ → Er X.G W c σ H')
theorem dtx_dwx {Γ' : β → List Sl} {m : R (Bool × β)} (h : DWX X W Γ e Γ' m) : DTX X W Γ e Γ' m := by
  have p := pw_w X e; have q := h
  exact tmk ⟨_, p.pt, q⟩
theorem dwx_or {m : R Bool} {n : R (Bool × β)} {rest : List Expr} {Γ' : β → List Sl} {Γ2 : Option β → List Sl} (h : DT X W Γ a m) (k : DWX X W Γ (.BoolOp .Or (b :: rest) pos) Γ' n) (h0 : Γ2 none = Γ := by rfl) (h1 : ∀ y, Γ2 (some y) = Γ' y := by intro _; rfl) : DWX X W Γ (.BoolOp .Or (a :: b :: rest) pos) Γ2 (m >>= fun x => if x then .ok (true, none) else n >>= fun p => .ok (p.1, some p.2)) := by
  have p := pt_w X a; have q := h
  have p' := pw_w X (.BoolOp .Or (b :: rest) pos); have q' := k
  refine wmk ⟨_, pw_or p p', fun F M0 M H σ Q s po => q F M0 M H σ _ s (po.bind.imp (fun x _ k M' H' g => ?_) fun c z M' H' g => z M' H' (s.grow g))⟩
  cases x with
  | false => exact q' F M0 M' H' σ _ (s.grow g) (Po.imp (Po.bind k) (fun y _ z M2 H2 s2 => z M2 H2 (by show S _ _ _ _ _ _ (Γ2 (some y.2)); rw [h1]; exact s2)) fun c z M2 H2 s2 => z M2 H2 s2)
  | true => exact k M' H' (by show S _ _ _ _ _ _ (Γ2 none); rw [h0]; exact s.grow g)
theorem bk_ifDX {ω : Type} {A rest : List Stmt} {κ : ω → Kd} {Γ' : β → List Sl} {mc : R (Bool × β)} {mA mB : β → R ω} (hc : DTX X W Γ c Γ' mc) (ha : ∀ y, Bk X W Γe (Γ' y) A (fun o => (κ o).ex) (mA y)) (hb : ∀ y, Bk X W Γe (Γ' y) rest κ (mB y)) (hw : Wk Γe Γ) :
    Bk X W Γe Γ (.If c A [] pos :: rest) κ (mc >>= fun p => if p.1 then mA p.2 else mB p.2) :=
  bmk ⟨_, pss_cons (ps_if (pt_w X c) (pss_w X A) pss_nil) (pss_w X rest), fun F M0 M H σ D s po => hc F M0 M H σ _ s (po.bind.imp (fun x _ q M' H' s' => by
    obtain ⟨b, y⟩ := x
    cases b with
    | true => exact ha y F M0 M' H' σ _ s' (Po.imp q (fun o _ q => ⟨fun Γ e => (nomatch e), fun t Γ e => Kn.rt q t Γ e, fun Γ e => Kn.bk q Γ e, fun Γ e => Kn.ct q Γ e⟩) fun _ z => z)
    | false => exact hb y F M0 M' H' σ D s' q) fun c z => er_wkS hw z)⟩
theorem dtx_ne {ema : α → T} {ea : α → D} {eb : γ → D} {Γ' : α → List Sl} {ma : R α} {mb : R γ} {b0 : γ} (hu : X.A.units + 64 < cLine) (ha : DX X W Γ a Γ' ema ma) (hfz : ∀ x, fz (ema x) = ea x) (hb : ∀ x, DE X W (Γ' x) b eb mb) (hm : mb = .ok b0 := by rfl) :
    DTX X W Γ (.Compare a [.NotEq] [b] pos) Γ' (ma >>= fun x => ofO ((eqO (ea x) (eb b0)).map (true != ·)) >>= fun c => .ok (c, x)) := by
  subst hm
  refine tmk ⟨_, pt_cmpR (op_neD hu) (pe_w X a) (pe_w X b) (nomark _), fun F M0 M H σ Q s po => ha F M0 M H σ _ s (po.bind.imp (fun x _ k v M1 H1 s1 => ?_) fun _ z => z)⟩
  obtain ⟨as, o⟩ := s1.head
  have mh : Same M1 H1 := by obtain ⟨_, f, _⟩ := s1; exact f.mh
  refine hb x F M0 M1 H1 σ _ s1.front (fun w M2 H2 g2 p2 => ?_)
  obtain ⟨z, e, k⟩ := (Po.bind k).ofO
  cases q : eqO (ea x) (eb b0) with
  | none => rw [q] at e; cases e
  | some k' =>
    rw [q] at e
    cases e
    obtain ⟨e1, e2, rfl⟩ := eqO_some q
    refine ⟨_, _, ?_, p2 H2 (.refl _) (SeqAt.canLay_of_shaped e2), e1, e2, _, rfl, ?_⟩
    · have r := Own.freeze (M' := H1) mh _ _ _ (fun a _ o e => e) o
      rw [hfz] at r
      exact Rep.dp (G := X.G) g2.hh _ _ (SeqAt.canLay_of_shaped e1) r
    · have : Q (true != PyData.eqv (toPy (ea x)) (toPy (eb b0))) H2 := k M2 H2 (s1.front.grow g2)
      rw [Bool.true_bne] at this
      exact this
theorem dwx_one {Γ' : β → List Sl} {m : R (Bool × β)} (h : DTX X W Γ e Γ' m) : DWX X W Γ (.BoolOp .Or [e] pos) Γ' m := by
  have p := pt_w X e; have q := h
  exact wmk ⟨_, pw_or1 p, q⟩
end
end Cn
/-! CnN: methods of objects just made -/
namespace Cn
open PySem PySem.Spec L2 PyProof.Rows
section
variable {X : Cx} {W : WX} {Γe Γ : List Sl} {a b e c : Expr} {es : List Expr} {α β γ ρ ξ : Type} {pos : Pos}
theorem nd_one (i : Nat) : [i].Nodup := by simp
theorem agvs_dt {G : Ctx} {M H : Hp} {σ : L2.St} : ∀ {ds : List D} {vs : List V}, Reps G M ds vs → AgVs G M H σ (ds.map .dt) vs
  | [], vs, h => h
  | d :: ds, vs, ⟨v, r, h1, h2, h3⟩ => ⟨v, r, h1, h2, agvs_dt h3⟩
theorem agok_dt {Γ : List Sl} : ∀ {ds : List D}, AgOk Γ (ds.map .dt)
  | [] => trivial
  | _ :: ds => agok_dt (ds := ds)
theorem agsl_dt : ∀ {ds : List D}, agSlots (ds.map .dt) = []
  | [] => rfl
  | _ :: ds => agsl_dt (ds := ds)
theorem putb_dt {Γ : List Sl} {us : List T} : ∀ {ds : List D}, putBack Γ (ds.map .dt) us = Γ
  | [] => rfl
  | _ :: ds => putb_dt (ds := ds)
/-- C(..).m(e, ..) with an object that is dropped behind it -/
theorem df_newMeth {k : Nat} {f C : Addr} {fd : FuncData} {ps : List Str} {n mt : Str} {apos : Pos} {o : Expr} {fs : List Str} {ts : β → List T} {eb : β → T} {mo : R β} {args : α → List Ar} {er : ρ → T} {post : ρ → List T} {g : α → R ρ} {ds : ξ → List D} {m : R ξ}
    (cv : β → ξ → α) (Fk : FnOk X.prog X.w X.K X.mg X.base (L2.CX X.prog X.w) k f fd ps (SpG X.G args er post g)) (hr : Room k X.A) (cf : ClF X n C) (hm : Meth X.K C mt f) (hb : Binds X.K fd ps [])
    (tk : Takes X W) (ho : ∀ Γ, DX X W Γ o (fun _ => Γ) eb mo) (ha : DA X W Γ (e :: es) ds m) (hcv : ∀ x y, args (cv x y) = .tr (eb x) :: (ds y).map .dt := by intro _ _; rfl) (hps : ∀ r, ∃ u us, post r = u :: us := by intro _; exact ⟨_, _, rfl⟩)
    (hob : ∀ y, eb y = .obj n fs (ts y) := by intro _; rfl) (hf : fs.contains mt = false := by decide)
    (he : starEach (e :: es) X.env = (false, eval e X.env) :: starEach es X.env := by exact star_cons rfl) (hpl : (backTo pos (starEach es X.env)).any (·.1) = false := by exact star_none rfl)
    (pl : Sem Bool) (hev : eval (.Call (.Attribute o mt apos) (e :: es) [] pos) X.env = (do
      let ov ← eval o X.env
      standAt apos.atName
      let (f, first) ← holding [ov] (getMethod ov mt pl)
      callWith pos f first (backTo pos (starEach (e :: es) X.env)) (backToKw pos (keywordEach [] X.env))) := by rfl) :
    DF X W Γ (.Call (.Attribute o mt apos) (e :: es) [] pos) (fun r => er r) (mo >>= fun x => m >>= fun y => g (cv x y)) :=
  dmk ⟨_, pe_methP (pl := pl) (pe_w X o) cf.c hm Fk hr hb (fun σ => passAt tk σ) (pa_w X (e :: es)) he hpl hev, fun F M0 M H σ Q s po =>
    ho (List.replicate σ.length .un) H M M H σ _ ⟨[], ⟨.refl _, .refl _, s.mh, fun _ z => .inl z, List.nodup_nil, (fun _ z => nomatch z), (fun _ z => nomatch z)⟩, sat_un σ⟩ (po.bind.imp (fun x _ q v M1 H1 sx => by
    obtain ⟨as1, o1⟩ := sx.head
    rw [hob] at o1
    obtain ⟨ad, c0, dx, kvs, r, rfl, q2, q3, q4, q5, q6⟩ := o1
    have z3 : X.mg n = some (.ref c0) := q3
    rw [cf.g] at z3
    cases z3
    have g1 : Gr M H M1 H1 := by
      obtain ⟨as, f, _⟩ := sx
      exact ⟨f.fh, f.mm, f.mh, f.nw⟩
    refine ⟨ad, dx, kvs, rfl, q4, lookup_no (by rw [q5]; exact hf), ha F M0 M1 H1 σ _ (s.grow g1) (q.bind.imp (fun y _ q vs M2 H2 g2 av => ?_) fun c z M' H' g => z M' H' (g1.trans g))⟩
    have s2 := sx.grow g2
    have ok : AgOk (.ow (eb x) :: List.replicate σ.length .un) (Ag.pt 0 [] (.ow (eb x)) (eb x) (eb x) :: (ds y).map .dt) := ⟨rfl, rfl, rfl, agok_dt⟩
    have nd0 : (agSlots (Ag.pt 0 [] (.ow (eb x)) (eb x) (eb x) :: (ds y).map .dt)).Nodup := by
      show (0 :: agSlots ((ds y).map .dt)).Nodup
      rw [agsl_dt]; simp
    have ear : (Ag.pt 0 [] (.ow (eb x)) (eb x) (eb x) :: (ds y).map Ag.dt).map Ag.ar = args (cv x y) := by
      rw [hcv]
      show Ar.tr (eb x) :: ((ds y).map Ag.dt).map Ag.ar = _
      rw [List.map_map]; rfl
    obtain ⟨as, o, nd, ma, kk⟩ := s2.called (ags := .pt 0 [] (.ow (eb x)) (eb x) (eb x) :: (ds y).map .dt) (vs := .ref ad :: vs) ok nd0 ⟨.ref ad, vs, .ref ad, rfl, rfl, rfl, agvs_dt av⟩
    rw [ear] at o kk
    refine ⟨cv x y, M2, as, g2.mh, o, nd, ma, q.imp (fun r _ q v M' H' bs cs c ow os nw => ?_) fun c z M' H' cs ch os nw C hC => ?_⟩
    · have s3 := kk M' H' (post r) bs cs v (er r) c ow os nw
      obtain ⟨u, us, eu⟩ := hps r
      rw [eu] at s3
      have e2 : putBack (.ow (eb x) :: List.replicate σ.length .un) (Ag.pt 0 [] (.ow (eb x)) (eb x) (eb x) :: (ds y).map .dt) (u :: us) = .ow u :: List.replicate σ.length .un := putb_dt
      rw [e2] at s3
      obtain ⟨as', f, v', r', a1, a2, e1, e2, o, _⟩ := s3.second
      cases e1
      subst e2
      exact q v M' H' a1 ⟨f.fh, f.mm, f.mh, f.nw⟩ o (List.nodup_append.mp f.nd).1 fun a ha => ⟨f.fa a (List.mem_append_left _ ha), f.ma a (List.mem_append_left _ ha)⟩
    · have s3 := kk M' H' (trs (args (cv x y))) [] cs .non (.imm .non) ch ⟨rfl, rfl⟩ (by rw [fill_self]; exact os) nw
      obtain ⟨as', f, _⟩ := s3
      exact z M' H' ⟨f.fh, f.mm, f.mh, f.nw⟩ C hC) fun c z M' H' sx => z M' H' (by
    obtain ⟨as, f, _⟩ := sx
    exact ⟨f.fh, f.mm, f.mh, f.nw⟩))⟩
end
end Cn
/-! CnO: in of tuples, what is known not to be None, items of lists as targets, tests that change slots at their head -/
namespace Cn
open PySem PySem.Spec L2 PyProof.Rows
section
variable {X : Cx} {W : WX} {Γe Γ : List Sl} {a b e c tg : Expr} {es : List Expr} {α β γ ρ ξ : Type} {pos : Pos}
/-! in, of a tuple of ints -/
theorem dd_inT {m : R Int} {n : R (List Int)} (ha : DD X W Γ a D.int m) (hb : DD X W Γ b (fun xs => .tup (xs.map D.int)) n) (h1 : behindInMarks .In b = false := by rfl) : DD X W Γ (.Compare a [.In] [b] pos) D.bl (m >>= fun i => n >>= fun xs => .ok (decide (i ∈ xs))) :=
  dmk ⟨_, pe_cmpR op_in_seq (pe_w X a) (pe_w X b) h1, fun F M0 M H σ Q s po => ha F M0 M H σ _ s (po.bind.imp (fun i _ q v M1 H1 g r => hb F M0 M1 H1 σ _ (s.grow g) (q.bind.imp (fun xs _ k w M2 H2 g2 rw => by
    obtain ⟨p, vs, rfl, hq, r2⟩ := rw
    rw [show v = .int i from r]
    refine ⟨p, vs, rfl, .inr (same_sqt g2.mh hq), rfl, ?_, ?_⟩
    · rw [reps_ints r2]; exact flat_ints xs
    · rw [reps_ints r2]
      show Q (.bl (if false = true then _ else inV (.int i) (xs.map V.int))) H2
      rw [if_neg (by decide), inV_ints]
      exact k (.bl (decide (i ∈ xs))) M2 H2 (g.trans g2) rfl) fun c z M' H' g2 => z M' H' (g.trans g2))) fun _ z => z)⟩
theorem dd_ninT {m : R Int} {n : R (List Int)} (ha : DD X W Γ a D.int m) (hb : DD X W Γ b (fun xs => .tup (xs.map D.int)) n) (h1 : behindInMarks .NotIn b = false := by rfl) : DD X W Γ (.Compare a [.NotIn] [b] pos) D.bl (m >>= fun i => n >>= fun xs => .ok (!decide (i ∈ xs))) :=
  dmk ⟨_, pe_cmpR op_notIn_seq (pe_w X a) (pe_w X b) h1, fun F M0 M H σ Q s po => ha F M0 M H σ _ s (po.bind.imp (fun i _ q v M1 H1 g r => hb F M0 M1 H1 σ _ (s.grow g) (q.bind.imp (fun xs _ k w M2 H2 g2 rw => by
    obtain ⟨p, vs, rfl, hq, r2⟩ := rw
    rw [show v = .int i from r]
    refine ⟨p, vs, rfl, .inr (same_sqt g2.mh hq), rfl, ?_, ?_⟩
    · rw [reps_ints r2]; exact flat_ints xs
    · rw [reps_ints r2]
      show Q (.bl (if true = true then !inV (.int i) (xs.map V.int) else _)) H2
      rw [if_pos rfl, inV_ints]
      exact k (.bl (!decide (i ∈ xs))) M2 H2 (g.trans g2) rfl) fun c z M' H' g2 => z M' H' (g.trans g2))) fun _ z => z)⟩
theorem dt_inT {m : R Int} {n : R (List Int)} (ha : DD X W Γ a D.int m) (hb : DD X W Γ b (fun xs => .tup (xs.map D.int)) n) (h1 : behindInMarks .In b = false := by rfl) : DT X W Γ (.Compare a [.In] [b] pos) (m >>= fun i => n >>= fun xs => .ok (decide (i ∈ xs))) :=
  tmk ⟨_, pt_cmpR op_in_seq (pe_w X a) (pe_w X b) h1, fun F M0 M H σ Q s po => ha F M0 M H σ _ s (po.bind.imp (fun i _ q v M1 H1 g r => hb F M0 M1 H1 σ _ (s.grow g) (q.bind.imp (fun xs _ k w M2 H2 g2 rw => by
    obtain ⟨p, vs, rfl, hq, r2⟩ := rw
    rw [show v = .int i from r]
    refine ⟨p, vs, rfl, .inr (same_sqt g2.mh hq), rfl, ?_, decide (i ∈ xs), ?_, k M2 H2 (g.trans g2)⟩
    · rw [reps_ints r2]; exact flat_ints xs
    · rw [reps_ints r2]
      show V.bl (if false = true then _ else inV (.int i) (xs.map V.int)) = _
      rw [if_neg (by decide), inV_ints]) fun c z M' H' g2 => z M' H' (g.trans g2))) fun _ z => z)⟩
theorem dt_ninT {m : R Int} {n : R (List Int)} (ha : DD X W Γ a D.int m) (hb : DD X W Γ b (fun xs => .tup (xs.map D.int)) n) (h1 : behindInMarks .NotIn b = false := by rfl) : DT X W Γ (.Compare a [.NotIn] [b] pos) (m >>= fun i => n >>= fun xs => .ok (!decide (i ∈ xs))) :=
  tmk ⟨_, pt_cmpR op_notIn_seq (pe_w X a) (pe_w X b) h1, fun F M0 M H σ Q s po => ha F M0 M H σ _ s (po.bind.imp (fun i _ q v M1 H1 g r => hb F M0 M1 H1 σ _ (s.grow g) (q.bind.imp (fun xs _ k w M2 H2 g2 rw => by
    obtain ⟨p, vs, rfl, hq, r2⟩ := rw
    rw [show v = .int i from r]
    refine ⟨p, vs, rfl, .inr (same_sqt g2.mh hq), rfl, ?_, !decide (i ∈ xs), ?_, k M2 H2 (g.trans g2)⟩
    · rw [reps_ints r2]; exact flat_ints xs
    · rw [reps_ints r2]
      show V.bl (if true = true then !inV (.int i) (xs.map V.int) else _) = _
      rw [if_pos rfl, inV_ints]) fun c z M' H' g2 => z M' H' (g.trans g2))) fun _ z => z)⟩
theorem opt_imm (e : α → D) (x : Option α) : T.imm (eOpt e x) = eOptT (fun x => .imm (e x)) x := by cases x <;> rfl
/-! what is known not to be None -/
theorem df_the {emb : α → T} {m : R (Option α)} (h : DF X W Γ e (eOptT emb) m) : DF X W Γ e emb (m >>= fun o => optK o .bad .ok) := ⟨fun F M0 M H σ Q s po => h F M0 M H σ Q s (po.bind.imp (fun o _ k => by
  cases o with
  | none => exact k.elim
  | some x => exact k) fun _ z => z)⟩
theorem dd_the {emb : α → D} {m : R (Option α)} (h : DD X W Γ e (eOpt emb) m) : DD X W Γ e emb (m >>= fun o => optK o .bad .ok) := ⟨fun F M0 M H σ Q s po => h F M0 M H σ Q s (po.bind.imp (fun o _ k => by
  cases o with
  | none => exact k.elim
  | some x => exact k) fun _ z => z)⟩
/-! an item of a list as a target; the place is written out -/
theorem dgx_ixc {xs ys : List Int} {x j : Int} {n : Str} {p ps pc : Pos} {jc} (i : Nat) (h : Γ[i]? = some (.ow (.lst (xs.map fun x => .imm (.int x))))) (hs : setO xs j x = some ys) (hN : X.N[i]? = some n := by rfl) (hv : Vis X.env.scope n := by first | exact Or.inl rfl | exact Or.inr (Or.inl rfl) | exact Or.inr (Or.inr rfl))
    (hd : (n == ("__debug__" : Str)) = false := by decide) (hcd : (n == ("__classdict__" : Str)) = false := by decide)
    (ha : ∀ v, assign (.Subscript (.Name n p) (.Constant (.int j) jc pc) ps) X.env v = (do
      let ov ← holding [v] (eval (.Name n p) X.env)
      let iv ← holding [v, ov] (eval (.Constant (.int j) jc pc) X.env)
      standAt ps
      holding [v, ov, iv] (setItem ov iv v)
      release [v, ov, iv] []) := by intro _; rfl) :
    DGX X Γ (.Subscript (.Name n p) (.Constant (.int j) jc pc) ps) (Γ.set i (.ow (.lst (ys.map fun x => .imm (.int x))))) (.imm (.int x)) :=
  ⟨_, pg_sub (pe_var hN hv hd hcd) pe_int set_list ha, fun F M0 M H σ v vs ts Q hlen s q => by
    rw [own_is] at h
    have h' : (ts.map Sl.ow ++ Γ)[ts.length + i]? = some (.ow (.lst ((xs.map D.int).map .imm))) := by rw [List.getElem?_append_right (by rw [List.length_map]; omega), List.length_map, Nat.add_sub_cancel_left]; exact h
    obtain ⟨as, o⟩ := s.head
    have rv : Rep X.G M (.int x) v := o.2
    obtain ⟨a, ws, h1, h2, h3, h4⟩ := s.front.lset h'
    have e1 : σ[i]? = some (some (.ref a)) := by
      rw [List.getElem?_append_right (by rw [List.length_map]; omega), List.length_map, hlen, Nat.add_sub_cancel_left] at h1
      exact h1
    refine ⟨_, e1, ?_⟩
    unfold setO at hs
    cases qi : ixN xs.length j with
    | none => rw [qi] at hs; cases hs
    | some l =>
      rw [qi] at hs
      cases hs
      refine ⟨a, ws, j, l, rfl, rfl, h2, by rw [h3.len, List.length_map]; exact qi, ?_⟩
      have s2 := h4 M H (ws.set l v) ((xs.map D.int).set l (.int x)) (.refl s.mh) (Reps.set rv l h3)
      rw [List.set_append_right _ _ (by rw [List.length_map]; omega), List.length_map, Nat.add_sub_cancel_left] at s2
      refine q M _ σ ?_
      rw [own_is, List.map_set (l := xs)]
      exact s2⟩
/-- tg1, tg2 = e1, e2, where the stores may fail -/
theorem st_tupC {tgs es : List Expr} {put : β → List Sl} {ets : α → List T} {m : R α} {ck : α → Option β} {k k2 : _} {pt pt2 : Pos} (hc : X.calm = true) (ha : DAF X W Γ es ets m) (hg : ∀ x z, ck x = some z → DGXs X Γ tgs (put z) (ets x)) (hw : Wk Γe Γ) (hn : ∀ x, (ets x).length = (assignEach tgs X.env).length := by intro _; rfl) (hz : ∀ x, Nat.ble (ets x).length 100000 = true := by intro _; rfl) (hst : (assignEach tgs X.env).findIdx? (·.1) = none := by rfl)
    (hs : swapsWithSole [.Tuple tgs k pt] (.Tuple es k2 pt2) pos.line X.env = pure false := by rfl) (hsw : swappedStores [.Tuple tgs k pt] (.Tuple es k2 pt2) X.env = pure none := by rfl)
    (h1 : (assignEach [.Tuple tgs k pt] X.env).map (·.2) = [assign (.Tuple tgs k pt) X.env] := by rfl) : St1 X W Γe Γ (.Assign [.Tuple tgs k pt] (.Tuple es k2 pt2) pos) (fun z => .n (put z)) (m >>= fun x => ofO (ck x)) := by
  cases m with
  | bad => exact ⟨fun F M0 M H σ D st po => po.elim⟩
  | err c =>
    exact smk ⟨_, ps_asg (pe_tup (pa_w X es)) (pg_w X (.Tuple tgs k pt)) hs hsw h1, fun F M0 M H σ D st po => ha F M0 M H σ _ st (show Po (R.err c) _ _ from fun M' H' g => er_wk st hw po M' H' g)⟩
  | ok x =>
    cases ec : ck x with
    | none => exact ⟨fun F M0 M H σ D st po => by
        have po : Po (ofO (ck x)) _ _ := po
        rw [ec] at po
        exact po.elim⟩
    | some z =>
      obtain ⟨g, pg, hgr⟩ := hg x z ec
      refine smk ⟨_, ps_asg (pe_tup (pa_w X es)) (pg_tup hc pg rfl hst) hs hsw h1, fun F M0 M H σ D st po => ha F M0 M H σ _ st (show Po (R.ok x) _ _ from fun vs M1 H1 as g1 o nd fr => ?_)⟩
      have po : Po (ofO (ck x)) _ _ := po
      rw [ec] at po
      have th : ∀ b ∈ as, H1 b ≠ none := Owns.there _ _ _ o
      refine ⟨by rw [o.len]; exact small_len (Nat.le_of_ble_eq_true (hz x)), fun p hp => ?_⟩
      have mp : M1 p = none := by
        cases e : M1 p with
        | none => rfl
        | some u => rw [g1.mh p u e] at hp; cases hp
      have gp : Gr M1 H1 M1 (upd H1 p (.tup vs)) := ⟨fun b u e => by rw [upd_ne (ne_of_none e hp)]; exact e, .refl _, fun b u e => by rw [upd_ne (ne_of_none e mp)]; exact g1.mh b u e, fun _ z => .inl z⟩
      have s2 := (st.conss g1 o nd fr).grow gp
      exact ⟨p, vs, rfl, .inl (.inl upd_same), by rw [o.len, hn], hgr F M0 M1 _ σ vs _ o.len s2 fun M2 H2 σ2 s3 => Kn.nx po _ rfl M2 H2 σ2 s3⟩
/-! a test whose first part changes slots -/
theorem dwx_orX {m : R (Bool × β)} {n : β → R Bool} {rest : List Expr} {Γ' : β → List Sl} (h : DTX X W Γ a Γ' m) (k : ∀ y, DW X W (Γ' y) (.BoolOp .Or (b :: rest) pos) (n y)) : DWX X W Γ (.BoolOp .Or (a :: b :: rest) pos) Γ' (m >>= fun p => if p.1 then .ok (true, p.2) else noErr (n p.2) >>= fun c => .ok (c, p.2)) := by
  have p := pt_w X a; have q := h
  have p' := pw_w X (.BoolOp .Or (b :: rest) pos)
  refine wmk ⟨_, pw_or p p', fun F M0 M H σ Q s po => q F M0 M H σ _ s (po.bind.imp (fun x _ z M' H' s' => ?_) fun c z M' H' s' => z M' H' s')⟩
  obtain ⟨t, y⟩ := x
  cases t with
  | false =>
    have z : Po (noErr (n y) >>= fun c => .ok (c, y)) _ _ := z
    exact k y F M0 M' H' σ _ s' (z.bind.noErr.imp (fun c _ z M2 H2 g2 => z M2 H2 (s'.grow g2)) fun _ z => z.elim)
  | true => exact z M' H' s'
/-! == and and, as values -/
theorem dx_eq {ema : α → T} {ea : α → D} {eb : γ → D} {Γ' : α → List Sl} {ma : R α} {mb : R γ} {b0 : γ} (hu : X.A.units + 64 < cLine) (ha : DX X W Γ a Γ' ema ma) (hfz : ∀ x, fz (ema x) = ea x) (hb : ∀ x, DE X W (Γ' x) b eb mb) (hm : mb = .ok b0 := by rfl) :
    DX X W Γ (.Compare a [.Eq] [b] pos) (fun r : α × Bool => Γ' r.1) (fun r : α × Bool => .imm (.bl r.2)) (ma >>= fun x => ofO ((eqO (ea x) (eb b0)).map (false != ·)) >>= fun c => .ok (x, c)) := by
  subst hm
  refine dmk ⟨_, pe_cmpR (op_eqD hu) (pe_w X a) (pe_w X b) (nomark _), fun F M0 M H σ Q s po => ha F M0 M H σ _ s (po.bind.imp (fun x _ k v M1 H1 s1 => ?_) fun _ z => z)⟩
  obtain ⟨as, o⟩ := s1.head
  have mh : Same M1 H1 := by obtain ⟨_, f, _⟩ := s1; exact f.mh
  refine hb x F M0 M1 H1 σ _ s1.front (fun w M2 H2 g2 p2 => ?_)
  obtain ⟨z, e, k⟩ := (Po.bind k).ofO
  cases q : eqO (ea x) (eb b0) with
  | none => rw [q] at e; cases e
  | some k' =>
    rw [q] at e
    cases e
    obtain ⟨e1, e2, rfl⟩ := eqO_some q
    refine ⟨_, _, ?_, p2 H2 (.refl _) (SeqAt.canLay_of_shaped e2), e1, e2, ?_⟩
    · have r := Own.freeze (M' := H1) mh _ _ _ (fun a _ o e => e) o
      rw [hfz] at r
      exact Rep.dp (G := X.G) g2.hh _ _ (SeqAt.canLay_of_shaped e1) r
    · exact k _ M2 H2 ((s1.front.grow g2).consD (by
        show V.bl (PyData.eqv (toPy (ea x)) (toPy (eb b0))) = V.bl (false != PyData.eqv (toPy (ea x)) (toPy (eb b0)))
        rw [Bool.false_bne]))
theorem dx_and {ma : R (α × Bool)} {Γ' : α → List Sl} {n : α → R Bool} {rest : List Expr} (h : DX X W Γ a (fun r : α × Bool => Γ' r.1) (fun r : α × Bool => .imm (.bl r.2)) ma) (k : ∀ y, DD X W (Γ' y) (.BoolOp .And (b :: rest) pos) D.bl (n y)) :
    DX X W Γ (.BoolOp .And (a :: b :: rest) pos) (fun r : α × Bool => Γ' r.1) (fun r : α × Bool => .imm (.bl r.2)) (ma >>= fun r => (if r.2 then noErr (n r.1) else .ok false) >>= fun c => .ok (r.1, c)) := by
  have p := pe_w X a; have q := h
  have p' := pe_w X (.BoolOp .And (b :: rest) pos)
  refine dmk ⟨_, pe_and p p', fun F M0 M H σ Q s po => q F M0 M H σ _ s (po.bind.imp (fun x _ z v M' H' s' => ?_) fun _ z => z)⟩
  obtain ⟨y, t⟩ := x
  obtain ⟨as, o⟩ := s'.head
  refine ⟨t, o.2, ?_⟩
  cases t with
  | true =>
    have z : Po (noErr (n y) >>= fun c => .ok (y, c)) _ _ := z
    exact k y F M0 M' H' σ _ s'.front (z.bind.noErr.imp (fun c _ z v M2 H2 g2 r2 => z v M2 H2 ((s'.front.grow g2).consD r2)) fun _ z => z.elim)
  | false =>
    have ev : v = .bl false := o.2
    subst ev
    exact z _ M' H' s'
end
end Cn
/-! CnP: dicts with int keys; a tree seen as data for a while; items of lists of trees -/
namespace Cn
open PySem PySem.Spec L2 PyProof.Rows
def eDic {β : Type} (ei : β → D) (kvs : List (Int × β)) : D := .dic (kvs.map fun p => .inl p.1) (kvs.map fun p => ei p.2)
def tDic {β : Type} (ei : β → D) (kvs : List (Int × β)) : T := .dic (kvs.map fun p => .inl p.1) (kvs.map fun p => .imm (ei p.2))
theorem fz_dic {β : Type} {ei : β → D} (kvs : List (Int × β)) : fz (tDic ei kvs) = eDic ei kvs := by
  show D.dic _ (fzs (kvs.map fun p => .imm (ei p.2))) = D.dic _ _
  congr 1
  induction kvs with
  | nil => rfl
  | cons p kvs ih => rw [List.map_cons, List.map_cons]; exact congrArg (ei p.2 :: ·) ih
/-- d[k] = x -/
def putD {β : Type} (kvs : List (Int × β)) (k : Int) (x : β) : List (Int × β) := if kvs.any (fun p => decide (p.1 = k)) then kvs.map fun p => if p.1 = k then (p.1, x) else p else kvs ++ [(k, x)]
def putDO {β : Type} (kvs : List (Int × β)) (k : Int) (x : β) : Option (List (Int × β)) := if kvs.length < 16777216 then some (putD kvs k x) else none
def getD_ {β : Type} (kvs : List (Int × β)) (k : Int) : Option β := (kvs.find? fun p => decide (p.1 = k)).map (·.2)
theorem fz_lists {α : Type} {ε : α → D} (xs : List (List α)) : fz (.lst (xs.map fun x => .lst (x.map fun y => .imm (ε y)))) = .lst (xs.map fun x => .lst (x.map ε)) := by
  show D.lst (fzs (xs.map fun x => .lst (x.map fun y => .imm (ε y)))) = _
  congr 1
  induction xs with
  | nil => rfl
  | cons x xs ih =>
    rw [List.map_cons, List.map_cons]
    show fz (.lst (x.map fun y => .imm (ε y))) :: fzs (xs.map fun x => .lst (x.map fun y => .imm (ε y))) = _
    rw [fz_list, ih]
/-- scalars -/
def Scal : D → Prop
  | .non => True
  | .bl _ => True
  | .int _ => True
  | .str _ => True
  | _ => False
theorem Scal.rep {G : Ctx} {M M' : Hp} {d : D} {v : V} (h : Scal d) (r : Rep G M d v) : Rep G M' d v := by
  cases d <;> first | exact h.elim | exact r
abbrev DK (X : Cx) (W : WX) (Γ : List Sl) (e : Expr) {β : Type} (ei : β → D) (m : R (List (Int × β))) : Prop :=
  JQ X Γ (wE X e) fun F M0 M H σ Q => Po m (fun kvs => ∀ a vs M' H', Gr M H M' H' → H' a = some (.dK vs) → vs.map (·.1) = kvs.map (fun p => (.inl p.1 : Key)) → Reps X.G M' (kvs.map fun p => ei p.2) (vs.map (·.2)) → Q (.ref a) H') (fun c => ∀ M' H', Gr M H M' H' → Er X.G W c σ H')
section
variable {X : Cx} {W : WX} {Γe Γ : List Sl} {a b e c tg : Expr} {es : List Expr} {α β γ ρ ξ ω : Type} {pos : Pos} {ss : List Stmt}
/-! a slot seen as data for a while -/
theorem gr_back {M M' M2 H H2 : Hp} (mh : Same M H) (g : Gr M' H M2 H2) : Gr M H M H2 := ⟨g.hh, .refl _, mh.trans g.hh, fun _ z => .inl z⟩
theorem dd_borrow {emb : α → D} {m : R α} {t : T} {d : D} (i : Nat) (h : Γ[i]? = some (.ow t)) (hd : fz t = d) (hE : DD X W (Γ.set i (.ow (.imm d))) e emb m) (hs : ∀ x, Scal (emb x) := by intro _; trivial) : DD X W Γ e emb m := ⟨fun F M0 M H σ Q s po => by
  subst hd
  obtain ⟨M', s'⟩ := s.freeze h
  exact hE F M0 M' H σ Q s' (po.imp (fun x _ k v M2 H2 g r => k v M H2 (gr_back s.mh g) ((hs x).rep r)) fun c z M2 H2 g => z M H2 (gr_back s.mh g))⟩
theorem dt_borrow {m : R Bool} {t : T} {d : D} (i : Nat) (h : Γ[i]? = some (.ow t)) (hd : fz t = d) (hE : DT X W (Γ.set i (.ow (.imm d))) e m) : DT X W Γ e m := ⟨fun F M0 M H σ Q s po => by
  subst hd
  obtain ⟨M', s'⟩ := s.freeze h
  exact hE F M0 M' H σ Q s' (po.imp (fun x _ k M2 H2 g => k M H2 (gr_back s.mh g)) fun c z M2 H2 g => z M H2 (gr_back s.mh g))⟩
/-! dicts that are read -/
theorem dk_own {ei : β → D} {m : R (List (Int × β))} (h : DB X W Γ e (tDic ei) m) : DK X W Γ e ei m := ⟨fun F M0 M H σ Q s po => h F M0 M H σ Q s (po.imp (fun x _ k v M' H' as g o => by
  obtain ⟨a, kvs, r, rfl, h1, h2, h3, h4⟩ := o
  have e : (x.map fun p => T.imm (ei p.2)) = (x.map fun p => ei p.2).map .imm := by rw [List.map_map]; rfl
  rw [e] at h4
  exact k a kvs M' H' g h2 h3 (Owns.of_imm h4).1) fun _ z => z)⟩
theorem dk_imm {ei : β → D} {m : R (List (Int × β))} (h : DD X W Γ e (eDic ei) m) : DK X W Γ e ei m := ⟨fun F M0 M H σ Q s po => h F M0 M H σ Q s (po.imp (fun x _ k v M' H' g r => by
  obtain ⟨a, kvs, rfl, h1, h2, h3⟩ := r
  exact k a kvs M' H' g (g.mh _ _ h1) h2 h3) fun _ z => z)⟩
theorem valV_lk {G : Ctx} {M : Hp} {ei : β → D} {k : Int} {x : β} : ∀ {kvs : List (Int × β)} {vs : List (Key × V)}, vs.map (·.1) = kvs.map (fun p => (.inl p.1 : Key)) → Reps G M (kvs.map fun p => ei p.2) (vs.map (·.2)) → getD_ kvs k = some x → ∃ v, valV vs (.inl k) = some v ∧ Rep G M (ei x) v
  | [], _, _, _, h => nomatch h
  | _ :: _, [], h, _, _ => nomatch h
  | (k', y) :: kvs, (w, v) :: vs, h1, ⟨v', r, h2, h3, h4⟩, h => by
    obtain ⟨e1, e2⟩ := List.cons.inj h1
    obtain ⟨e3, e4⟩ := List.cons.inj h2
    have e1 : w = .inl k' := e1
    subst e1
    have e3 : v = v' := e3
    subst e3
    have h4 : Reps G M (kvs.map fun p => ei p.2) r := h4
    rw [← e4] at h4
    unfold getD_ at h
    by_cases z : k' = k
    · subst z
      rw [List.find?_cons_of_pos (by simp)] at h
      have h : some y = some x := h
      cases h
      exact ⟨v, valV_pos rfl, h3⟩
    · rw [List.find?_cons_of_neg (by simpa using z)] at h
      obtain ⟨u, q1, q2⟩ := valV_lk e2 h4 h
      refine ⟨u, ?_, q2⟩
      rw [valV_neg (fun e => z (Sum.inl.inj e))]
      exact q1
theorem dd_dget {ei : β → D} {m : R (List (Int × β))} {n : R Int} (hu : X.A.units + 64 < cLine) (h : DK X W Γ a ei m) (hi : DD X W Γ b D.int n) (hs : NoSl b := by intro _ _; rfl) : DD X W Γ (.Subscript a b pos) ei (m >>= fun kvs => n >>= fun k => ofO (getD_ kvs k)) :=
  dmk ⟨_, pe_dget (by omega) (pe_w X a) (pe_w X b) hs, fun F M0 M H σ Q s po => h F M0 M H σ _ s (po.bind.imp (fun kvs _ q ad vs M1 H1 g1 h1 h2 h3 => hi F M0 M1 H1 σ _ (s.grow g1) (q.bind.imp (fun k _ q w M2 H2 g2 r2 => by
    obtain ⟨x, ex, q⟩ := q.ofO
    obtain ⟨v, q1, q2⟩ := valV_lk h2 (Reps.mono g2.mm _ _ h3) ex
    rw [show w = .int k from r2]
    refine ⟨ad, v, rfl, ?_, q v M2 H2 (g1.trans g2) q2⟩
    have := DGet.k (k := (.inl k : Key)) (g2.hh _ _ h1)
    rw [q1] at this
    exact this) fun c z M' H' g => z M' H' (g1.trans g))) fun _ z => z)⟩
theorem dd_lenD {ei : β → D} {m : R (List (Int × β))} {p : Pos} (h : DK X W Γ e ei m) (hm : X.mg "len" = none) (hg : Gl X "len" := by rfl) (hs : starEach [e] X.env = (false, eval e X.env) :: starEach [] X.env := by exact star_cons rfl) : DD X W Γ (.Call (.Name "len" p) [e] [] pos) D.int (m >>= fun xs => .ok (xs.length : Int)) :=
  dmk ⟨_, pe_callB call_lenD hg hm boot_len (pa_cons (pe_w X e) pa_nil (hs := hs)) (he := hs), fun F M0 M H σ Q s po => h F M0 M H σ _ s (po.bind.imp (fun xs _ k a vs M1 H1 g1 hl h2 h3 => ⟨a, vs, rfl, hl, k _ M1 H1 g1 (by
    have : vs.length = xs.length := by
      have := congrArg List.length h2
      rw [List.length_map, List.length_map] at this
      exact this
    rw [this]; rfl)⟩) fun _ z => z)⟩
/-- the keys in ascending order; fewer than 64 -/
def srtK {β : Type} (kvs : List (Int × β)) : Option (List Int) := if kvs.length < 64 then some ((kvs.map (·.1)).mergeSort (· ≤ ·)) else none
theorem srt_uniq {xs ys : List Int} (h : xs.Perm ys) (h1 : xs.Pairwise (· ≤ ·)) (h2 : ys.Pairwise (· ≤ ·)) : xs = ys := h.eq_of_pairwise (fun a b _ _ h k => Int.le_antisymm h k) h1 h2
theorem df_sortedD {ei : β → D} {m : R (List (Int × β))} {p : Pos} (hc : X.calm = true) (h : DK X W Γ e ei m) (hm : X.mg "sorted" = none) (hg : Gl X "sorted" := by rfl) (hs : starEach [e] X.env = (false, eval e X.env) :: starEach [] X.env := by exact star_cons rfl) : DF X W Γ (.Call (.Name "sorted" p) [e] [] pos) (fun xs => .lst (xs.map fun x => .imm (.int x))) (m >>= fun kvs => ofO (srtK kvs)) :=
  dmk ⟨_, pe_callB (call_sortedDI hc) hg hm boot_sorted (pa_cons (pe_w X e) pa_nil (hs := hs)) (he := hs), fun F M0 M H σ Q s po => h F M0 M H σ _ s (po.bind.imp (fun kvs _ k a vs M1 H1 g1 hl h2 h3 => by
    obtain ⟨z, ez, k⟩ := k.ofO
    unfold srtK at ez
    by_cases c : kvs.length < 64
    · rw [if_pos c] at ez
      cases ez
      refine ⟨a, vs, kvs.map (·.1), rfl, .inl hl, by rw [h2, List.map_map]; rfl, by rw [List.length_map]; exact c, fun ys p pm sr hp => ?_⟩
      have e : ys = (kvs.map (·.1)).mergeSort (· ≤ ·) := srt_uniq (pm.trans (List.mergeSort_perm _ _).symm) sr (by
        have := List.pairwise_mergeSort (le := fun a b : Int => decide (a ≤ b)) (fun a b c h k => by simp only [decide_eq_true_iff] at *; omega) (fun a b => by simp only [Bool.or_eq_true, decide_eq_true_iff]; omega) (kvs.map (·.1))
        simpa using this)
      subst e
      have ei' : ((kvs.map (·.1)).mergeSort (· ≤ ·)).map V.int = (((kvs.map (·.1)).mergeSort (· ≤ ·)).map V.int) := rfl
      refine new_list (ds := ((kvs.map (·.1)).mergeSort (· ≤ ·)).map D.int) g1 ?_ (by rw [← map_imm]; exact k) p hp
      exact ints_reps _
    · rw [if_neg c] at ez; cases ez) fun _ z => z)⟩
/-! dicts made and changed -/
theorem df_dict0 {ei : β → D} : DF X W Γ (.Dict [] [] pos) (tDic ei) (.ok ([] : List (Int × β))) := dmk ⟨_, pe_dnewK, fun F M0 M H σ Q s po p hp => by
  have mp : M p = none := by
    cases e : M p with
    | none => rfl
    | some u => rw [s.mh p u e] at hp; cases hp
  have gp : Gr M H M (upd H p (.dK [])) := ⟨fun b u e => by rw [upd_ne (ne_of_none e hp)]; exact e, .refl _, fun b u e => by rw [upd_ne (ne_of_none e mp)]; exact s.mh b u e, fun _ z => .inl z⟩
  exact po (.ref p) M _ [p] gp ⟨p, [], [], rfl, rfl, upd_same, rfl, ⟨rfl, rfl⟩⟩ (by simp) fun a ha => by rw [List.mem_singleton.mp ha]; exact ⟨hp, mp⟩⟩
theorem dk_any {k : Int} : ∀ {kvs : List (Int × β)} {vs : List (Key × V)}, vs.map (·.1) = kvs.map (fun p => (.inl p.1 : Key)) → (vs.any fun kv => decide (kv.1 = (.inl k : Key))) = kvs.any fun p => decide (p.1 = k)
  | [], [], _ => rfl
  | [], _ :: _, h => nomatch h
  | _ :: _, [], h => nomatch h
  | (k', y) :: kvs, (w, v) :: vs, h => by
    obtain ⟨e1, e2⟩ := List.cons.inj h
    have e1 : w = .inl k' := e1
    subst e1
    rw [List.any_cons, List.any_cons, dk_any e2]
    congr 1
    rw [decide_eq_decide]
    exact ⟨fun z => Sum.inl.inj z, fun z => congrArg Sum.inl z⟩
theorem dk_repl {G : Ctx} {M : Hp} {ei : β → D} {k : Int} {x : β} {v : V} (rv : Rep G M (ei x) v) : ∀ {kvs : List (Int × β)} {vs : List (Key × V)}, vs.map (·.1) = kvs.map (fun p => (.inl p.1 : Key)) → Reps G M (kvs.map fun p => ei p.2) (vs.map (·.2)) →
    (vs.map fun kv => if kv.1 = (.inl k : Key) then (kv.1, v) else kv).map (·.1) = (kvs.map fun p => if p.1 = k then (p.1, x) else p).map (fun p => (.inl p.1 : Key)) ∧ Reps G M ((kvs.map fun p => if p.1 = k then (p.1, x) else p).map fun p => ei p.2) ((vs.map fun kv => if kv.1 = (.inl k : Key) then (kv.1, v) else kv).map (·.2))
  | [], [], _, _ => ⟨rfl, rfl⟩
  | [], _ :: _, h, _ => nomatch h
  | _ :: _, [], h, _ => nomatch h
  | (k', y) :: kvs, (w, u) :: vs, h1, ⟨v', r, h2, h3, h4⟩ => by
    obtain ⟨e1, e2⟩ := List.cons.inj h1
    obtain ⟨e3, e4⟩ := List.cons.inj h2
    have e1 : w = .inl k' := e1
    subst e1
    have e3 : u = v' := e3
    subst e3
    have h4 : Reps G M (kvs.map fun p => ei p.2) r := h4
    rw [← e4] at h4
    obtain ⟨i1, i2⟩ := dk_repl rv e2 h4
    by_cases z : k' = k
    · simp only [List.map_cons, z, if_true]
      exact ⟨congrArg _ i1, v, _, rfl, rv, i2⟩
    · have z' : ¬ (Sum.inl k' : Key) = .inl k := fun e => z (Sum.inl.inj e)
      simp only [List.map_cons, if_neg z, if_neg z']
      exact ⟨congrArg _ i1, u, _, rfl, h3, i2⟩
theorem dk_put {G : Ctx} {M : Hp} {ei : β → D} {k : Int} {x : β} {v : V} (rv : Rep G M (ei x) v) {kvs : List (Int × β)} {vs : List (Key × V)} (h1 : vs.map (·.1) = kvs.map (fun p => (.inl p.1 : Key))) (h2 : Reps G M (kvs.map fun p => ei p.2) (vs.map (·.2))) :
    (putK vs (.inl k) v).map (·.1) = (putD kvs k x).map (fun p => (.inl p.1 : Key)) ∧ Reps G M ((putD kvs k x).map fun p => ei p.2) ((putK vs (.inl k) v).map (·.2)) := by
  unfold putK putD
  rw [dk_any h1]
  by_cases c : (kvs.any fun p => decide (p.1 = k)) = true
  · rw [if_pos c, if_pos c]
    exact dk_repl rv h1 h2
  · rw [if_neg c, if_neg c]
    refine ⟨by rw [List.map_append, List.map_append, h1]; rfl, ?_⟩
    rw [List.map_append, List.map_append]
    exact reps_app h2 ⟨v, [], rfl, rv, rfl⟩
/-- d[k] = x, d of one's own -/
theorem st_dput {ei : β → D} {kvs : List (Int × β)} {m : R β} {mi : R Int} {n : Str} {p ps : Pos} (hu : X.A.units + 64 < cLine) (i : Nat) (h : Γ[i]? = some (.ow (tDic ei kvs))) (he : DD X W Γ e ei m) (hi : DD X W Γ b D.int mi) (hw : Wk Γe Γ) (hN : X.N[i]? = some n := by rfl) (hv : Vis X.env.scope n := by first | exact Or.inl rfl | exact Or.inr (Or.inl rfl) | exact Or.inr (Or.inr rfl))
    (hd : (n == ("__debug__" : Str)) = false := by decide) (hcd : (n == ("__classdict__" : Str)) = false := by decide) (hs : swapsWith e (some (.Subscript (.Name n p) b ps)) pos.line X.env = pure false := by rfl) :
    St1 X W Γe Γ (.Assign [.Subscript (.Name n p) b ps] e pos) (fun r => .n (Γ.set i (.ow (tDic ei r)))) (m >>= fun x => mi >>= fun k => ofO (putDO kvs k x)) :=
  smk ⟨_, ps_dput (by omega) (pe_var hN hv hd hcd) (pe_w X b) (pe_w X e) hs, fun F M0 M H σ D st po => by
    refine he F M0 M H σ _ st (po.bind.imp (fun x _ q v M1 H1 g1 r1 => ?_) fun c z => er_wk st hw z)
    have st1 := st.grow g1
    obtain ⟨v0, w0, a0, h1, h2, h3⟩ := st1.at (p := []) h rfl rfl
    have h2 : w0 = v0 := h2
    subst h2
    refine ⟨w0, h1, ?_⟩
    refine hi F M0 M1 H1 σ _ st1 (q.bind.imp (fun k _ q w M2 H2 g2 r2 => ?_) fun c z => er_wk st1 hw z)
    have st2 := st1.grow g2
    obtain ⟨v0', w0', a0', h1', h2', h3'⟩ := st2.at (p := []) h rfl rfl
    rw [h1] at h1'
    cases h1'
    have h2' : w0' = w0 := h2'
    subst h2'
    obtain ⟨a, o1, nd, ma, kk⟩ := st2.root (p := []) h rfl rfl h1 rfl
    obtain ⟨ad, vs, r, rfl, ea', q1, q2, q3⟩ := id o1
    have e : (kvs.map fun p => T.imm (ei p.2)) = (kvs.map fun p => ei p.2).map .imm := by rw [List.map_map]; rfl
    rw [e] at q3
    obtain ⟨q4, er⟩ := Owns.of_imm q3
    subst er
    obtain ⟨z, ez, q⟩ := q.ofO
    unfold putDO at ez
    by_cases c : kvs.length < 16777216
    · rw [if_pos c] at ez
      cases ez
      have lv : vs.length = kvs.length := by
        have := congrArg List.length q2
        rw [List.length_map, List.length_map] at this
        exact this
      rw [show w = .int k from r2]
      refine ⟨ad, _, rfl, DPut.k (k := (.inl k : Key)) q1 (by rw [lv, sizeLine_eq]; exact c), ?_⟩
      obtain ⟨k1, k2⟩ := dk_put (k := k) (Rep.mono g2.mm _ _ r1) q2 q4
      refine Kn.nx q _ rfl M2 _ σ ?_
      refine kk ad [] rfl ea' M2 H2 _ (tDic ei (putD kvs k x)) [] (.refl st2.mh) ⟨ad, _, [], rfl, rfl, upd_same, k1, ?_⟩ List.nodup_nil fun b hb => nomatch hb
      have e : ((putD kvs k x).map fun p => T.imm (ei p.2)) = ((putD kvs k x).map fun p => ei p.2).map .imm := by rw [List.map_map]; rfl
      rw [e]
      exact Owns.imm k2
    · rw [if_neg c] at ez; cases ez⟩
/-! an item of a list as a target; the place is a name -/
theorem dgx_ixn {ei : β → D} {xs ys : List β} {x : β} {j : Int} {n nj : Str} {p ps pj : Pos} (i l : Nat) (h : Γ[i]? = some (.ow (.lst (xs.map fun x => .imm (ei x))))) (hj : Γ[l]? = some (.ow (.imm (.int j)))) (hs : setO xs j x = some ys) (hN : X.N[i]? = some n := by rfl) (hv : Vis X.env.scope n := by first | exact Or.inl rfl | exact Or.inr (Or.inl rfl) | exact Or.inr (Or.inr rfl))
    (hd : (n == ("__debug__" : Str)) = false := by decide) (hcd : (n == ("__classdict__" : Str)) = false := by decide)
    (hNj : X.N[l]? = some nj := by rfl) (hvj : Vis X.env.scope nj := by first | exact Or.inl rfl | exact Or.inr (Or.inl rfl) | exact Or.inr (Or.inr rfl))
    (hdj : (nj == ("__debug__" : Str)) = false := by decide) (hcj : (nj == ("__classdict__" : Str)) = false := by decide)
    (ha : ∀ v, assign (.Subscript (.Name n p) (.Name nj pj) ps) X.env v = (do
      let ov ← holding [v] (eval (.Name n p) X.env)
      let iv ← holding [v, ov] (eval (.Name nj pj) X.env)
      standAt ps
      holding [v, ov, iv] (setItem ov iv v)
      release [v, ov, iv] []) := by intro _; rfl) :
    DGX X Γ (.Subscript (.Name n p) (.Name nj pj) ps) (Γ.set i (.ow (.lst (ys.map fun x => .imm (ei x))))) (.imm (ei x)) :=
  ⟨_, pg_sub (pe_var hN hv hd hcd) (pe_var hNj hvj hdj hcj) set_list ha, fun F M0 M H σ v vs ts Q hlen s q => by
    rw [own_is] at h
    have h' : (ts.map Sl.ow ++ Γ)[ts.length + i]? = some (.ow (.lst ((xs.map ei).map .imm))) := by rw [List.getElem?_append_right (by rw [List.length_map]; omega), List.length_map, Nat.add_sub_cancel_left]; exact h
    have hj' : (ts.map Sl.ow ++ Γ)[ts.length + l]? = some (.ow (.imm (.int j))) := by rw [List.getElem?_append_right (by rw [List.length_map]; omega), List.length_map, Nat.add_sub_cancel_left]; exact hj
    obtain ⟨as, o⟩ := s.head
    have rv : Rep X.G M (ei x) v := o.2
    obtain ⟨a, ws, h1, h2, h3, h4⟩ := s.front.lset h'
    obtain ⟨wj, wj', aj, j1, j2, j3⟩ := s.front.at (p := []) hj' rfl rfl
    have j2 : wj' = wj := j2
    subst j2
    have e1 : σ[i]? = some (some (.ref a)) := by
      rw [List.getElem?_append_right (by rw [List.length_map]; omega), List.length_map, hlen, Nat.add_sub_cancel_left] at h1
      exact h1
    have e2 : σ[l]? = some (some wj') := by
      rw [List.getElem?_append_right (by rw [List.length_map]; omega), List.length_map, hlen, Nat.add_sub_cancel_left] at j1
      exact j1
    refine ⟨_, e1, _, e2, ?_⟩
    rw [show wj' = .int j from j3.2]
    unfold setO at hs
    cases qi : ixN xs.length j with
    | none => rw [qi] at hs; cases hs
    | some l' =>
      rw [qi] at hs
      cases hs
      refine ⟨a, ws, j, l', rfl, rfl, h2, by rw [h3.len, List.length_map]; exact qi, ?_⟩
      have s2 := h4 M H (ws.set l' v) ((xs.map ei).set l' (ei x)) (.refl s.mh) (Reps.set rv l' h3)
      rw [List.set_append_right _ _ (by rw [List.length_map]; omega), List.length_map, Nat.add_sub_cancel_left] at s2
      refine q M _ σ ?_
      rw [own_is, List.map_set (l := xs)]
      exact s2⟩
/-! x is not True -/
theorem dt_isNotT {m : R Bool} {jc} {pb : Pos} (h : DD X W Γ a D.bl m) (h1 : behindInMarks .IsNot (.Constant (.bool true) jc pb) = false := by rfl) : DT X W Γ (.Compare a [.IsNot] [.Constant (.bool true) jc pb] pos) (m >>= fun b => .ok (!b)) :=
  tmk ⟨_, pt_cmpR op_isnot_bl (pe_w X a) pe_bl h1, fun F M0 M H σ Q s po => h F M0 M H σ _ s (po.bind.imp (fun b _ k v M1 H1 g r => by
    rw [show v = .bl b from r]
    refine ⟨b, true, rfl, rfl, !decide (b = true), rfl, ?_⟩
    have : (!decide (b = true)) = !b := by cases b <;> rfl
    rw [this]
    exact k M1 H1 g) fun _ z => z)⟩
/-- xs.append(e), e changes slots, all data -/
theorem st_appendXI {ei : β → D} {xs : List β} {Γ' : ρ → List Sl} {g : ρ → β} {me : R ρ} {n : Str} {p p1 cpos : Pos} (i : Nat) (h : Γ[i]? = some (.ow (.lst (xs.map fun x => .imm (ei x))))) (he : DX X W Γ e Γ' (fun r => .imm (ei (g r))) me) (h' : ∀ r, (Γ' r)[i]? = some (.ow (.lst (xs.map fun x => .imm (ei x))))) (hw : Wk Γe Γ)
    (hN : X.N[i]? = some n := by rfl) (hv : Vis X.env.scope n := by first | exact Or.inl rfl | exact Or.inr (Or.inl rfl) | exact Or.inr (Or.inr rfl)) (hd : (n == ("__debug__" : Str)) = false := by decide) (hcd : (n == ("__classdict__" : Str)) = false := by decide)
    (hbase : attributeBase (.Name n p) "append" X.env (eval (.Name n p) X.env) = eval (.Name n p) X.env := by rfl)
    (hfew : ((backTo cpos (starEach [e] X.env)).all (fun x => !x.1) && (backToKw cpos (keywordEach [] X.env)).all (fun x => x.1.isSome)
      && decide (([e]).length + ([] : List Keyword).length + (if ([] : List Keyword).isEmpty then 0 else 1) < 30)) = true := by rfl)
    (hline : (p1.endLine == cpos.line) = true := by rfl) (hs : starEach [e] X.env = (false, eval e X.env) :: starEach [] X.env := by exact star_cons rfl) (hplain : (backTo cpos (starEach [] X.env)).any (·.1) = false := by rfl)
    (hsw : swapsWith (.Call (.Attribute (.Name n p) "append" p1) [e] [] cpos) none pos.line X.env = pure false := by rfl) :
    St1 X W Γe Γ (.Expr (.Call (.Attribute (.Name n p) "append" p1) [e] [] cpos) pos) (fun y : ρ × List β => .n ((Γ' y.1).set i (.ow (.lst (y.2.map fun x => .imm (ei x)))))) (me >>= fun r => ofO (appO xs (g r)) >>= fun ys => .ok (r, ys)) :=
  smk ⟨_, ps_expr (pe_bm PySem.F.plainAttrs_list PySem.F.slot_list_append PySem.F.type_list_append mt_append (pe_var hN hv hd hcd) (pa_cons (pe_w X e) pa_nil (hs := hs)) hbase hfew hline hs hplain) hsw, fun F M0 M H σ D st po => by
    rw [own_is] at h
    obtain ⟨a, vs, h1, h2, h3, _⟩ := st.lset h
    refine ⟨_, h1, .inl ⟨rfl, vs, .of h2⟩, ?_⟩
    refine he F M0 M H σ _ st (po.bind.imp (fun r _ q v2 M2 H2 s2 => ?_) fun c z => er_wkS hw z)
    obtain ⟨ys, ez, q⟩ := q.bind.ofO
    have h'r := h' r
    rw [own_is] at h'r
    obtain ⟨a', vs', k1, k2, k3, k4⟩ := s2.front.lset h'r
    rw [h1] at k1
    cases k1
    obtain ⟨as, o⟩ := s2.head
    unfold appO at ez
    by_cases c : xs.length < 16777216
    · rw [if_pos c] at ez
      cases ez
      refine ⟨a, vs', v2, rfl, rfl, k2, by rw [k3.len, List.length_map, sizeLine_eq]; exact c, ?_⟩
      refine Kn.nx q _ rfl M2 _ σ ?_
      have s3 := k4 M2 H2 (vs' ++ [v2]) (xs.map ei ++ [ei (g r)]) (.refl s2.front.mh) (reps_app k3 ⟨v2, [], rfl, o.2, rfl⟩)
      rw [own_is, List.map_append]
      exact s3
    · rw [if_neg c] at ez; cases ez⟩
def relS (scope sc : Scope) : Scope := { scope with names := scope.names.map fun (n, k) => if (k == .free && sc.kind == .function && sc.names.lookup n == some .cell) then (n, .cell) else (n, k) }
/-- a comprehension within a comprehension -/
theorem df_lcN {X0 : Cx} {scope0 : Scope} {s0 : Shared} {H0 : Hp} {C0 : Addr} {cl0 : List (Str × Addr)} {fp0 : List Addr} {scope : Scope} {iter elt : Expr} {ifs : List Expr} {et : β → T} {ei : α → D} {cf : α → R Bool} {f : α → R β} {mi : R (List α)} {put : α → List Sl} (own : List (Str × Nat)) (hc : (blkX X0 scope0 s0 H0 C0 cl0 fp0).calm = true) (hN : (blkX X0 scope0 s0 H0 C0 cl0 fp0).N.Nodup) (hi : DI (blkX X0 scope0 s0 H0 C0 cl0 fp0) W Γ tg iter (fun xs => xs.map ei) mi) (hw : Wk Γ Γ)
    (hg : ∀ s H C cl fp x, DGc (blkX (blkX X0 scope0 s0 H0 C0 cl0 fp0) scope s H C cl fp) (own.map (·.2)) (wipeΓ Γ (own.map (·.2))) tg (put x) (ei x))
    (ht : ∀ s H C cl fp x, DTs (blkX (blkX X0 scope0 s0 H0 C0 cl0 fp0) scope s H C cl fp) (put x) ifs (cf x)) (he : ∀ s H C cl fp x, DF (blkX (blkX X0 scope0 s0 H0 C0 cl0 fp0) scope s H C cl fp) wNo (put x) elt et (f x))
    (N' : List Str) (sc0 : Scope) (hn1 : (blkX X0 scope0 s0 H0 C0 cl0 fp0).N = N' := by rfl) (hn2 : X0.env.scope = sc0 := by rfl) (ok : blkC N' (relS scope0 sc0) scope own = true := by decide +kernel) (hs : ∀ x, foldedSetIterable iter (blkX X0 scope0 s0 H0 C0 cl0 fp0).env x = pure x := by intro _; rfl) :
    DF (blkX X0 scope0 s0 H0 C0 cl0 fp0) W Γ (.ListComp elt [⟨tg, iter, ifs, 0⟩] scope pos) (fun ys => .lst (ys.map et)) (mi >>= fun xs => compR cf f xs) :=
  df_lc own hc hN hi hw hg ht he N' (relS scope0 sc0) hn1 (by subst hn2; rfl) ok hs
end
end Cn
/-! CnQ: {k: list(d[k]) for k in d} -/
namespace Cn
open PySem PySem.Spec L2 PyProof.Rows
/-- the copy of a dict, key by key -/
def cpD {β : Type} (kvs : List (Int × β)) : List (Int × β) → List (Int × β) → List (Int × β)
  | acc, [] => acc
  | acc, p :: ps => cpD kvs (putD acc p.1 ((getD_ kvs p.1).getD p.2)) ps
theorem getD_mem {β : Type} {p : Int × β} : ∀ {kvs : List (Int × β)}, p ∈ kvs → ∃ x, getD_ kvs p.1 = some x
  | [], h => nomatch h
  | q :: kvs, h => by
    unfold getD_
    by_cases e : q.1 = p.1
    · rw [List.find?_cons_of_pos (by simpa using e)]; exact ⟨q.2, rfl⟩
    · rw [List.find?_cons_of_neg (by simpa using e)]
      exact getD_mem ((List.mem_cons.mp h).resolve_left fun z => e (by rw [z]))
theorem cpD_snoc {β : Type} (kvs : List (Int × β)) : ∀ (ps acc : List (Int × β)) (p : Int × β), cpD kvs acc (ps ++ [p]) = putD (cpD kvs acc ps) p.1 ((getD_ kvs p.1).getD p.2)
  | [], acc, p => rfl
  | q :: ps, acc, p => cpD_snoc kvs ps (putD acc q.1 ((getD_ kvs q.1).getD q.2)) p
section
variable {X : Cx} {W : WX} {Γe Γ : List Sl} {β : Type} {pos : Pos}
theorem df_dcopyL {ei : β → D} {kvs : List (Int × List β)} {pn kn : Str} {p1 p2 p3 p4 p5 p6 p7 p8 : Pos} {scope : Scope} (hu : X.A.units + 64 < cLine) (i l : Nat) (h : Γ[i]? = some (.ow (.imm (eDic (fun xs : List β => D.lst (xs.map ei)) kvs)))) (hc : X.calm = true) (hN : X.N.Nodup) (hm : X.mg "list" = none)
    (N' : List Str) (sc' : Scope) (hn1 : X.N = N' := by rfl) (hn2 : X.env.scope = sc' := by rfl) (ok : blkC N' sc' scope [(kn, l)] = true := by decide +kernel)
    (hi : X.N[i]? = some pn := by rfl) (hl : X.N[l]? = some kn := by rfl) (hil : i ≠ l := by decide) (hlen : Nat.blt l Γ.length = true := by rfl)
    (hv : Vis X.env.scope pn := by first | exact Or.inl rfl | exact Or.inr (Or.inl rfl) | exact Or.inr (Or.inr rfl)) (hd : (pn == ("__debug__" : Str)) = false := by decide) (hcd : (pn == ("__classdict__" : Str)) = false := by decide)
    (hv2 : ∀ s H C cl fp, Vis (blkX X scope s H C cl fp).env.scope pn := by intros; first | exact Or.inl rfl | exact Or.inr (Or.inl rfl) | exact Or.inr (Or.inr rfl))
    (hv3 : ∀ s H C cl fp, Vis (blkX X scope s H C cl fp).env.scope kn := by intros; first | exact Or.inl rfl | exact Or.inr (Or.inl rfl) | exact Or.inr (Or.inr rfl)) (hkd : (kn == ("__debug__" : Str)) = false := by decide) (hkcd : (kn == ("__classdict__" : Str)) = false := by decide)
    (hx : ∀ s H C cl fp, Loc (blkX X scope s H C cl fp).env.scope kn := by intros; first | exact Or.inl rfl | exact Or.inr rfl) (hf : ∀ s H C cl fp, (blkX X scope s H C cl fp).fn kn = true ∨ (blkX X scope s H C cl fp).env.scope.names.lookup kn = some .local := by intros; first | exact .inl rfl | exact .inr rfl)
    (hg : ∀ s H C cl fp, Gl (blkX X scope s H C cl fp) "list" := by intros; rfl)
    (hst : ∀ s H C cl fp, starEach [.Subscript (.Name pn p3) (.Name kn p4) p5] (blkX X scope s H C cl fp).env = (false, eval (.Subscript (.Name pn p3) (.Name kn p4) p5) (blkX X scope s H C cl fp).env) :: starEach [] (blkX X scope s H C cl fp).env := by intros; exact star_cons rfl)
    (hs : ∀ x, foldedSetIterable (.Name pn p8) X.env x = pure x := by intro _; rfl) :
    DF X W Γ (.DictComp (.Name kn p1) (.Call (.Name "list" p2) [.Subscript (.Name pn p3) (.Name kn p4) p5] [] p6) [⟨.Name kn p7, .Name pn p8, [], 0⟩] scope pos) (tDic fun xs : List β => D.lst (xs.map ei)) (if kvs.length < 16777216 then .ok (cpD kvs [] kvs) else .bad) := by
  by_cases hz : kvs.length < 16777216
  case neg => rw [if_neg hz]; exact ⟨fun F M0 M H σ Q s po => po.elim⟩
  rw [if_pos hz]
  refine dmk ⟨_, pe_lock (pe_dc (own := [(kn, l)]) hc hN (pi_keys (pe_var hi hv hd hcd)) (blkOk_by (by rw [hn1, hn2]; exact ok)) (fun s H C cl fp => pg_name (X := blkX X scope s H C cl fp) hN hl (hx s H C cl fp) (hf s H C cl fp)) (fun s H C cl fp => pts_nil) (fun s H C cl fp => pe_var (X := blkX X scope s H C cl fp) hl (hv3 s H C cl fp) hkd hkcd)
    (fun s H C cl fp => pe_callTy (X := blkX X scope s H C cl fp) (T := "list") (x := "list") (r := fun xs H' Q => ∃ p ys, xs = [.ref p] ∧ (SqL X.K H' p ys ∨ SqT X.K H' p ys) ∧ ∀ l, H' l = none → Q (.ref l) (upd H' l (.lst ys))) (call_list_of (X := blkX X scope s H C cl fp)) (hg s H C cl fp) hm (by decide +kernel) (pa_cons (pe_dget (X := blkX X scope s H C cl fp) (show X.A.units + 1 < cLine by omega) (pe_var (X := blkX X scope s H C cl fp) hi (hv2 s H C cl fp) hd hcd) (pe_var (X := blkX X scope s H C cl fp) hl (hv3 s H C cl fp) hkd hkcd) (fun _ _ => rfl)) pa_nil (hs := hst s H C cl fp)) (he := hst s H C cl fp)) hs), fun F M0 M H σ Q s po => ?_⟩
  obtain ⟨v0, w0, a0, e1, e2, e3⟩ := s.at (p := []) h rfl rfl
  have e2 : w0 = v0 := e2
  subst e2
  obtain ⟨d, vs, rfl, md, mk, mr⟩ := e3.2
  have hd' : H d = some (.dK vs) := s.mh _ _ md
  have lv : vs.length = kvs.length := by
    have := congrArg List.length mk
    rw [List.length_map, List.length_map] at this
    exact this
  have ll : l < σ.length := by
    rw [s.len]
    exact Nat.le_of_ble_eq_true hlen
  refine ⟨d, .dK vs, hd', True.intro, fun od => ?_⟩
  refine ⟨.ref d, e1, d, od, rfl, .inl ⟨vs, upd_same, fun D0 hD => ?_⟩⟩
  have nD : D0 ≠ d := fun z => by rw [z, upd_same] at hD; cases hD
  have hHD : H D0 = none := by rw [upd_ne nD] at hD; exact hD
  have mD : M D0 = none := by
    cases e : M D0 with
    | none => rfl
    | some o => rw [s.mh D0 o e] at hHD; cases hHD
  refine ⟨fun j m H' => m = vs.length - j ∧ j ≤ vs.length ∧ ∃ Mn acc, H' d = some (.frz od (.dK vs)) ∧ H' D0 = some (.dK acc) ∧ acc.length ≤ j ∧ (∀ b o, H b = some o → b ≠ d → H' b = some o) ∧ Same M Mn ∧ (∀ b o, Mn b = some o → b ≠ d → H' b = some o) ∧ Mn D0 = none ∧ (∀ b, Mn b ≠ none → M b ≠ none ∨ H b = none) ∧
      acc.map (·.1) = (cpD kvs [] (kvs.take j)).map (fun p => (.inl p.1 : Key)) ∧ Reps X.G Mn ((cpD kvs [] (kvs.take j)).map fun p => D.lst (p.2.map ei)) (acc.map (·.2)),
    ⟨vs.length, by simp, Nat.zero_le _, M, [], by rw [upd_ne fun z => nD z.symm, upd_same], upd_same, Nat.le_refl _, fun b o e hb => by rw [upd_ne (ne_of_none e hHD), upd_ne hb]; exact e, .refl _, fun b o e hb => by rw [upd_ne (ne_of_none (s.mh b o e) hHD), upd_ne hb]; exact s.mh b o e, mD, fun _ z => .inl z, rfl, rfl⟩, ?_⟩
  rintro j m H' ⟨rfl, hj, Mn, acc, q1, q2, q3, q4, q5, q6, q7, q8, q9, q10⟩
  by_cases hlt : j < vs.length
  · have hjk : j < kvs.length := by omega
    refine .inr ⟨⟨q1, hlt⟩, fun H' => ∃ Mn acc, H' d = some (.frz od (.dK vs)) ∧ H' D0 = some (.dK acc) ∧ acc.length ≤ j + 1 ∧ (∀ b o, H b = some o → b ≠ d → H' b = some o) ∧ Same M Mn ∧ (∀ b o, Mn b = some o → b ≠ d → H' b = some o) ∧ Mn D0 = none ∧ (∀ b, Mn b ≠ none → M b ≠ none ∨ H b = none) ∧
      acc.map (·.1) = (cpD kvs [] (kvs.take (j + 1))).map (fun p => (.inl p.1 : Key)) ∧ Reps X.G Mn ((cpD kvs [] (kvs.take (j + 1))).map fun p => D.lst (p.2.map ei)) (acc.map (·.2)), fun H' w => ⟨vs.length - (j + 1), by omega, rfl, hlt, w⟩, fun x H2 y => ?_⟩
    obtain ⟨rfl, k, v, ek, rfl⟩ := y
    have ekey : k = .inl (kvs[j]).1 := by
      have := congrArg (fun xs => xs[j]?) mk
      simp only [List.getElem?_map, ek, List.getElem?_eq_getElem hjk, Option.map_some] at this
      exact Option.some.inj this
    subst ekey
    obtain ⟨x, ex⟩ := getD_mem (List.getElem_mem hjk)
    obtain ⟨u, eu, ru⟩ := valV_lk (ei := fun xs : List β => D.lst (xs.map ei)) mk mr ex
    obtain ⟨aj, ws, rfl, maj, rws⟩ := ru
    have naj : aj ≠ d := fun z => by rw [z, md] at maj; cases maj
    have s1 : ((wipe σ [l]).set l (some (kV (.inl (kvs[j]).1))))[l]? = some (some (kV (.inl (kvs[j]).1))) := List.getElem?_set_self (by rw [wipe_length]; exact ll)
    have s2 : ((wipe σ [l]).set l (some (kV (.inl (kvs[j]).1))))[i]? = some (some (.ref d)) := by
      rw [List.getElem?_set_ne (fun z => hil z.symm)]
      show (σ.set l none)[i]? = _
      rw [List.getElem?_set_ne (fun z => hil z.symm)]
      exact e1
    refine ⟨?_, ?_⟩
    · show wipe ((wipe σ [l]).set l _) [l] = wipe σ [l]
      rw [wipe_set (List.mem_singleton.mpr rfl)]; exact wipe_idem
    · refine ⟨_, s1, _, s2, _, s1, d, .ref aj, rfl, .inl ⟨vs, .inl (kvs[j]).1, .inr ⟨od, q1⟩, rfl, eu.symm⟩, aj, ws, rfl, .inl (.of (q6 aj _ (q5 _ _ maj) naj)), fun q hq => ?_⟩
      have nqd : q ≠ d := fun z => by rw [z, q1] at hq; cases hq
      have nqD : q ≠ D0 := fun z => by rw [z, q2] at hq; cases hq
      have mq : Mn q = none := by
        cases e : Mn q with
        | none => rfl
        | some o => rw [q6 q o e nqd] at hq; cases hq
      have hq0 : H q = none := by
        cases e : H q with
        | none => rfl
        | some o => rw [q4 q o e nqd] at hq; cases hq
      have mm : Same Mn (upd Mn q (.lst ws)) := fun b o e => by rw [upd_ne (ne_of_none e mq)]; exact e
      have rq : Rep X.G (upd Mn q (.lst ws)) (D.lst (x.map ei)) (.ref q) := ⟨q, ws, rfl, upd_same, Reps.mono (q5.trans mm) _ _ rws⟩
      obtain ⟨k1, k2⟩ := dk_put (ei := fun xs : List β => D.lst (xs.map ei)) (k := (kvs[j]).1) rq q9 (Reps.mono mm _ _ q10)
      have et : cpD kvs [] (kvs.take (j + 1)) = putD (cpD kvs [] (kvs.take j)) (kvs[j]).1 x := by
        rw [List.take_succ_eq_append_getElem hjk, cpD_snoc, ex]; rfl
      refine ⟨acc, _, rfl, by rw [upd_ne (fun z => nqD z.symm)]; exact q2, by rw [sizeLine_eq]; omega, upd Mn q (.lst ws), putK acc (.inl (kvs[j]).1) (.ref q), ?_, upd_same, ?_, fun b o e hb => ?_, q5.trans mm, fun b o e hb => ?_, ?_, fun b hb => ?_, ?_, ?_⟩
      · rw [upd_ne (fun z => nD z.symm), upd_ne (fun z => nqd z.symm)]; exact q1
      · have := length_putK acc (.inl (kvs[j]).1) (.ref q); omega
      · rw [upd_ne (ne_of_none e hHD), upd_ne (ne_of_none e hq0)]; exact q4 b o e hb
      · by_cases z : b = q
        · subst z
          rw [upd_same] at e
          rw [upd_ne nqD, upd_same]; exact e
        · rw [upd_ne z] at e
          have nb : b ≠ D0 := fun w => by rw [w, q7] at e; cases e
          rw [upd_ne nb, upd_ne z]; exact q6 b o e hb
      · rw [upd_ne (fun z => nqD z.symm)]; exact q7
      · by_cases z : b = q
        · rw [z]; exact .inr hq0
        · rw [upd_ne z] at hb; exact q8 b hb
      · rw [et]; exact k1
      · rw [et]; exact k2
  · refine .inl ⟨⟨q1, by omega⟩, q1, ?_⟩
    have ek : kvs.take j = kvs := List.take_of_length_le (by omega)
    rw [ek] at q9 q10
    refine po (.ref D0) Mn (upd H' d (.dK vs)) [D0] ⟨fun b o e => ?_, q5, fun b o e => ?_, q8⟩ ⟨D0, acc, [], rfl, rfl, ?_, q9, ?_⟩ (by simp) fun a ha => ?_
    · by_cases z : b = d
      · rw [z, upd_same]; rw [z, hd'] at e; exact e
      · rw [upd_ne z]; exact q4 b o e z
    · by_cases z : b = d
      · rw [z, upd_same]; rw [z, q5 _ _ md] at e; exact e
      · rw [upd_ne z]; exact q6 b o e z
    · rw [upd_ne nD]; exact q2
    · have e : ((cpD kvs [] kvs).map fun p => T.imm (D.lst (p.2.map ei))) = ((cpD kvs [] kvs).map fun p => D.lst (p.2.map ei)).map .imm := by rw [List.map_map]; rfl
      rw [e]
      exact Owns.imm q10
    · rw [List.mem_singleton.mp ha]; exact ⟨hHD, q7⟩
/-- name = {..} on one line, the name a local -/
theorem ps_setDc {X : Cx} {i : Nat} {y : Str} {py : Pos} {kx vx tg iter : Expr} {ifs : List Expr} {scope : Scope} {own : List (Str × Nat)} {pos spos : Pos} {wi : TI} {g : TG} {tt : TT} {tk tv : TE} (hc : X.calm = true) (hN : X.N.Nodup) (hy : X.N[i]? = some y) (hyl : X.env.scope.names.lookup y = some .local)
    (hsw : swapsWith (.DictComp kx vx [⟨tg, iter, ifs, 0⟩] scope pos) (some (.Name y py)) spos.line X.env = pure true) (hi : PI X tg iter wi) (ok : BlkOk X.N X.env.scope scope own)
    (hg : ∀ (s : Shared) (H : Hp) (C : Addr) (cl : List (Str × Addr)) (fp : List Addr), PG (X.blk s H scope (compEnvC scope cl C X.env) fp) tg g) (ht : ∀ (s : Shared) (H : Hp) (C : Addr) (cl : List (Str × Addr)) (fp : List Addr), PTs (X.blk s H scope (compEnvC scope cl C X.env) fp) ifs tt)
    (hk : ∀ (s : Shared) (H : Hp) (C : Addr) (cl : List (Str × Addr)) (fp : List Addr), PE (X.blk s H scope (compEnvC scope cl C X.env) fp) kx tk)
    (he : ∀ (s : Shared) (H : Hp) (C : Addr) (cl : List (Str × Addr)) (fp : List Addr), PE (X.blk s H scope (compEnvC scope cl C X.env) fp) vx tv) (hs : ∀ x, foldedSetIterable iter X.env x = pure x := by intro _; rfl) :
    PS X (.Assign [.Name y py] (.DictComp kx vx [⟨tg, iter, ifs, 0⟩] scope pos) spos) (tAsg (tDc wi g tt tk tv (own.map (·.2))) (gName i)) := by
  refine ⟨fun pins s σ H D I h => ?_⟩
  rw [exec_Assign_Name_used _ _ _ _ hsw]
  refine wpAny_bind (wpAny_standAt (wpAny_bind ?_))
  show wpAny _ X.A (do let _ ← comprehension (.DictComp kx vx [⟨tg, iter, ifs, 0⟩] scope pos) scope X.env (firstIterPos [⟨tg, iter, ifs, 0⟩] pos) newDict false (eval iter X.env) (some (assign (.Name y py) X.env))) _ _ s
  have h : tDc wi g tt tk tv (own.map (·.2)) σ H (fun x H1 => gName i x σ H1 D.nx) := h
  refine wpAny_bind (thn (dc_core (Qf := fun _ s' => SP X pins D .next s') hc hN I hi ok hg ht hk he hs h fun L C s' m H' I' q hn f => ?_) fun _ s' hq => wpAny_pure (wpAny_pure hq))
  show wpAny _ _ (assign (.Name y py) X.env (.ref L)) _ _ _
  refine wpAny_assign_Name (store_ok2 (v := V.ref L) I' hN hy (.inl hyl) rfl (fun s2 I2 ⟨a, sb, ha⟩ => ?_) (.inr hyl))
  obtain ⟨f0, f1, f2, f3, f4, f5⟩ := f
  have haC : C ≠ a := by
    rcases ha with z | z
    · rw [z]; exact f1
    · exact fun e => f4 y a z e.symm
  refine ⟨m, hn.sameBut sb haC, fun h3 sb3 => ?_⟩
  exact ⟨_, H', I2.turned (t' := s2.toks) (fun b o hb e => (sb3.2 b hb).trans e) f0 f1 f3 f4 f5, q⟩
theorem sw_trueD {kx vx : Expr} {gs : List Comprehension} {scope : Scope} {pos py : Pos} {y : Str} {l : Nat} {env : Env} (hk : env.scope.kind = .function) (hy : env.scope.names.lookup y = some .local) (hl : (py.line == pos.line) = true)
    (ha : (scope.names.any fun (n, k) => n == y && (k == .local || k == .cell)) = false) : swapsWith (.DictComp kx vx gs scope pos) (some (.Name y py)) l env = pure true := by
  have ky : env.kindOf y = some .local := hy
  have hb : env.blockKind = .function := by unfold Env.blockKind; rw [hk]; rfl
  unfold swapsWith
  simp only [hb, ky, ha, Expr.pos, hl]
  rfl
theorem st_setDcopyL {ei : β → D} {kvs : List (Int × List β)} {pn kn : Str} {p1 p2 p3 p4 p5 p6 p7 p8 : Pos} {scope : Scope} {yn : Str} {py pos2 : Pos} (hu : X.A.units + 64 < cLine) (i l y : Nat) (h : Γ[i]? = some (.ow (.imm (eDic (fun xs : List β => D.lst (xs.map ei)) kvs)))) (hc : X.calm = true) (hN : X.N.Nodup) (hm : X.mg "list" = none) (hw : Wk Γe Γ)
    (N' : List Str) (sc' : Scope) (hn1 : X.N = N' := by rfl) (hn2 : X.env.scope = sc' := by rfl) (ok : blkC N' sc' scope [(kn, l)] = true := by decide +kernel)
    (hi : X.N[i]? = some pn := by rfl) (hl : X.N[l]? = some kn := by rfl) (hil : i ≠ l := by decide) (hlen : Nat.blt l Γ.length = true := by rfl)
    (hv : Vis X.env.scope pn := by first | exact Or.inl rfl | exact Or.inr (Or.inl rfl) | exact Or.inr (Or.inr rfl)) (hd : (pn == ("__debug__" : Str)) = false := by decide) (hcd : (pn == ("__classdict__" : Str)) = false := by decide)
    (hv2 : ∀ s H C cl fp, Vis (blkX X scope s H C cl fp).env.scope pn := by intros; first | exact Or.inl rfl | exact Or.inr (Or.inl rfl) | exact Or.inr (Or.inr rfl))
    (hv3 : ∀ s H C cl fp, Vis (blkX X scope s H C cl fp).env.scope kn := by intros; first | exact Or.inl rfl | exact Or.inr (Or.inl rfl) | exact Or.inr (Or.inr rfl)) (hkd : (kn == ("__debug__" : Str)) = false := by decide) (hkcd : (kn == ("__classdict__" : Str)) = false := by decide)
    (hx : ∀ s H C cl fp, Loc (blkX X scope s H C cl fp).env.scope kn := by intros; first | exact Or.inl rfl | exact Or.inr rfl) (hf : ∀ s H C cl fp, (blkX X scope s H C cl fp).fn kn = true ∨ (blkX X scope s H C cl fp).env.scope.names.lookup kn = some .local := by intros; first | exact .inl rfl | exact .inr rfl)
    (hg : ∀ s H C cl fp, Gl (blkX X scope s H C cl fp) "list" := by intros; rfl)
    (hst : ∀ s H C cl fp, starEach [.Subscript (.Name pn p3) (.Name kn p4) p5] (blkX X scope s H C cl fp).env = (false, eval (.Subscript (.Name pn p3) (.Name kn p4) p5) (blkX X scope s H C cl fp).env) :: starEach [] (blkX X scope s H C cl fp).env := by intros; exact star_cons rfl)
    (hs : ∀ x, foldedSetIterable (.Name pn p8) X.env x = pure x := by intro _; rfl)
    (hy : X.N[y]? = some yn := by rfl) (hyl : X.env.scope.names.lookup yn = some .local := by rfl) (hyb : Nat.blt y Γ.length = true := by rfl) (hsw : swapsWith (.DictComp (.Name kn p1) (.Call (.Name "list" p2) [.Subscript (.Name pn p3) (.Name kn p4) p5] [] p6) [⟨.Name kn p7, .Name pn p8, [], 0⟩] scope pos2) (some (.Name yn py)) pos.line X.env = pure true := by exact sw_trueD rfl rfl rfl (by decide +kernel)) :
    St1 X W Γe Γ (.Assign [.Name yn py] (.DictComp (.Name kn p1) (.Call (.Name "list" p2) [.Subscript (.Name pn p3) (.Name kn p4) p5] [] p6) [⟨.Name kn p7, .Name pn p8, [], 0⟩] scope pos2) pos) (fun r => .n (Γ.set y (.ow (tDic (fun xs : List β => D.lst (xs.map ei)) r)))) (if kvs.length < 16777216 then .ok (cpD kvs [] kvs) else .bad) := by
  by_cases hz : kvs.length < 16777216
  case neg => rw [if_neg hz]; exact ⟨fun F M0 M H σ D st po => po.elim⟩
  rw [if_pos hz]
  refine smk ⟨_, ps_lock (ps_setDc (own := [(kn, l)]) hc hN hy hyl hsw (pi_keys (pe_var hi hv hd hcd)) (blkOk_by (by rw [hn1, hn2]; exact ok)) (fun s H C cl fp => pg_name (X := blkX X scope s H C cl fp) hN hl (hx s H C cl fp) (hf s H C cl fp)) (fun s H C cl fp => pts_nil) (fun s H C cl fp => pe_var (X := blkX X scope s H C cl fp) hl (hv3 s H C cl fp) hkd hkcd)
    (fun s H C cl fp => pe_callTy (X := blkX X scope s H C cl fp) (T := "list") (x := "list") (r := fun xs H' Q => ∃ p ys, xs = [.ref p] ∧ (SqL X.K H' p ys ∨ SqT X.K H' p ys) ∧ ∀ l, H' l = none → Q (.ref l) (upd H' l (.lst ys))) (call_list_of (X := blkX X scope s H C cl fp)) (hg s H C cl fp) hm (by decide +kernel) (pa_cons (pe_dget (X := blkX X scope s H C cl fp) (show X.A.units + 1 < cLine by omega) (pe_var (X := blkX X scope s H C cl fp) hi (hv2 s H C cl fp) hd hcd) (pe_var (X := blkX X scope s H C cl fp) hl (hv3 s H C cl fp) hkd hkcd) (fun _ _ => rfl)) pa_nil (hs := hst s H C cl fp)) (he := hst s H C cl fp)) hs), fun F M0 M H σ Q s po0 => ?_⟩
  have po : ∀ (v : V) (M' H' : Hp) (as : List Addr), Gr M H M' H' → Own X.G M' H' (tDic (fun xs : List β => D.lst (xs.map ei)) (cpD kvs [] kvs)) v as → as.Nodup → (∀ a ∈ as, H a = none ∧ M' a = none) → Q.nx (σ.set y (some v)) H' :=
    fun v M' H' as g o nd fr => Kn.nx po0 _ rfl M' H' _ (s.put g o nd fr (Nat.le_of_ble_eq_true hyb))
  obtain ⟨v0, w0, a0, e1, e2, e3⟩ := s.at (p := []) h rfl rfl
  have e2 : w0 = v0 := e2
  subst e2
  obtain ⟨d, vs, rfl, md, mk, mr⟩ := e3.2
  have hd' : H d = some (.dK vs) := s.mh _ _ md
  have lv : vs.length = kvs.length := by
    have := congrArg List.length mk
    rw [List.length_map, List.length_map] at this
    exact this
  have ll : l < σ.length := by
    rw [s.len]
    exact Nat.le_of_ble_eq_true hlen
  refine ⟨d, .dK vs, hd', True.intro, fun od => ?_⟩
  refine ⟨.ref d, e1, d, od, rfl, .inl ⟨vs, upd_same, fun D0 hD => ?_⟩⟩
  have nD : D0 ≠ d := fun z => by rw [z, upd_same] at hD; cases hD
  have hHD : H D0 = none := by rw [upd_ne nD] at hD; exact hD
  have mD : M D0 = none := by
    cases e : M D0 with
    | none => rfl
    | some o => rw [s.mh D0 o e] at hHD; cases hHD
  refine ⟨fun j m H' => m = vs.length - j ∧ j ≤ vs.length ∧ ∃ Mn acc, H' d = some (.frz od (.dK vs)) ∧ H' D0 = some (.dK acc) ∧ acc.length ≤ j ∧ (∀ b o, H b = some o → b ≠ d → H' b = some o) ∧ Same M Mn ∧ (∀ b o, Mn b = some o → b ≠ d → H' b = some o) ∧ Mn D0 = none ∧ (∀ b, Mn b ≠ none → M b ≠ none ∨ H b = none) ∧
      acc.map (·.1) = (cpD kvs [] (kvs.take j)).map (fun p => (.inl p.1 : Key)) ∧ Reps X.G Mn ((cpD kvs [] (kvs.take j)).map fun p => D.lst (p.2.map ei)) (acc.map (·.2)),
    ⟨vs.length, by simp, Nat.zero_le _, M, [], by rw [upd_ne fun z => nD z.symm, upd_same], upd_same, Nat.le_refl _, fun b o e hb => by rw [upd_ne (ne_of_none e hHD), upd_ne hb]; exact e, .refl _, fun b o e hb => by rw [upd_ne (ne_of_none (s.mh b o e) hHD), upd_ne hb]; exact s.mh b o e, mD, fun _ z => .inl z, rfl, rfl⟩, ?_⟩
  rintro j m H' ⟨rfl, hj, Mn, acc, q1, q2, q3, q4, q5, q6, q7, q8, q9, q10⟩
  by_cases hlt : j < vs.length
  · have hjk : j < kvs.length := by omega
    refine .inr ⟨⟨q1, hlt⟩, fun H' => ∃ Mn acc, H' d = some (.frz od (.dK vs)) ∧ H' D0 = some (.dK acc) ∧ acc.length ≤ j + 1 ∧ (∀ b o, H b = some o → b ≠ d → H' b = some o) ∧ Same M Mn ∧ (∀ b o, Mn b = some o → b ≠ d → H' b = some o) ∧ Mn D0 = none ∧ (∀ b, Mn b ≠ none → M b ≠ none ∨ H b = none) ∧
      acc.map (·.1) = (cpD kvs [] (kvs.take (j + 1))).map (fun p => (.inl p.1 : Key)) ∧ Reps X.G Mn ((cpD kvs [] (kvs.take (j + 1))).map fun p => D.lst (p.2.map ei)) (acc.map (·.2)), fun H' w => ⟨vs.length - (j + 1), by omega, rfl, hlt, w⟩, fun x H2 y => ?_⟩
    obtain ⟨rfl, k, v, ek, rfl⟩ := y
    have ekey : k = .inl (kvs[j]).1 := by
      have := congrArg (fun xs => xs[j]?) mk
      simp only [List.getElem?_map, ek, List.getElem?_eq_getElem hjk, Option.map_some] at this
      exact Option.some.inj this
    subst ekey
    obtain ⟨x, ex⟩ := getD_mem (List.getElem_mem hjk)
    obtain ⟨u, eu, ru⟩ := valV_lk (ei := fun xs : List β => D.lst (xs.map ei)) mk mr ex
    obtain ⟨aj, ws, rfl, maj, rws⟩ := ru
    have naj : aj ≠ d := fun z => by rw [z, md] at maj; cases maj
    have s1 : ((wipe σ [l]).set l (some (kV (.inl (kvs[j]).1))))[l]? = some (some (kV (.inl (kvs[j]).1))) := List.getElem?_set_self (by rw [wipe_length]; exact ll)
    have s2 : ((wipe σ [l]).set l (some (kV (.inl (kvs[j]).1))))[i]? = some (some (.ref d)) := by
      rw [List.getElem?_set_ne (fun z => hil z.symm)]
      show (σ.set l none)[i]? = _
      rw [List.getElem?_set_ne (fun z => hil z.symm)]
      exact e1
    refine ⟨?_, ?_⟩
    · show wipe ((wipe σ [l]).set l _) [l] = wipe σ [l]
      rw [wipe_set (List.mem_singleton.mpr rfl)]; exact wipe_idem
    · refine ⟨_, s1, _, s2, _, s1, d, .ref aj, rfl, .inl ⟨vs, .inl (kvs[j]).1, .inr ⟨od, q1⟩, rfl, eu.symm⟩, aj, ws, rfl, .inl (.of (q6 aj _ (q5 _ _ maj) naj)), fun q hq => ?_⟩
      have nqd : q ≠ d := fun z => by rw [z, q1] at hq; cases hq
      have nqD : q ≠ D0 := fun z => by rw [z, q2] at hq; cases hq
      have mq : Mn q = none := by
        cases e : Mn q with
        | none => rfl
        | some o => rw [q6 q o e nqd] at hq; cases hq
      have hq0 : H q = none := by
        cases e : H q with
        | none => rfl
        | some o => rw [q4 q o e nqd] at hq; cases hq
      have mm : Same Mn (upd Mn q (.lst ws)) := fun b o e => by rw [upd_ne (ne_of_none e mq)]; exact e
      have rq : Rep X.G (upd Mn q (.lst ws)) (D.lst (x.map ei)) (.ref q) := ⟨q, ws, rfl, upd_same, Reps.mono (q5.trans mm) _ _ rws⟩
      obtain ⟨k1, k2⟩ := dk_put (ei := fun xs : List β => D.lst (xs.map ei)) (k := (kvs[j]).1) rq q9 (Reps.mono mm _ _ q10)
      have et : cpD kvs [] (kvs.take (j + 1)) = putD (cpD kvs [] (kvs.take j)) (kvs[j]).1 x := by
        rw [List.take_succ_eq_append_getElem hjk, cpD_snoc, ex]; rfl
      refine ⟨acc, _, rfl, by rw [upd_ne (fun z => nqD z.symm)]; exact q2, by rw [sizeLine_eq]; omega, upd Mn q (.lst ws), putK acc (.inl (kvs[j]).1) (.ref q), ?_, upd_same, ?_, fun b o e hb => ?_, q5.trans mm, fun b o e hb => ?_, ?_, fun b hb => ?_, ?_, ?_⟩
      · rw [upd_ne (fun z => nD z.symm), upd_ne (fun z => nqd z.symm)]; exact q1
      · have := length_putK acc (.inl (kvs[j]).1) (.ref q); omega
      · rw [upd_ne (ne_of_none e hHD), upd_ne (ne_of_none e hq0)]; exact q4 b o e hb
      · by_cases z : b = q
        · subst z
          rw [upd_same] at e
          rw [upd_ne nqD, upd_same]; exact e
        · rw [upd_ne z] at e
          have nb : b ≠ D0 := fun w => by rw [w, q7] at e; cases e
          rw [upd_ne nb, upd_ne z]; exact q6 b o e hb
      · rw [upd_ne (fun z => nqD z.symm)]; exact q7
      · by_cases z : b = q
        · rw [z]; exact .inr hq0
        · rw [upd_ne z] at hb; exact q8 b hb
      · rw [et]; exact k1
      · rw [et]; exact k2
  · refine .inl ⟨⟨q1, by omega⟩, q1, ?_⟩
    have ek : kvs.take j = kvs := List.take_of_length_le (by omega)
    rw [ek] at q9 q10
    refine po (.ref D0) Mn (upd H' d (.dK vs)) [D0] ⟨fun b o e => ?_, q5, fun b o e => ?_, q8⟩ ⟨D0, acc, [], rfl, rfl, ?_, q9, ?_⟩ (by simp) fun a ha => ?_
    · by_cases z : b = d
      · rw [z, upd_same]; rw [z, hd'] at e; exact e
      · rw [upd_ne z]; exact q4 b o e z
    · by_cases z : b = d
      · rw [z, upd_same]; rw [z, q5 _ _ md] at e; exact e
      · rw [upd_ne z]; exact q6 b o e z
    · rw [upd_ne nD]; exact q2
    · have e : ((cpD kvs [] kvs).map fun p => T.imm (D.lst (p.2.map ei))) = ((cpD kvs [] kvs).map fun p => D.lst (p.2.map ei)).map .imm := by rw [List.map_map]; rfl
      rw [e]
      exact Owns.imm q10
    · rw [List.mem_singleton.mp ha]; exact ⟨hHD, q7⟩
/-! a place of a dict as a target beside others -/
def okO {α : Type} : R α → Option α
  | .ok x => some x
  | _ => none
theorem okO_some {α : Type} {m : R α} {x : α} (h : okO m = some x) : m = .ok x := by
  cases m <;> first | cases h | skip
  rfl
theorem S.dropF {G : Ctx} {F M0 M H : Hp} {ts : List T} {vs : List V} {σ : L2.St} {Γ : List Sl} (hlen : vs.length = ts.length) (s : S G F M0 M H (vs.map some ++ σ) (ts.map .ow ++ Γ)) : S G F M0 M H σ Γ := by
  obtain ⟨as, f, sa⟩ := s
  obtain ⟨a1, a2, e, _, q⟩ := Sat.split hlen sa
  exact ⟨a2, f.sub (by rw [e]; exact List.sublist_append_right _ _), q⟩
theorem dgx_dic {ei : β → D} {kvs ys : List (Int × β)} {x : β} {k : Int} {mi : R Int} {b : Expr} {n : Str} {p ps : Pos} (hu : X.A.units + 64 < cLine) (i : Nat) (h : Γ[i]? = some (.ow (tDic ei kvs))) (hb : DD X W Γ b D.int mi) (hk : okO mi = some k) (hs : putDO kvs k x = some ys) (hN : X.N[i]? = some n := by rfl) (hv : Vis X.env.scope n := by first | exact Or.inl rfl | exact Or.inr (Or.inl rfl) | exact Or.inr (Or.inr rfl))
    (hd : (n == ("__debug__" : Str)) = false := by decide) (hcd : (n == ("__classdict__" : Str)) = false := by decide)
    (ha : ∀ v, assign (.Subscript (.Name n p) b ps) X.env v = (do
      let ov ← holding [v] (eval (.Name n p) X.env)
      let iv ← holding [v, ov] (eval b X.env)
      standAt ps
      holding [v, ov, iv] (setItem ov iv v)
      release [v, ov, iv] []) := by intro _; rfl) :
    DGX X Γ (.Subscript (.Name n p) b ps) (Γ.set i (.ow (tDic ei ys))) (.imm (ei x)) :=
  ⟨_, pg_sub (pe_var hN hv hd hcd) (pe_w X b) (set_dict (by omega)) ha, fun F M0 M H σ v vs ts Q hlen s q => by
    rw [okO_some hk] at hb
    have h' : (ts.map Sl.ow ++ Γ)[ts.length + i]? = some (.ow (tDic ei kvs)) := by rw [List.getElem?_append_right (by rw [List.length_map]; omega), List.length_map, Nat.add_sub_cancel_left]; exact h
    obtain ⟨as, o⟩ := s.head
    have rv : Rep X.G M (ei x) v := o.2
    have sd := S.dropF hlen s.front
    obtain ⟨v0, w0, a0, h1, h2, h3⟩ := sd.at (p := []) h rfl rfl
    have h2 : w0 = v0 := h2
    subst h2
    refine ⟨w0, h1, ?_⟩
    refine hb F M0 M H σ _ sd (show Po (R.ok k) _ _ from fun w M2 H2 g2 r2 => ?_)
    have st2 := s.front.grow g2
    have h1' : (vs.map some ++ σ)[ts.length + i]? = some (some w0) := by
      rw [List.getElem?_append_right (by rw [List.length_map]; omega), List.length_map, hlen, Nat.add_sub_cancel_left]; exact h1
    obtain ⟨a, o1, nd, ma, kk⟩ := st2.root (p := []) h' rfl rfl h1' rfl
    obtain ⟨ad, ws, r, rfl, ea', q1, q2, q3⟩ := id o1
    have e : (kvs.map fun p => T.imm (ei p.2)) = (kvs.map fun p => ei p.2).map .imm := by rw [List.map_map]; rfl
    rw [e] at q3
    obtain ⟨q4, er⟩ := Owns.of_imm q3
    subst er
    unfold putDO at hs
    by_cases c : kvs.length < 16777216
    · rw [if_pos c] at hs
      cases hs
      have lv : ws.length = kvs.length := by
        have := congrArg List.length q2
        rw [List.length_map, List.length_map] at this
        exact this
      rw [show w = .int k from r2]
      refine ⟨ad, _, rfl, DPut.k (k := (.inl k : Key)) q1 (by rw [lv, sizeLine_eq]; exact c), ?_⟩
      obtain ⟨k1, k2⟩ := dk_put (k := k) (Rep.mono g2.mm _ _ rv) q2 q4
      refine q M2 _ σ ?_
      have s2 := kk ad [] rfl ea' M2 H2 _ (tDic ei (putD kvs k x)) [] (.refl st2.mh) ⟨ad, _, [], rfl, rfl, upd_same, k1, by
        have e : ((putD kvs k x).map fun p => T.imm (ei p.2)) = ((putD kvs k x).map fun p => ei p.2).map .imm := by rw [List.map_map]; rfl
        rw [e]
        exact Owns.imm k2⟩ List.nodup_nil fun b hb => nomatch hb
      have es : (ts.map Sl.ow ++ Γ).set (ts.length + i) (.ow (tDic ei (putD kvs k x))) = ts.map Sl.ow ++ Γ.set i (.ow (tDic ei (putD kvs k x))) := by
        rw [List.set_append_right _ _ (by rw [List.length_map]; omega), List.length_map, Nat.add_sub_cancel_left]
      rw [← es]
      exact s2
    · rw [if_neg c] at hs; cases hs⟩
/-! a slot's tree seen as data while something new is made that has none of it -/
theorem df_borrow {α : Type} {e : Expr} {emb : α → T} {m : R α} {t : T} {d : D} (i : Nat) (h : Γ[i]? = some (.ow t)) (hd : fz t = d) (hE : DF X W (Γ.set i (.ow (.imm d))) e emb m) (hs : ∀ x M M' H v as, Own X.G M H (emb x) v as → Own X.G M' H (emb x) v as) : DF X W Γ e emb m := ⟨fun F M0 M H σ Q s po => by
  subst hd
  obtain ⟨M', s'⟩ := s.freeze h
  refine hE F M0 M' H σ Q s' (po.imp (fun x _ k v M2 H2 as g o nd fr => k v M H2 as (gr_back s.mh g) (hs _ _ _ _ _ _ o) nd fun a ha => ⟨(fr a ha).1, ?_⟩) fun c z M2 H2 g => z M H2 (gr_back s.mh g))
  cases e : M a with
  | none => rfl
  | some o => have := (fr a ha).1; rw [s.mh a o e] at this; cases this⟩
theorem own_ints {G : Ctx} (xs : List Int) (M M' H : Hp) (v : V) (as : List Addr) (h : Own G M H (.lst (xs.map fun x => .imm (.int x))) v as) : Own G M' H (.lst (xs.map fun x => .imm (.int x))) v as := by
  obtain ⟨a, vs, r, rfl, e, h1, h2⟩ := h
  refine ⟨a, vs, r, rfl, e, h1, ?_⟩
  rw [map_imm] at h2 ⊢
  obtain ⟨q, er⟩ := Owns.of_imm h2
  subst er
  rw [reps_ints q]
  exact Owns.imm (ints_reps xs)
/-! texts put together -/
def catS (x y : Str) : Option Str := if x.length + y.length ≤ 16777216 then some (x ++ y) else none
theorem dd_catS {a b : Expr} {m n : R Str} (ha : DD X W Γ a D.str m) (hb : DD X W Γ b D.str n) : DD X W Γ (.BinOp a .Add b pos) D.str (m >>= fun x => n >>= fun y => ofO (catS x y)) :=
  dd_op (f := catS) (fun x y z M H v w Q hm hx hy hf q => by
    unfold catS at hf
    by_cases c : x.length + y.length ≤ 16777216
    · rw [if_pos c] at hf; cases hf; exact ⟨x, y, hx, hy, by rw [sizeLine_eq]; exact c, q _ M H (.refl hm) rfl⟩
    · rw [if_neg c] at hf; cases hf) op_add_str ha hb
end
end Cn
/-! Cm: loops of the mirrors, in plain Lean -/
namespace Cn
open PySem PySem.Spec L2
theorem ofO_some {α : Type} {x : α} : ofO (some x) = .ok x := by
  have : ∀ o : Option α, o = some x → ofO o = .ok x := fun o h => by rw [h]; rfl
  exact this _ (Eq.refl _)
theorem forS_nil {α S : Type} {f : α → S → R S} {s : S} : forS f [] s = .ok s := rfl
theorem forS_cons {α S : Type} {f : α → S → R S} {x : α} {xs : List α} {s : S} : forS f (x :: xs) s = f x s >>= fun s => forS f xs s := rfl
theorem forS_ind {α S : Type} {f : α → S → R S} {xs : List α} {s : S} (I : Nat → S → Prop) (h0 : I 0 s) (h : ∀ i (hi : i < xs.length) s, I i s → ∃ s', f xs[i] s = .ok s' ∧ I (i + 1) s') : ∃ s', forS f xs s = .ok s' ∧ I xs.length s' := by
  induction xs generalizing s I with
  | nil => exact ⟨s, rfl, h0⟩
  | cons x xs ih =>
    obtain ⟨s1, e1, i1⟩ := h 0 (Nat.succ_pos _) s h0
    obtain ⟨s2, e2, i2⟩ := ih (s := s1) (fun i s => I (i + 1) s) i1 fun i hi s q => h (i + 1) (Nat.succ_lt_succ hi) s q
    refine ⟨s2, ?_, i2⟩
    show (f x s >>= fun s => forS f xs s) = _
    rw [show f x s = .ok s1 from e1]
    exact e2
/-- .. each round leaves the loop going -/
theorem forX_ind {α S ω : Type} {f : α → S → R (Lo S ω)} {xs : List α} {s : S} (I : Nat → S → Prop) (h0 : I 0 s) (h : ∀ i (hi : i < xs.length) s, I i s → ∃ s', f xs[i] s = .ok (.nx s') ∧ I (i + 1) s') : ∃ s', forX f xs s = .ok (.inl s') ∧ I xs.length s' := by
  induction xs generalizing s I with
  | nil => exact ⟨s, rfl, h0⟩
  | cons x xs ih =>
    obtain ⟨s1, e1, i1⟩ := h 0 (Nat.succ_pos _) s h0
    obtain ⟨s2, e2, i2⟩ := ih (s := s1) (fun i s => I (i + 1) s) i1 fun i hi s q => h (i + 1) (Nat.succ_lt_succ hi) s q
    refine ⟨s2, ?_, i2⟩
    show (f x s >>= _) = _
    rw [show f x s = .ok (.nx s1) from e1]
    exact e2
theorem forX_nx {α S ω : Type} {f : α → S → R (Lo S ω)} {xs : List α} {s : S} (h : ∀ x ∈ xs, f x s = .ok (.nx s)) : forX f xs s = .ok (.inl s) := by
  induction xs with
  | nil => rfl
  | cons x xs ih =>
    show (f x s >>= _) = _
    rw [h x List.mem_cons_self]
    exact ih fun y hy => h y (List.mem_cons_of_mem _ hy)
theorem whileS_ind {S : Type} {mc : S → R Bool} {mb : S → R S} {Q : S → Prop} (I : Nat → S → Prop) (h : ∀ n s, I n s → (mc s = .ok false ∧ Q s) ∨ (mc s = .ok true ∧ ∃ s' n', n' < n ∧ mb s = .ok s' ∧ I n' s')) {n : Nat} {s : S} (h0 : I n s) : ∃ s', whileS mc mb s = .ok s' ∧ Q s' := by
  induction n using Nat.strongRecOn generalizing s with
  | ind n ih =>
    rw [whileS_eq]
    rcases h n s h0 with ⟨e, q⟩ | ⟨e, s', n', l, e2, q⟩
    · rw [e]; exact ⟨s, rfl, q⟩
    · rw [e]
      show ∃ s2, (if true = true then (mb s >>= fun s => whileS mc mb s) else .ok s) = .ok s2 ∧ Q s2
      rw [if_pos rfl, e2]
      exact ih n' l q
theorem whileX_ind {S ω : Type} {mc : S → R Bool} {mb : S → R (Lo S ω)} {Q : S ⊕ ω → Prop} (I : Nat → S → Prop) (h : ∀ n s, I n s → (mc s = .ok false ∧ Q (.inl s)) ∨ (mc s = .ok true ∧ ((∃ s' n', n' < n ∧ mb s = .ok (.nx s') ∧ I n' s') ∨ (∃ s', mb s = .ok (.bk s') ∧ Q (.inl s')) ∨ ∃ o, mb s = .ok (.ex o) ∧ Q (.inr o)))) {n : Nat} {s : S} (h0 : I n s) : ∃ o, whileX mc mb s = .ok o ∧ Q o := by
  induction n using Nat.strongRecOn generalizing s with
  | ind n ih =>
    rw [whileX_eq]
    rcases h n s h0 with ⟨e, q⟩ | ⟨e, ⟨s', n', l, e2, q⟩ | ⟨s', e2, q⟩ | ⟨o, e2, q⟩⟩
    · rw [e]; exact ⟨_, rfl, q⟩
    · rw [e, bind_ok, if_pos rfl, e2, bind_ok]
      exact ih n' l q
    · rw [e, bind_ok, if_pos rfl, e2, bind_ok]
      exact ⟨_, rfl, q⟩
    · rw [e, bind_ok, if_pos rfl, e2, bind_ok]
      exact ⟨_, rfl, q⟩
theorem forS_to {α S T : Type} {f : α → S → R S} {xs : List α} {s : S} {k : S → R T} {r : R T} (I : Nat → S → Prop) (h0 : I 0 s) (h : ∀ i (hi : i < xs.length) s, I i s → ∃ s', f xs[i] s = .ok s' ∧ I (i + 1) s') (hk : ∀ s, I xs.length s → k s = r) : (forS f xs s >>= k) = r := by
  obtain ⟨s', e, i⟩ := forS_ind I h0 h
  rw [e, bind_ok]
  exact hk s' i
theorem forX_to {α S T ω : Type} {f : α → S → R (Lo S ω)} {xs : List α} {s : S} {k : S ⊕ ω → R T} {r : R T} (I : Nat → S → Prop) (h0 : I 0 s) (h : ∀ i (hi : i < xs.length) s, I i s → ∃ s', f xs[i] s = .ok (.nx s') ∧ I (i + 1) s') (hk : ∀ s, I xs.length s → k (.inl s) = r) : (forX f xs s >>= k) = r := by
  obtain ⟨s', e, i⟩ := forX_ind I h0 h
  rw [e, bind_ok]
  exact hk s' i
/-- a loop that changes nothing and leaves for no item -/
theorem forX_pass {α S T ω : Type} {f : α → S → R (Lo S ω)} {xs : List α} {s : S} {k : S ⊕ ω → R T} {r : R T} (h : ∀ x ∈ xs, f x s = .ok (.nx s)) (hk : k (.inl s) = r) : (forX f xs s >>= k) = r := by
  rw [forX_nx h, bind_ok]
  exact hk
theorem whileS_to {S T : Type} {mc : S → R Bool} {mb : S → R S} {k : S → R T} {r : R T} (I : Nat → S → Prop) (n : Nat) {s : S} (h0 : I n s) (h : ∀ n s, I n s → (mc s = .ok false ∧ k s = r) ∨ (mc s = .ok true ∧ ∃ s' n', n' < n ∧ mb s = .ok s' ∧ I n' s')) : (whileS mc mb s >>= k) = r := by
  obtain ⟨s', e, i⟩ := whileS_ind (Q := fun s => k s = r) I h h0
  rw [e, bind_ok]
  exact i
theorem whileX_to {S T ω : Type} {mc : S → R Bool} {mb : S → R (Lo S ω)} {k : S ⊕ ω → R T} {r : R T} (I : Nat → S → Prop) (n : Nat) {s : S} (h0 : I n s) (h : ∀ n s, I n s → (mc s = .ok false ∧ k (.inl s) = r) ∨ (mc s = .ok true ∧ ((∃ s' n', n' < n ∧ mb s = .ok (.nx s') ∧ I n' s') ∨ (∃ s', mb s = .ok (.bk s') ∧ k (.inl s') = r) ∨ ∃ o, mb s = .ok (.ex o) ∧ k (.inr o) = r))) : (whileX mc mb s >>= k) = r := by
  obtain ⟨s', e, i⟩ := whileX_ind (Q := fun s => k s = r) I h h0
  rw [e, bind_ok]
  exact i
theorem forS_ex {α S T : Type} {f : α → S → R S} {xs : List α} {s : S} {k : S → R T} {Q : T → Prop} (I : Nat → S → Prop) (h0 : I 0 s) (h : ∀ i (hi : i < xs.length) s, I i s → ∃ s', f xs[i] s = .ok s' ∧ I (i + 1) s') (hk : ∀ s, I xs.length s → ∃ r, k s = .ok r ∧ Q r) : ∃ r, (forS f xs s >>= k) = .ok r ∧ Q r := by
  obtain ⟨s', e, i⟩ := forS_ind I h0 h
  rw [e, bind_ok]
  exact hk s' i
theorem irange_nat (n : Nat) : irange 0 (n : Int) = (List.range n).map fun i : Nat => (i : Int) := by
  unfold irange
  rw [show ((n : Int) - 0).toNat = n by omega]
  refine List.map_congr_left fun i _ => ?_
  omega
theorem irange_lenN (n : Nat) : (irange 0 (n : Int)).length = n := by rw [irange_len]; omega
theorem irange_ix {n : Nat} {i : Nat} (h : i < (irange 0 (n : Int)).length) : (irange 0 (n : Int))[i] = (i : Int) := by
  have := irange_get (List.getElem?_eq_getElem h)
  omega
theorem rangeO_nat {n : Nat} (h : n < 4611686018427387904) : rangeO 0 (n : Int) = some (irange 0 (n : Int)) := by
  unfold rangeO
  rw [if_pos (by rw [Bool.and_eq_true, small_iff, small_iff]; omega)]
theorem atI_nat' {α : Type} {xs : List α} {i : Nat} (h : i < xs.length) : atI xs (i : Int) = some xs[i] := by rw [L2.atI_nat (j := i) (List.getElem?_eq_getElem h)]
theorem modO_pos {i j : Int} (h : 0 < j) : modO i j = some (i % j) := by unfold modO; rw [if_pos h]
theorem divO_pos {i j : Int} (h : 0 < j) (h2 : j < 1073741824) : divO i j = some (i / j) := by unfold divO; rw [if_pos ⟨h, h2⟩]
theorem appO_ok {α : Type} {xs : List α} {x : α} (h : xs.length < 16777216) : appO xs x = some (xs ++ [x]) := by unfold appO; rw [if_pos h]
theorem shlO_ok {i : Int} {j : Nat} (h : 0 ≤ i) (h2 : i < 18446744073709551616) (hj : j ≤ 1000000) : shlO i (j : Int) = some (i * 2 ^ j) := by unfold shlO; rw [if_pos ⟨by omega, by omega, by omega⟩]; rfl
end Cn
/-! Ce: == of data, in plain Lean; slices, sums of lists -/
namespace Cn
open PySem PySem.Spec L2
/-- a kind of data whose == is plain equality -/
structure Eqd {α : Type} [DecidableEq α] (e : α → D) (P : α → Prop) (n : Nat) : Prop where
  can : ∀ x, P x → PyData.canLay0 (toPy (e x)) = true
  dep : ∀ x, PyData.depth (toPy (e x)) ≤ n
  eqv : ∀ x y, PyData.eqv (toPy (e x)) (toPy (e y)) = decide (x = y)
theorem eqd_int : Eqd D.int (fun _ => True) 0 := ⟨fun _ _ => rfl, fun _ => Nat.le_refl 0, fun x y => by
  show (x == y) = _
  rw [Bool.eq_iff_iff, beq_iff_eq, decide_eq_true_iff]⟩
theorem eqd_bl : Eqd D.bl (fun _ => True) 0 := ⟨fun _ _ => rfl, fun _ => Nat.le_refl 0, fun x y => by cases x <;> cases y <;> rfl⟩
theorem eqd_str : Eqd D.str (fun x => PyData.strOk x = true) 0 := ⟨fun _ h => h, fun _ => Nat.le_refl 0, fun x y => by
  show (x == y) = _
  rw [Bool.eq_iff_iff, beq_iff_eq, decide_eq_true_iff]⟩
section
variable {α : Type} [DecidableEq α] {e : α → D} {P : α → Prop} {n : Nat}
theorem all_can (h : Eqd e P n) : ∀ xs : List α, (∀ x ∈ xs, P x) → PyData.canLayAll0 (toPys (xs.map e)) = true
  | [], _ => rfl
  | x :: xs, hx => by
    show (PyData.canLay0 (toPy (e x)) && PyData.canLayAll0 (toPys (xs.map e))) = true
    rw [h.can x (hx x List.mem_cons_self), all_can h xs fun y hy => hx y (List.mem_cons_of_mem _ hy)]
    rfl
theorem all_dep (h : Eqd e P n) : ∀ xs : List α, PyData.depthAll (toPys (xs.map e)) ≤ n
  | [] => Nat.zero_le _
  | x :: xs => by
    show max (PyData.depth (toPy (e x))) (PyData.depthAll (toPys (xs.map e))) ≤ n
    exact Nat.max_le.mpr ⟨h.dep x, all_dep h xs⟩
theorem all_eqv (h : Eqd e P n) : ∀ xs ys : List α, PyData.eqvAll (toPys (xs.map e)) (toPys (ys.map e)) = decide (xs = ys)
  | [], [] => rfl
  | [], _ :: _ => rfl
  | _ :: _, [] => rfl
  | x :: xs, y :: ys => by
    show (PyData.eqv (toPy (e x)) (toPy (e y)) && PyData.eqvAll (toPys (xs.map e)) (toPys (ys.map e))) = _
    rw [h.eqv x y, all_eqv h xs ys, Bool.eq_iff_iff, Bool.and_eq_true, decide_eq_true_iff, decide_eq_true_iff, decide_eq_true_iff, List.cons.injEq]
theorem eqd_tup (h : Eqd e P n) : Eqd (fun xs : List α => D.tup (xs.map e)) (fun xs => ∀ x ∈ xs, P x) (n + 1) :=
  ⟨fun xs hx => all_can h xs hx, fun xs => Nat.succ_le_succ (all_dep h xs), fun xs ys => all_eqv h xs ys⟩
theorem eqd_lst (h : Eqd e P n) : Eqd (fun xs : List α => D.lst (xs.map e)) (fun xs => ∀ x ∈ xs, P x) (n + 1) :=
  ⟨fun xs hx => all_can h xs hx, fun xs => Nat.succ_le_succ (all_dep h xs), fun xs ys => all_eqv h xs ys⟩
end
section
variable {α β γ : Type} [DecidableEq α] [DecidableEq β] [DecidableEq γ] {e : α → D} {f : β → D} {g : γ → D} {P : α → Prop} {Q : β → Prop} {S : γ → Prop} {n : Nat}
theorem eqd_p2 (h1 : Eqd e P n) (h2 : Eqd f Q n) : Eqd (fun p : α × β => D.tup [e p.1, f p.2]) (fun p => P p.1 ∧ Q p.2) (n + 1) :=
  ⟨fun p hp => by
    show (PyData.canLay0 (toPy (e p.1)) && (PyData.canLay0 (toPy (f p.2)) && true)) = true
    rw [h1.can _ hp.1, h2.can _ hp.2]; rfl, fun p => by
    show max (PyData.depth (toPy (e p.1))) (max (PyData.depth (toPy (f p.2))) 0) + 1 ≤ n + 1
    have a := h1.dep p.1
    have b := h2.dep p.2
    omega, fun p q => by
    show (PyData.eqv (toPy (e p.1)) (toPy (e q.1)) && (PyData.eqv (toPy (f p.2)) (toPy (f q.2)) && true)) = _
    rw [h1.eqv, h2.eqv, Bool.eq_iff_iff]
    simp [Prod.ext_iff]⟩
theorem eqd_p3 (h1 : Eqd e P n) (h2 : Eqd f Q n) (h3 : Eqd g S n) : Eqd (fun p : α × β × γ => D.tup [e p.1, f p.2.1, g p.2.2]) (fun p => P p.1 ∧ Q p.2.1 ∧ S p.2.2) (n + 1) :=
  ⟨fun p hp => by
    show (PyData.canLay0 (toPy (e p.1)) && (PyData.canLay0 (toPy (f p.2.1)) && (PyData.canLay0 (toPy (g p.2.2)) && true))) = true
    rw [h1.can _ hp.1, h2.can _ hp.2.1, h3.can _ hp.2.2]; rfl, fun p => by
    show max (PyData.depth (toPy (e p.1))) (max (PyData.depth (toPy (f p.2.1))) (max (PyData.depth (toPy (g p.2.2))) 0)) + 1 ≤ n + 1
    have a := h1.dep p.1
    have b := h2.dep p.2.1
    have c := h3.dep p.2.2
    omega, fun p q => by
    show (PyData.eqv (toPy (e p.1)) (toPy (e q.1)) && (PyData.eqv (toPy (f p.2.1)) (toPy (f q.2.1)) && (PyData.eqv (toPy (g p.2.2)) (toPy (g q.2.2)) && true))) = _
    rw [h1.eqv, h2.eqv, h3.eqv, Bool.eq_iff_iff]
    simp [Prod.ext_iff]⟩
end
theorem Eqd.weak {α : Type} [DecidableEq α] {e : α → D} {P : α → Prop} {n m : Nat} (h : Eqd e P n) (l : n ≤ m) : Eqd e P m := ⟨h.can, fun x => Nat.le_trans (h.dep x) l, h.eqv⟩
theorem Eqd.eqO {α : Type} [DecidableEq α] {e : α → D} {P : α → Prop} {n : Nat} (h : Eqd e P n) (l : n ≤ 64) {x y : α} (hx : P x) (hy : P y) : Cn.eqO (e x) (e y) = some (decide (x = y)) := by
  unfold Cn.eqO SeqAt.shaped
  rw [h.can x hx, h.can y hy, decide_eq_true (Nat.le_trans (h.dep x) l), decide_eq_true (Nat.le_trans (h.dep y) l), h.eqv x y]
  rfl
theorem eqO_ints (xs ys : List Int) : eqO (.lst (xs.map D.int)) (.lst (ys.map D.int)) = some (decide (xs = ys)) := (eqd_lst eqd_int).eqO (by decide) (fun _ _ => trivial) (fun _ _ => trivial)
theorem eqO_tints (xs ys : List Int) : eqO (.tup (xs.map D.int)) (.tup (ys.map D.int)) = some (decide (xs = ys)) := (eqd_tup eqd_int).eqO (by decide) (fun _ _ => trivial) (fun _ _ => trivial)
/-! ### slices, sums of lists -/
section
variable {α β : Type}
theorem cut_to (xs : List α) (n : Nat) : cutL xs none (some (n : Int)) = xs.take n := by
  unfold cutL
  rw [HT.sIx_nat, HT.sIx_none, List.drop_zero, Nat.sub_zero]
  rcases Nat.le_total n xs.length with h | h
  · rw [Nat.min_eq_left h]
  · rw [Nat.min_eq_right h, List.take_of_length_le (Nat.le_refl _), List.take_of_length_le h]
theorem cut_from (xs : List α) (n : Nat) : cutL xs (some (n : Int)) none = xs.drop n := by
  unfold cutL
  rw [HT.sIx_nat, HT.sIx_none]
  rcases Nat.le_total n xs.length with h | h
  · rw [Nat.min_eq_left h, List.take_of_length_le (by rw [List.length_drop]; omega)]
  · rw [Nat.min_eq_right h, List.drop_of_length_le (Nat.le_refl _), List.drop_of_length_le h]; simp
theorem cut_mid (xs : List α) (m n : Nat) : cutL xs (some (m : Int)) (some (n : Int)) = (xs.take n).drop m := by
  unfold cutL
  rw [HT.sIx_nat, HT.sIx_nat, List.drop_take]
  rcases Nat.le_total m xs.length with h | h
  · rw [Nat.min_eq_left h]
    rcases Nat.le_total n xs.length with h2 | h2
    · rw [Nat.min_eq_left h2]
    · rw [Nat.min_eq_right h2, List.take_of_length_le (by rw [List.length_drop]; omega), List.take_of_length_le (by rw [List.length_drop]; omega)]
  · rw [Nat.min_eq_right h, List.drop_of_length_le (Nat.le_refl _), List.drop_of_length_le h]; simp
theorem cut_all (xs : List α) : cutL xs none none = xs := by
  unfold cutL
  rw [HT.sIx_none, HT.sIx_none, List.drop_zero, Nat.sub_zero, List.take_of_length_le (Nat.le_refl _)]
theorem catO_ok {xs ys : List α} (h : xs.length + ys.length ≤ 16777216) : catO xs ys = some (xs ++ ys) := if_pos h
theorem repO_one {x : α} {n : Nat} (h : n ≤ 16777216) : repO [x] (n : Int) = some (List.replicate n x) := by
  unfold repO
  rw [if_pos ⟨by omega, by omega, by rw [List.length_singleton, Int.toNat_natCast]; omega⟩, Int.toNat_natCast, List.flatten_replicate_singleton]
theorem repO_neg {x : α} {k : Int} (h : k ≤ 0) (h2 : -9223372036854775808 ≤ k) : repO [x] k = some [] := by
  unfold repO
  rw [if_pos ⟨by omega, by omega, by rw [show k.toNat = 0 by omega]; simp⟩, show k.toNat = 0 by omega]
  rfl
/-- a comprehension without a test whose items never stop -/
theorem lcR_map {c : α → R Bool} {f : α → R β} {g : α → β} : ∀ {xs : List α}, (∀ x ∈ xs, c x = .ok true) → (∀ x ∈ xs, f x = .ok (g x)) → lcR c f xs = .ok (xs.map g)
  | [], _, _ => rfl
  | x :: xs, hc, hf => by
    show (noErr (c x) >>= _) = _
    rw [hc x List.mem_cons_self]
    show (noErr (f x) >>= _) = _
    rw [hf x List.mem_cons_self]
    show (lcR c f xs >>= _) = _
    rw [lcR_map (fun y hy => hc y (List.mem_cons_of_mem _ hy)) fun y hy => hf y (List.mem_cons_of_mem _ hy)]
    rfl
theorem compR_map {c : α → R Bool} {f : α → R β} {xs : List α} (g : α → β) (h : xs.length ≤ 16777216) (hc : ∀ x ∈ xs, c x = .ok true) (hf : ∀ x ∈ xs, f x = .ok (g x)) : compR c f xs = .ok (xs.map g) := by
  unfold compR
  rw [if_pos h, lcR_map hc hf]
/-- .. with a test -/
theorem lcR_filter {c : α → R Bool} {f : α → R β} {p : α → Bool} {g : α → β} : ∀ {xs : List α}, (∀ x ∈ xs, c x = .ok (p x)) → (∀ x ∈ xs, p x = true → f x = .ok (g x)) → lcR c f xs = .ok ((xs.filter p).map g)
  | [], _, _ => rfl
  | x :: xs, hc, hf => by
    have ih := lcR_filter (c := c) (f := f) (p := p) (g := g) (xs := xs) (fun y hy => hc y (List.mem_cons_of_mem _ hy)) fun y hy => hf y (List.mem_cons_of_mem _ hy)
    show (noErr (c x) >>= _) = _
    rw [hc x List.mem_cons_self]
    cases e : p x with
    | false =>
      show lcR c f xs = _
      rw [ih, List.filter_cons_of_neg (by rw [e]; decide)]
    | true =>
      show (noErr (f x) >>= _) = _
      rw [hf x List.mem_cons_self e]
      show (lcR c f xs >>= _) = _
      rw [ih, List.filter_cons_of_pos e]
      rfl
theorem compR_filter {c : α → R Bool} {f : α → R β} {xs : List α} (p : α → Bool) (g : α → β) (h : xs.length ≤ 16777216) (hc : ∀ x ∈ xs, c x = .ok (p x)) (hf : ∀ x ∈ xs, p x = true → f x = .ok (g x)) : compR c f xs = .ok ((xs.filter p).map g) := by
  unfold compR
  rw [if_pos h, lcR_filter hc hf]
end
end Cn
/-! Gf: octets, as plain numbers -/
namespace Cn
open PySem PySem.Spec L2
theorem xor_m2 (a b : Nat) : (a ^^^ b) % 2 = (a + b) % 2 := by
  have e : (a ^^^ b) % 2 = 1 ↔ ¬(a % 2 = 1 ↔ b % 2 = 1) := Nat.xor_mod_two_eq_one
  by_cases p : a % 2 = 1 <;> by_cases q : b % 2 = 1
  · have : ¬ (a ^^^ b) % 2 = 1 := fun z => e.mp z (iff_of_true p q)
    omega
  · have : (a ^^^ b) % 2 = 1 := e.mpr fun z => q (z.mp p)
    omega
  · have : (a ^^^ b) % 2 = 1 := e.mpr fun z => p (z.mpr q)
    omega
  · have : ¬ (a ^^^ b) % 2 = 1 := fun z => e.mp z (iff_of_false p q)
    omega
theorem xor_and_add : ∀ (a b : Nat), (a ^^^ b) + 2 * (a &&& b) = a + b := by
  intro a
  induction a using Nat.strongRecOn with
  | ind a ih =>
    intro b
    by_cases h : a = 0
    · subst h; simp
    · have i := ih (a / 2) (by omega) (b / 2)
      have e1 : (a ^^^ b) / 2 = a / 2 ^^^ b / 2 := Nat.xor_div_two
      have e2 : (a &&& b) / 2 = a / 2 &&& b / 2 := Nat.and_div_two
      have e3 : (a ^^^ b) % 2 = (a + b) % 2 := xor_m2 a b
      have e4 : (a &&& b) % 2 = 1 ↔ a % 2 = 1 ∧ b % 2 = 1 := Nat.and_mod_two_eq_one
      by_cases p : a % 2 = 1 ∧ b % 2 = 1
      · have := e4.mpr p; omega
      · have : ¬ (a &&& b) % 2 = 1 := fun z => p (e4.mp z)
        omega
theorem band_nat (a b : Nat) : Builtin.bitAnd (a : Int) (b : Int) = ((a &&& b : Nat) : Int) := by
  unfold Builtin.bitAnd
  rw [decide_eq_true (Int.natCast_nonneg a), decide_eq_true (Int.natCast_nonneg b)]
  rfl
theorem bx (a b : Nat) : Builtin.bitXor (a : Int) (b : Int) = ((a ^^^ b : Nat) : Int) := by
  rw [PyProof.Rows.bitXor_and, band_nat]
  have := xor_and_add a b
  omega
/-! ### times x, times -/
def xt (a : Nat) : Nat := bif Nat.ble 128 a then (2 * a) ^^^ 285 else 2 * a
def mulN : Nat → Nat → Nat → Nat → Nat
  | 0, _, _, p => p
  | k + 1, a, b, p => mulN k (xt a) (b / 2) (bif b % 2 == 1 then p ^^^ a else p)
def gm (a b : Nat) : Nat := mulN 8 a b 0
def allB (n : Nat) (p : Nat → Bool) : Bool := Nat.rec true (fun k r => p k && r) n
theorem allB_of {p : Nat → Bool} : ∀ {n : Nat}, allB n p = true → ∀ k, k < n → p k = true
  | 0, _, k, hk => absurd hk (Nat.not_lt_zero _)
  | n + 1, h, k, hk => by
    have h : (p n && allB n p) = true := h
    rw [Bool.and_eq_true] at h
    rcases Nat.lt_succ_iff_lt_or_eq.mp hk with z | z
    · exact allB_of h.2 k z
    · subst z; exact h.1
theorem xt_lt {a : Nat} (h : a < 256) : xt a < 256 := by
  have := allB_of (p := fun a => Nat.blt (xt a) 256) (n := 256) (by decide +kernel) a h
  exact Nat.le_of_ble_eq_true this
theorem xt_xor {a b : Nat} (h : a < 256) (hb : b < 256) : xt (a ^^^ b) = xt a ^^^ xt b := by
  have := allB_of (allB_of (p := fun a => allB 256 fun b => xt (a ^^^ b) == xt a ^^^ xt b) (n := 256) (by decide +kernel) a h) b hb
  exact eq_of_beq this
theorem x_lt {a b : Nat} (h : a < 256) (hb : b < 256) : a ^^^ b < 256 := Nat.xor_lt_two_pow (n := 8) h hb
theorem mulN_lt : ∀ (k a b p : Nat), a < 256 → p < 256 → mulN k a b p < 256
  | 0, _, _, _, _, hp => hp
  | k + 1, a, b, p, ha, hp => mulN_lt k _ _ _ (xt_lt ha) (by cases (b % 2 == 1) with
    | true => exact x_lt hp ha
    | false => exact hp)
theorem gm_lt {a : Nat} (h : a < 256) (b : Nat) : gm a b < 256 := mulN_lt 8 a b 0 h (by decide)
theorem mulN_zero : ∀ (k a p : Nat), mulN k a 0 p = p
  | 0, _, _ => rfl
  | k + 1, a, p => mulN_zero k _ _
theorem xor4 (p p' a a' : Nat) : (p ^^^ p') ^^^ (a ^^^ a') = (p ^^^ a) ^^^ (p' ^^^ a') := by
  rw [Nat.xor_assoc, ← Nat.xor_assoc p' a a', Nat.xor_comm p' a, Nat.xor_assoc a p' a', ← Nat.xor_assoc p a]
theorem mulN_xl : ∀ (k a a' b p p' : Nat), a < 256 → a' < 256 → mulN k (a ^^^ a') b (p ^^^ p') = mulN k a b p ^^^ mulN k a' b p'
  | 0, _, _, _, _, _, _, _ => rfl
  | k + 1, a, a', b, p, p', h, h' => by
    show mulN k (xt (a ^^^ a')) (b / 2) _ = mulN k (xt a) (b / 2) _ ^^^ mulN k (xt a') (b / 2) _
    rw [xt_xor h h', ← mulN_xl k _ _ _ _ _ (xt_lt h) (xt_lt h')]
    cases (b % 2 == 1) with
    | false => rfl
    | true => exact congrArg (mulN k (xt a ^^^ xt a') (b / 2)) (xor4 p p' a a')
theorem mulN_xr : ∀ (k a b b' p p' : Nat), mulN k a (b ^^^ b') (p ^^^ p') = mulN k a b p ^^^ mulN k a b' p'
  | 0, _, _, _, _, _ => rfl
  | k + 1, a, b, b', p, p' => by
    show mulN k (xt a) ((b ^^^ b') / 2) _ = mulN k (xt a) (b / 2) _ ^^^ mulN k (xt a) (b' / 2) _
    rw [← mulN_xr k, Nat.xor_div_two]
    have e : (b ^^^ b') % 2 = (b + b') % 2 := xor_m2 b b'
    rw [e]
    refine congrArg (mulN k (xt a) (b / 2 ^^^ b' / 2)) ?_
    rcases Nat.mod_two_eq_zero_or_one b with z | z <;> rcases Nat.mod_two_eq_zero_or_one b' with y | y
    · rw [show (b + b') % 2 = 0 by omega, z, y]; rfl
    · rw [show (b + b') % 2 = 1 by omega, z, y]; exact Nat.xor_assoc _ _ _
    · rw [show (b + b') % 2 = 1 by omega, z, y]
      show p ^^^ p' ^^^ a = p ^^^ a ^^^ p'
      rw [Nat.xor_assoc, Nat.xor_comm p' a, Nat.xor_assoc]
    · rw [show (b + b') % 2 = 0 by omega, z, y]
      show p ^^^ p' = p ^^^ a ^^^ (p' ^^^ a)
      rw [← xor4, Nat.xor_self, Nat.xor_zero]
theorem gm_xl {a a' : Nat} (b : Nat) (h : a < 256) (h' : a' < 256) : gm (a ^^^ a') b = gm a b ^^^ gm a' b := mulN_xl 8 a a' b 0 0 h h'
theorem gm_xr (a b b' : Nat) : gm a (b ^^^ b') = gm a b ^^^ gm a b' := mulN_xr 8 a b b' 0 0
/-- two additive maps of octets that agree at the powers of two agree -/
theorem lin_ext {f g : Nat → Nat} (hf : ∀ x y, x < 256 → y < 256 → f (x ^^^ y) = f x ^^^ f y) (hg : ∀ x y, x < 256 → y < 256 → g (x ^^^ y) = g x ^^^ g y) (h : ∀ i, i < 8 → f (2 ^ i) = g (2 ^ i)) : ∀ a, a < 256 → f a = g a := by
  have h0 : f 0 = g 0 := by
    have e1 := hf 0 0 (by decide) (by decide)
    have e2 := hg 0 0 (by decide) (by decide)
    rw [Nat.xor_self] at e1 e2
    rw [Nat.xor_self] at e1 e2
    rw [e1, e2]
  have key : ∀ k, k ≤ 8 → ∀ a, a < 2 ^ k → f a = g a := by
    intro k
    induction k with
    | zero => intro _ a ha; have : a = 0 := by omega
              subst this; exact h0
    | succ k ih =>
      intro hk a ha
      by_cases c : a < 2 ^ k
      · exact ih (by omega) a c
      · have p1 : 2 ^ k < 256 := Nat.pow_lt_pow_right (by decide) (show k < 8 by omega)
        have e : a = (a - 2 ^ k) ^^^ 2 ^ k := by
          have l : a - 2 ^ k < 2 ^ k := by rw [Nat.pow_succ] at ha; omega
          have s := xor_and_add (a - 2 ^ k) (2 ^ k)
          have z : (a - 2 ^ k) &&& 2 ^ k = 0 := by
            
            apply Nat.eq_of_testBit_eq
            intro i
            rw [Nat.testBit_and, Nat.testBit_two_pow, Nat.zero_testBit]
            by_cases ki : k = i
            · subst ki; rw [Nat.testBit_lt_two_pow l]; rfl
            · simp [ki]
          omega
        have l : a - 2 ^ k < 2 ^ k := by rw [Nat.pow_succ] at ha; omega
        rw [e, hf _ _ (by omega) p1, hg _ _ (by omega) p1, ih (by omega) _ l, h k (by omega)]
  exact fun a ha => key 8 (Nat.le_refl _) a ha
theorem pow_lt8 {i : Nat} (h : i < 8) : 2 ^ i < 256 := Nat.pow_lt_pow_right (by decide) (show i < 8 from h)
theorem gm_comm {a b : Nat} (ha : a < 256) (hb : b < 256) : gm a b = gm b a := by
  refine lin_ext (f := fun a => gm a b) (g := fun a => gm b a) (fun x y hx hy => gm_xl b hx hy) (fun x y _ _ => gm_xr b x y) (fun i hi => ?_) a ha
  refine lin_ext (f := fun b => gm (2 ^ i) b) (g := fun b => gm b (2 ^ i)) (fun x y _ _ => gm_xr _ x y) (fun x y hx hy => gm_xl _ hx hy) (fun j hj => ?_) b hb
  exact eq_of_beq (allB_of (allB_of (p := fun i => allB 8 fun j => gm (2 ^ i) (2 ^ j) == gm (2 ^ j) (2 ^ i)) (n := 8) (by decide +kernel) i hi) j hj)
theorem gm_assoc {a b c : Nat} (ha : a < 256) (hb : b < 256) (hc : c < 256) : gm (gm a b) c = gm a (gm b c) := by
  refine lin_ext (f := fun a => gm (gm a b) c) (g := fun a => gm a (gm b c)) (fun x y hx hy => by
    show gm (gm (x ^^^ y) b) c = _
    rw [gm_xl b hx hy, gm_xl c (gm_lt hx b) (gm_lt hy b)]) (fun x y hx hy => gm_xl _ hx hy) (fun i hi => ?_) a ha
  have hi' := pow_lt8 hi
  refine lin_ext (f := fun b => gm (gm (2 ^ i) b) c) (g := fun b => gm (2 ^ i) (gm b c)) (fun x y _ _ => by
    show gm (gm _ (x ^^^ y)) c = _
    rw [gm_xr, gm_xl c (gm_lt hi' _) (gm_lt hi' _)]) (fun x y hx hy => by
    show gm _ (gm (x ^^^ y) c) = _
    rw [gm_xl c hx hy, gm_xr]) (fun j hj => ?_) b hb
  refine lin_ext (f := fun c => gm (gm (2 ^ i) (2 ^ j)) c) (g := fun c => gm (2 ^ i) (gm (2 ^ j) c)) (fun x y _ _ => gm_xr _ _ _) (fun x y _ _ => by
    show gm _ (gm _ (x ^^^ y)) = _
    rw [gm_xr, gm_xr]) (fun k hk => ?_) c hc
  exact eq_of_beq (allB_of (allB_of (allB_of (p := fun i => allB 8 fun j => allB 8 fun k => gm (gm (2 ^ i) (2 ^ j)) (2 ^ k) == gm (2 ^ i) (gm (2 ^ j) (2 ^ k))) (n := 8) (by decide +kernel) i hi) j hj) k hk)
theorem gm_one {a : Nat} (h : a < 256) : gm a 1 = a := eq_of_beq (allB_of (p := fun a => gm a 1 == a) (n := 256) (by decide +kernel) a h)
theorem one_gm {a : Nat} (h : a < 256) : gm 1 a = a := by rw [gm_comm (by decide) h, gm_one h]
theorem gm_zero (a : Nat) : gm a 0 = 0 := mulN_zero 8 a 0
theorem zero_gm {a : Nat} (h : a < 256) : gm 0 a = 0 := by rw [gm_comm (by decide) h, gm_zero]
def gpow (a : Nat) : Nat → Nat
  | 0 => 1
  | n + 1 => gm (gpow a n) a
theorem gpow_lt {a : Nat} (h : a < 256) : ∀ n, gpow a n < 256
  | 0 => (by decide : 1 < 256)
  | n + 1 => gm_lt (gpow_lt h n) a
theorem gpow_add {a : Nat} (h : a < 256) (m : Nat) : ∀ n, gpow a (m + n) = gm (gpow a m) (gpow a n)
  | 0 => (gm_one (gpow_lt h m)).symm
  | n + 1 => by
    show gm (gpow a (m + n)) a = gm (gpow a m) (gm (gpow a n) a)
    rw [gpow_add h m n, gm_assoc (gpow_lt h m) (gpow_lt h n) h]
theorem gpow_sq {a : Nat} (h : a < 256) (n : Nat) : gpow (gm a a) n = gpow a (2 * n) := by
  induction n with
  | zero => rfl
  | succ n ih =>
    show gm (gpow (gm a a) n) (gm a a) = gpow a (2 * (n + 1))
    rw [ih, show 2 * (n + 1) = 2 * n + 2 by omega, gpow_add h (2 * n) 2]
    show _ = gm _ (gm (gm 1 a) a)
    rw [one_gm h]
/-- 1 / a -/
def ginv (a : Nat) : Nat := gpow a 254
theorem ginv_lt {a : Nat} (h : a < 256) : ginv a < 256 := gpow_lt h 254
def gsq (a : Nat) : Nat := gm a a
def gchain : Nat → Nat → Nat → Nat
  | 0, _, p => p
  | k + 1, a, p => gchain k (gsq a) (gm p a)
theorem gchain_pow : ∀ (k a p : Nat), a < 256 → p < 256 → gchain k a p = gm p (gpow a (2 ^ k - 1))
  | 0, a, p, _, hp => (gm_one hp).symm
  | k + 1, a, p, ha, hp => by
    show gchain k (gsq a) (gm p a) = _
    have := Nat.one_le_two_pow (n := k)
    rw [gchain_pow k (gsq a) (gm p a) (gm_lt ha a) (gm_lt hp a), show 2 ^ (k + 1) - 1 = 1 + 2 * (2 ^ k - 1) by rw [Nat.pow_succ]; omega, gpow_add ha, ← gpow_sq ha, show gsq a = gm a a from rfl, gm_assoc hp ha (gpow_lt (gm_lt ha a) _)]
    show gm p (gm a (gpow (gm a a) _)) = gm p (gm (gm 1 a) _)
    rw [one_gm ha]
theorem ginv_chain {a : Nat} (h : a < 256) : ginv a = gchain 7 (gsq a) 1 := by
  rw [gchain_pow 7 (gsq a) 1 (gm_lt h a) (by decide), one_gm (gpow_lt (show gsq a < 256 from gm_lt h a) _)]
  exact (gpow_sq h 127).symm
theorem gm_ginv {a : Nat} (h : a < 256) (h0 : a ≠ 0) : gm a (ginv a) = 1 := by
  rw [ginv_chain h]
  have e := allB_of (p := fun a => Nat.beq a 0 || gm a (gchain 7 (gsq a) 1) == 1) (n := 256) (by decide +kernel) a h
  rw [Bool.or_eq_true] at e
  rcases e with e | e
  · exact absurd (Nat.eq_of_beq_eq_true e) h0
  · exact eq_of_beq e
theorem ginv_ne {a : Nat} (h : a < 256) (h0 : a ≠ 0) : ginv a ≠ 0 := fun z => by
  have := gm_ginv h h0
  rw [z, gm_zero] at this
  cases this
theorem gm_eq0 {a b : Nat} (ha : a < 256) (hb : b < 256) (h : gm a b = 0) : a = 0 ∨ b = 0 := by
  by_cases z : a = 0
  · exact .inl z
  · right
    have : gm (ginv a) (gm a b) = b := by rw [← gm_assoc (ginv_lt ha) ha hb, gm_comm (ginv_lt ha) ha, gm_ginv ha z, one_gm hb]
    rw [h, gm_zero] at this
    exact this.symm
end Cn
/-! Rs: four octets that guard a list of octets -/
namespace Cn
open PySem PySem.Spec L2
def OcN (xs : List Nat) : Prop := ∀ d ∈ xs, d < 256
theorem OcN.cons {o : Nat} {xs : List Nat} (h : OcN (o :: xs)) : o < 256 ∧ OcN xs := ⟨h o (by simp), fun d hd => h d (by simp [hd])⟩
def valF (x : Nat) : List Nat → Nat → Nat
  | [], v => v
  | o :: xs, v => valF x xs (gm v x ^^^ o)
def val (x : Nat) (xs : List Nat) : Nat := valF x xs 0
theorem valF_lt {x : Nat} : ∀ {xs : List Nat} {v : Nat}, OcN xs → v < 256 → valF x xs v < 256
  | [], v, _, h => h
  | o :: xs, v, ho, h => valF_lt (xs := xs) (v := gm v x ^^^ o) ho.cons.2 (x_lt (gm_lt h x) ho.cons.1)
theorem val_lt {x : Nat} {xs : List Nat} (h : OcN xs) : val x xs < 256 := valF_lt h (by decide)
theorem valF_app {x : Nat} : ∀ (xs ys : List Nat) (v : Nat), valF x (xs ++ ys) v = valF x ys (valF x xs v)
  | [], _, _ => rfl
  | o :: xs, ys, v => valF_app xs ys _
theorem gpow_one {a : Nat} (h : a < 256) : gpow a 1 = a := one_gm h
theorem gpow_succ' {a : Nat} (h : a < 256) (n : Nat) : gpow a (n + 1) = gm a (gpow a n) := by
  rw [show gpow a (n + 1) = gm (gpow a n) a from rfl, gm_comm (gpow_lt h n) h]
theorem valF_acc {x : Nat} (hx : x < 256) : ∀ {xs : List Nat} {v : Nat}, OcN xs → v < 256 → valF x xs v = gm v (gpow x xs.length) ^^^ val x xs
  | [], v, _, h => by
    show v = gm v 1 ^^^ 0
    rw [gm_one h, Nat.xor_zero]
  | o :: xs, v, ho, h => by
    have ⟨h1, h2⟩ := ho.cons
    have hg := gm_lt h x
    have hp := gpow_lt hx xs.length
    show valF x xs (gm v x ^^^ o) = gm v (gpow x (xs.length + 1)) ^^^ valF x xs (gm 0 x ^^^ o)
    rw [valF_acc hx h2 (x_lt hg h1), zero_gm hx, Nat.zero_xor, valF_acc hx h2 h1, gm_xl _ hg h1, gm_assoc h hx hp, ← gpow_succ' hx, Nat.xor_assoc]
theorem val_cons {x o : Nat} {xs : List Nat} (hx : x < 256) (h : OcN (o :: xs)) : val x (o :: xs) = gm o (gpow x xs.length) ^^^ val x xs := by
  show valF x xs (gm 0 x ^^^ o) = _
  rw [zero_gm hx, Nat.zero_xor, valF_acc hx h.cons.2 h.cons.1]
def xo (xs ys : List Nat) : List Nat := List.zipWith (· ^^^ ·) xs ys
theorem xo_len {xs ys : List Nat} (h : xs.length = ys.length) : (xo xs ys).length = xs.length := by unfold xo; rw [List.length_zipWith]; omega
theorem xo_oc : ∀ {xs ys : List Nat}, OcN xs → OcN ys → OcN (xo xs ys)
  | [], _, _, _ => fun _ z => nomatch z
  | _ :: _, [], _, _ => fun _ z => nomatch z
  | x :: xs, y :: ys, h, k => fun d hd => by
    rcases List.mem_cons.mp (show d ∈ (x ^^^ y) :: xo xs ys from hd) with z | z
    · subst z; exact x_lt h.cons.1 k.cons.1
    · exact xo_oc h.cons.2 k.cons.2 d z
theorem valF_xo {x : Nat} (hx : x < 256) : ∀ {xs ys : List Nat} {v w : Nat}, xs.length = ys.length → OcN xs → OcN ys → v < 256 → w < 256 → valF x (xo xs ys) (v ^^^ w) = valF x xs v ^^^ valF x ys w
  | [], [], _, _, _, _, _, _, _ => rfl
  | o :: xs, p :: ys, v, w, hl, ho, hp, hv, hw => by
    show valF x (xo xs ys) (gm (v ^^^ w) x ^^^ (o ^^^ p)) = valF x xs (gm v x ^^^ o) ^^^ valF x ys (gm w x ^^^ p)
    rw [gm_xl x hv hw, xor4, valF_xo hx (Nat.succ.inj hl) ho.cons.2 hp.cons.2 (x_lt (gm_lt hv x) ho.cons.1) (x_lt (gm_lt hw x) hp.cons.1)]
theorem val_xo {x : Nat} (hx : x < 256) {xs ys : List Nat} (hl : xs.length = ys.length) (ho : OcN xs) (hp : OcN ys) : val x (xo xs ys) = val x xs ^^^ val x ys := valF_xo (v := 0) (w := 0) hx hl ho hp (by decide) (by decide)
/-! one octet replaced -/
theorem valF_set {x : Nat} (hx : x < 256) : ∀ {xs : List Nat} {i e v : Nat} (hi : i < xs.length), OcN xs → e < 256 → v < 256 → valF x (xs.set i (xs[i] ^^^ e)) v = valF x xs v ^^^ gm e (gpow x (xs.length - 1 - i))
  | o :: xs, 0, e, v, hi, ho, he, hv => by
    have ⟨h1, h2⟩ := ho.cons
    have h3 := x_lt (gm_lt hv x) h1
    show valF x xs (gm v x ^^^ (o ^^^ e)) = valF x xs (gm v x ^^^ o) ^^^ gm e (gpow x (xs.length + 1 - 1 - 0))
    rw [show xs.length + 1 - 1 - 0 = xs.length by omega, ← Nat.xor_assoc, valF_acc hx h2 (x_lt h3 he), valF_acc hx h2 h3, gm_xl _ h3 he]
    ac_rfl
  | o :: xs, i + 1, e, v, hi, ho, he, hv => by
    have ⟨h1, h2⟩ := ho.cons
    have := valF_set (i := i) (e := e) hx (Nat.lt_of_succ_lt_succ hi) h2 he (x_lt (gm_lt hv x) h1)
    show valF x (xs.set i (xs[i]'(Nat.lt_of_succ_lt_succ hi) ^^^ e)) (gm v x ^^^ o) = valF x xs (gm v x ^^^ o) ^^^ gm e (gpow x (xs.length + 1 - 1 - (i + 1)))
    rw [this, show xs.length + 1 - 1 - (i + 1) = xs.length - 1 - i by omega]
theorem val_set {x : Nat} (hx : x < 256) {xs : List Nat} {i e : Nat} (hi : i < xs.length) (ho : OcN xs) (he : e < 256) : val x (xs.set i (xs[i] ^^^ e)) = val x xs ^^^ gm e (gpow x (xs.length - 1 - i)) := valF_set hx hi ho he (by decide)
/-! sums of powers -/
theorem gpow_mul {a : Nat} (h : a < 256) (m : Nat) : ∀ n, gpow (gpow a m) n = gpow a (m * n)
  | 0 => rfl
  | n + 1 => by
    show gm (gpow (gpow a m) n) (gpow a m) = _
    rw [gpow_mul h m n, ← gpow_add h, Nat.mul_succ]
theorem gpow_swap {a : Nat} (h : a < 256) (m n : Nat) : gpow (gpow a m) n = gpow (gpow a n) m := by rw [gpow_mul h, gpow_mul h, Nat.mul_comm]
def prs : List Nat → List (Nat × Nat)
  | [] => []
  | o :: xs => (o, gpow 2 xs.length) :: prs xs
def syn (j : Nat) : List (Nat × Nat) → Nat
  | [] => 0
  | p :: L => gm p.1 (gpow p.2 j) ^^^ syn j L
def OcP (L : List (Nat × Nat)) : Prop := ∀ p ∈ L, p.1 < 256 ∧ p.2 < 256
theorem OcP.cons {p : Nat × Nat} {L : List (Nat × Nat)} (h : OcP (p :: L)) : (p.1 < 256 ∧ p.2 < 256) ∧ OcP L := ⟨h p (by simp), fun d hd => h d (by simp [hd])⟩
theorem two_lt : 2 < 256 := by decide
theorem prs_oc : ∀ {xs : List Nat}, OcN xs → OcP (prs xs)
  | [], _ => fun _ z => nomatch z
  | o :: xs, h => fun p hp => by
    rcases List.mem_cons.mp (show p ∈ (o, gpow 2 xs.length) :: prs xs from hp) with z | z
    · subst z; exact ⟨h.cons.1, gpow_lt two_lt _⟩
    · exact prs_oc h.cons.2 p z
theorem val_syn (j : Nat) : ∀ {xs : List Nat}, OcN xs → val (gpow 2 j) xs = syn j (prs xs)
  | [], _ => rfl
  | o :: xs, h => by
    rw [val_cons (gpow_lt two_lt j) h, val_syn j h.cons.2, gpow_swap two_lt]
    rfl
theorem syn_lt (j : Nat) : ∀ {L : List (Nat × Nat)}, OcP L → syn j L < 256
  | [], _ => (by decide : 0 < 256)
  | p :: L, h => x_lt (gm_lt h.cons.1.1 _) (syn_lt j h.cons.2)
def nz (L : List (Nat × Nat)) : List (Nat × Nat) := L.filter (·.1 != 0)
theorem syn_nz (j : Nat) : ∀ {L : List (Nat × Nat)}, OcP L → syn j (nz L) = syn j L
  | [], _ => rfl
  | (c, a) :: L, h => by
    have ih := syn_nz j h.cons.2
    unfold nz at ih ⊢
    by_cases z : c = 0
    · subst z
      rw [List.filter_cons_of_neg (by simp), ih]
      show _ = gm 0 (gpow a j) ^^^ syn j L
      rw [zero_gm (gpow_lt h.cons.1.2 j), Nat.zero_xor]
    · rw [List.filter_cons_of_pos (by simpa using z)]
      show _ ^^^ _ = _ ^^^ _
      rw [ih]
def elim1 (a : Nat) (L : List (Nat × Nat)) : List (Nat × Nat) := L.map fun p => (gm p.1 (p.2 ^^^ a), p.2)
theorem syn_elim {a : Nat} (ha : a < 256) (j : Nat) : ∀ {L : List (Nat × Nat)}, OcP L → syn j (elim1 a L) = syn (j + 1) L ^^^ gm a (syn j L)
  | [], _ => by show 0 = 0 ^^^ gm a 0; rw [gm_zero]; rfl
  | (c, b) :: L, h => by
    have ⟨⟨hc, hb⟩, hL⟩ := h.cons
    have hc : c < 256 := hc
    have hb : b < 256 := hb
    have hP := gpow_lt hb j
    show gm (gm c (b ^^^ a)) (gpow b j) ^^^ syn j (elim1 a L) = (gm c (gm (gpow b j) b) ^^^ syn (j + 1) L) ^^^ gm a (gm c (gpow b j) ^^^ syn j L)
    rw [syn_elim ha j hL, gm_xr, gm_xl _ (gm_lt hc b) (gm_lt hc a), gm_xr, gm_assoc hc hb hP, gm_comm hb hP, gm_comm hc ha, gm_assoc ha hc hP]
    ac_rfl
theorem xor_eq0 {a b : Nat} (h : a ^^^ b = 0) : a = b := by
  have : (a ^^^ b) ^^^ b = 0 ^^^ b := by rw [h]
  rw [Nat.xor_assoc, Nat.xor_self, Nat.xor_zero, Nat.zero_xor] at this
  exact this
theorem syn_zero (j : Nat) : ∀ {L : List (Nat × Nat)}, OcP L → (∀ p ∈ L, p.1 = 0) → syn j L = 0
  | [], _, _ => rfl
  | (c, a) :: L, h, z => by
    have e : c = 0 := z (c, a) (by simp)
    subst e
    show gm 0 (gpow a j) ^^^ syn j L = 0
    rw [zero_gm (gpow_lt h.cons.1.2 j), syn_zero j h.cons.2 fun p hp => z p (by simp [hp])]
    rfl
theorem vand : ∀ (n : Nat) {L : List (Nat × Nat)}, L.length = n → OcP L → (L.map (·.2)).Nodup → (∀ j, j < n → syn j L = 0) → ∀ p ∈ L, p.1 = 0
  | 0, L, hl, _, _, _ => by rw [List.length_eq_zero_iff.mp hl]; exact fun _ z => nomatch z
  | n + 1, (c, a) :: L, hl, ho, hn, hs => by
    have ⟨⟨hc, ha⟩, hL⟩ := ho.cons
    have hc : c < 256 := hc
    have ha : a < 256 := ha
    have hl' : L.length = n := Nat.succ.inj hl
    rw [List.map_cons, List.nodup_cons] at hn
    have hS : ∀ j, j < n + 1 → gm c (gpow a j) = syn j L := fun j hj => xor_eq0 (hs j hj)
    have hE : OcP (elim1 a L) := fun p hp => by
      obtain ⟨q, hq, e⟩ := List.mem_map.mp hp
      subst e
      exact ⟨gm_lt (hL q hq).1 _, (hL q hq).2⟩
    have key := vand n (L := elim1 a L) (by unfold elim1; rw [List.length_map, hl']) hE (by unfold elim1; rw [List.map_map]; exact hn.2) fun j hj => by
      rw [syn_elim ha j hL, ← hS j (by omega), ← hS (j + 1) (by omega), gm_comm ha (gm_lt hc _), gm_assoc hc (gpow_lt ha j) ha]
      exact Nat.xor_self _
    have hz : ∀ p ∈ L, p.1 = 0 := fun p hp => by
      have e := key (gm p.1 (p.2 ^^^ a), p.2) (List.mem_map.mpr ⟨p, hp, rfl⟩)
      rcases gm_eq0 (hL p hp).1 (x_lt (hL p hp).2 ha) e with z | z
      · exact z
      · have := xor_eq0 z
        exact absurd (List.mem_map.mpr ⟨p, hp, this⟩) hn.1
    intro p hp
    rcases List.mem_cons.mp hp with z | z
    · subst z
      have := hS 0 (by omega)
      rw [syn_zero 0 hL hz] at this
      exact (gm_one hc).symm.trans this
    · exact hz p z
/-! the powers of two differ -/
def p2 : Nat → Nat
  | 0 => 1
  | n + 1 => xt (p2 n)
theorem gm_two {a : Nat} (h : a < 256) : gm a 2 = xt a := eq_of_beq (allB_of (p := fun a => gm a 2 == xt a) (n := 256) (by decide +kernel) a h)
theorem gpow_p2 : ∀ n, gpow 2 n = p2 n
  | 0 => rfl
  | n + 1 => by
    show gm (gpow 2 n) 2 = xt (p2 n)
    rw [gm_two (gpow_lt two_lt n), gpow_p2 n]
theorem p2_ne {n : Nat} (h : n < 254) : gpow 2 (n + 1) ≠ 1 := fun e => by
  have := allB_of (p := fun n => !(p2 (n + 1) == 1)) (n := 254) (by decide +kernel) n h
  rw [gpow_p2] at e
  rw [e] at this
  cases this
theorem p2_nz (n : Nat) : gpow 2 n ≠ 0 := by
  induction n with
  | zero => exact (by decide : (1 : Nat) ≠ 0)
  | succ n ih =>
    intro z
    rcases gm_eq0 (gpow_lt two_lt n) two_lt z with y | y
    · exact ih y
    · cases y
theorem gm_cancel {a b c : Nat} (ha : a < 256) (hb : b < 256) (hc : c < 256) (h0 : a ≠ 0) (h : gm a b = gm a c) : b = c := by
  have : gm (ginv a) (gm a b) = gm (ginv a) (gm a c) := by rw [h]
  rwa [← gm_assoc (ginv_lt ha) ha hb, ← gm_assoc (ginv_lt ha) ha hc, gm_comm (ginv_lt ha) ha, gm_ginv ha h0, one_gm hb, one_gm hc] at this
theorem p2_inj' {i j : Nat} (h : i < j) (hj : j < 255) : gpow 2 i ≠ gpow 2 j := fun e => by
  rw [show j = i + (j - i - 1 + 1) by omega, gpow_add two_lt] at e
  have e2 : gm (gpow 2 i) 1 = gm (gpow 2 i) (gpow 2 (j - i - 1 + 1)) := (gm_one (gpow_lt two_lt i)).trans e
  exact p2_ne (by omega) (gm_cancel (gpow_lt two_lt i) (by decide) (gpow_lt two_lt _) (p2_nz i) e2).symm
theorem p2_inj {i j : Nat} (hi : i < 255) (hj : j < 255) (h : gpow 2 i = gpow 2 j) : i = j := by
  rcases Nat.lt_trichotomy i j with z | z | z
  · exact absurd h (p2_inj' z hj)
  · exact z
  · exact absurd h.symm (p2_inj' z hi)
theorem prs_mem : ∀ {xs : List Nat} {p : Nat × Nat}, p ∈ prs xs → ∃ k, k < xs.length ∧ p.2 = gpow 2 k
  | o :: xs, p, h => by
    rcases List.mem_cons.mp (show p ∈ (o, gpow 2 xs.length) :: prs xs from h) with z | z
    · subst z; exact ⟨xs.length, Nat.lt_succ_self _, rfl⟩
    · obtain ⟨k, hk, e⟩ := prs_mem z
      exact ⟨k, Nat.lt_succ_of_lt hk, e⟩
theorem prs_nodup : ∀ {xs : List Nat}, xs.length ≤ 255 → ((prs xs).map (·.2)).Nodup
  | [], _ => List.nodup_nil
  | o :: xs, h => by
    have h' : xs.length + 1 ≤ 255 := h
    show (gpow 2 xs.length :: (prs xs).map (·.2)).Nodup
    rw [List.nodup_cons]
    refine ⟨fun z => ?_, prs_nodup (by omega)⟩
    obtain ⟨p, hp, e⟩ := List.mem_map.mp z
    obtain ⟨k, hk, e2⟩ := prs_mem hp
    exact p2_inj' (i := k) (j := xs.length) hk (by omega) (e2.symm.trans e)
/-! distance -/
def dist : List Nat → List Nat → Nat
  | x :: xs, y :: ys => (if x = y then 0 else 1) + dist xs ys
  | _, _ => 0
theorem dist_self : ∀ xs : List Nat, dist xs xs = 0
  | [] => rfl
  | x :: xs => by show (if x = x then 0 else 1) + dist xs xs = 0; rw [if_pos rfl, dist_self xs]
theorem dist_comm : ∀ xs ys : List Nat, dist xs ys = dist ys xs
  | [], [] => rfl
  | [], _ :: _ => rfl
  | _ :: _, [] => rfl
  | x :: xs, y :: ys => by
    show (if x = y then 0 else 1) + dist xs ys = (if y = x then 0 else 1) + dist ys xs
    rw [dist_comm xs ys]
    by_cases h : x = y
    · rw [if_pos h, if_pos h.symm]
    · rw [if_neg h, if_neg fun z => h z.symm]
theorem dist_tri : ∀ {xs ys zs : List Nat}, xs.length = ys.length → ys.length = zs.length → dist xs zs ≤ dist xs ys + dist ys zs
  | [], [], [], _, _ => Nat.le_refl 0
  | x :: xs, y :: ys, z :: zs, h, k => by
    have ih := dist_tri (Nat.succ.inj h) (Nat.succ.inj k)
    show (if x = z then 0 else 1) + dist xs zs ≤ ((if x = y then 0 else 1) + dist xs ys) + ((if y = z then 0 else 1) + dist ys zs)
    by_cases a : x = y
    · subst a; rw [if_pos (rfl : x = x)]; omega
    · rw [if_neg a]
      by_cases b : y = z
      · subst b; rw [if_neg a, if_pos rfl]; omega
      · rw [if_neg b]
        by_cases c : x = z
        · rw [if_pos c]; omega
        · rw [if_neg c]; omega
theorem dist0 : ∀ {xs ys : List Nat}, xs.length = ys.length → dist xs ys = 0 → xs = ys
  | [], [], _, _ => rfl
  | x :: xs, y :: ys, h, k => by
    have k : (if x = y then 0 else 1) + dist xs ys = 0 := k
    by_cases a : x = y
    · rw [if_pos a] at k
      rw [a, dist0 (Nat.succ.inj h) (by omega)]
    · rw [if_neg a] at k; omega
theorem dist1 : ∀ {xs ys : List Nat}, xs.length = ys.length → OcN xs → OcN ys → dist xs ys = 1 → ∃ i, ∃ hi : i < ys.length, ∃ e, e < 256 ∧ e ≠ 0 ∧ xs = ys.set i (ys[i] ^^^ e)
  | x :: xs, y :: ys, h, hx, hy, k => by
    have k : (if x = y then 0 else 1) + dist xs ys = 1 := k
    by_cases a : x = y
    · rw [if_pos a] at k
      obtain ⟨i, hi, e, he, h0, q⟩ := dist1 (Nat.succ.inj h) hx.cons.2 hy.cons.2 (by omega)
      refine ⟨i + 1, Nat.succ_lt_succ hi, e, he, h0, ?_⟩
      show x :: xs = y :: ys.set i (ys[i] ^^^ e)
      rw [a, ← q]
    · rw [if_neg a] at k
      have q := dist0 (Nat.succ.inj h) (by omega : dist xs ys = 0)
      refine ⟨0, Nat.succ_pos _, y ^^^ x, x_lt hy.cons.1 hx.cons.1, fun z => a (xor_eq0 z).symm, ?_⟩
      show x :: xs = (y ^^^ (y ^^^ x)) :: ys
      rw [← Nat.xor_assoc, Nat.xor_self, Nat.zero_xor, q]
theorem dist_set_le : ∀ (xs ys : List Nat) (i v : Nat), dist xs (ys.set i v) ≤ dist xs ys + 1
  | [], [], _, _ => Nat.zero_le _
  | [], _ :: _, 0, _ => Nat.zero_le _
  | [], _ :: _, _ + 1, _ => Nat.zero_le _
  | _ :: _, [], _, _ => Nat.zero_le _
  | x :: xs, y :: ys, 0, v => by
    show (if x = v then 0 else 1) + dist xs ys ≤ (if x = y then 0 else 1) + dist xs ys + 1
    by_cases h : x = v
    · rw [if_pos h]; omega
    · rw [if_neg h]; omega
  | x :: xs, y :: ys, i + 1, v => by
    have := dist_set_le xs ys i v
    show (if x = y then 0 else 1) + dist xs (ys.set i v) ≤ (if x = y then 0 else 1) + dist xs ys + 1
    omega
theorem dist_set_ne : ∀ {xs ys : List Nat} {i v : Nat} (hi : i < xs.length), xs.length = ys.length → v ≠ xs[i] → 1 ≤ dist xs (ys.set i v)
  | x :: xs, y :: ys, 0, v, _, _, h => by
    show 1 ≤ (if x = v then 0 else 1) + dist xs ys
    rw [if_neg fun z => h z.symm]; omega
  | x :: xs, y :: ys, i + 1, v, hi, hl, h => by
    have := dist_set_ne (i := i) (Nat.lt_of_succ_lt_succ hi) (Nat.succ.inj hl) h
    show 1 ≤ (if x = y then 0 else 1) + dist xs (ys.set i v)
    omega
theorem dist_set_new : ∀ {xs ys : List Nat} {i v : Nat} (hi : i < xs.length) (hl : xs.length = ys.length), ys[i]'(by omega) = xs[i] → v ≠ xs[i] → dist xs (ys.set i v) = dist xs ys + 1
  | x :: xs, y :: ys, 0, v, _, _, e, h => by
    have e : y = x := e
    show (if x = v then 0 else 1) + dist xs ys = (if x = y then 0 else 1) + dist xs ys + 1
    rw [if_neg fun z => h z.symm, if_pos e.symm]; omega
  | x :: xs, y :: ys, i + 1, v, hi, hl, e, h => by
    have := dist_set_new (i := i) (Nat.lt_of_succ_lt_succ hi) (Nat.succ.inj hl) e h
    show (if x = y then 0 else 1) + dist xs (ys.set i v) = (if x = y then 0 else 1) + dist xs ys + 1
    omega
theorem dist_prs : ∀ {xs ys : List Nat}, xs.length = ys.length → (nz (prs (xo xs ys))).length = dist xs ys
  | [], [], _ => rfl
  | x :: xs, y :: ys, h => by
    have ih := dist_prs (Nat.succ.inj h)
    show (nz ((x ^^^ y, gpow 2 (xo xs ys).length) :: prs (xo xs ys))).length = (if x = y then 0 else 1) + dist xs ys
    unfold nz at ih ⊢
    by_cases z : x = y
    · subst z
      rw [if_pos rfl, List.filter_cons_of_neg (by simp), ih]; omega
    · rw [if_neg z, List.filter_cons_of_pos (by simpa using fun y => z (xor_eq0 y)), List.length_cons, ih]; omega
/-! right lists -/
def Zr (xs : List Nat) : Prop := val 1 xs = 0 ∧ val 2 xs = 0 ∧ val 4 xs = 0 ∧ val 8 xs = 0
def Ln (xs : List Nat) : Prop := 4 ≤ xs.length ∧ xs.length ≤ 255
theorem Zr.at {xs : List Nat} (h : Zr xs) : ∀ j, j < 4 → val (gpow 2 j) xs = 0
  | 0, _ => h.1
  | 1, _ => h.2.1
  | 2, _ => h.2.2.1
  | 3, _ => h.2.2.2
theorem Zr.xo {xs ys : List Nat} (h : Zr xs) (k : Zr ys) (hl : xs.length = ys.length) (ho : OcN xs) (hp : OcN ys) : Zr (xo xs ys) := by
  refine ⟨?_, ?_, ?_, ?_⟩
  · rw [val_xo (by decide) hl ho hp, h.1, k.1]; rfl
  · rw [val_xo (by decide) hl ho hp, h.2.1, k.2.1]; rfl
  · rw [val_xo (by decide) hl ho hp, h.2.2.1, k.2.2.1]; rfl
  · rw [val_xo (by decide) hl ho hp, h.2.2.2, k.2.2.2]; rfl
/-- two right lists that differ in four places at most are the same -/
theorem code5 {xs ys : List Nat} (h : Zr xs) (k : Zr ys) (hl : xs.length = ys.length) (hn : xs.length ≤ 255) (ho : OcN xs) (hp : OcN ys) (hd : dist xs ys ≤ 4) : xs = ys := by
  have hz := h.xo k hl ho hp
  have hx := xo_oc ho hp
  have hP := prs_oc hx
  have hN : OcP (nz (prs (xo xs ys))) := fun p z => hP p (List.mem_filter.mp z).1
  have hD := dist_prs hl
  refine dist0 hl ?_
  rw [← hD]
  have all := vand _ rfl hN (List.Nodup.sublist (List.Sublist.map _ List.filter_sublist) (prs_nodup (by rw [xo_len hl]; exact hn))) fun j hj => by
    rw [syn_nz j hP, ← val_syn j hx]
    exact hz.at j (by omega)
  refine List.length_eq_zero_iff.mpr (List.eq_nil_iff_forall_not_mem.mpr fun p z => ?_)
  have := (List.mem_filter.mp z).2
  rw [all p z] at this
  cases this
/-! check octets -/
abbrev St4 := Nat × Nat × Nat × Nat
def l4 (r : St4) : List Nat := [r.1, r.2.1, r.2.2.1, r.2.2.2]
def stp (r : St4) (o : Nat) : St4 := (r.2.1 ^^^ gm (r.1 ^^^ o) 15, r.2.2.1 ^^^ gm (r.1 ^^^ o) 54, r.2.2.2 ^^^ gm (r.1 ^^^ o) 120, gm (r.1 ^^^ o) 64)
def chs (xs : List Nat) : St4 := xs.foldl stp (0, 0, 0, 0)
def cd (xs : List Nat) : List Nat := xs ++ l4 (chs xs)
def Oc4 (r : St4) : Prop := r.1 < 256 ∧ r.2.1 < 256 ∧ r.2.2.1 < 256 ∧ r.2.2.2 < 256
theorem Oc4.l {r : St4} (h : Oc4 r) : OcN (l4 r) := fun d hd => by
  obtain ⟨a, b, c, e⟩ := r
  simp only [l4, List.mem_cons, List.not_mem_nil, or_false] at hd
  obtain ⟨h1, h2, h3, h4⟩ := h
  rcases hd with z | z | z | z <;> subst z <;> assumption
theorem Oc4.stp {r : St4} {o : Nat} (h : Oc4 r) (ho : o < 256) : Oc4 (stp r o) :=
  have f := x_lt h.1 ho
  ⟨x_lt h.2.1 (gm_lt f _), x_lt h.2.2.1 (gm_lt f _), x_lt h.2.2.2 (gm_lt f _), gm_lt f 64⟩
theorem Oc4.fold : ∀ {xs : List Nat} {r : St4}, OcN xs → Oc4 r → Oc4 (xs.foldl Cn.stp r)
  | [], _, _, h => h
  | o :: xs, r, ho, h => Oc4.fold (xs := xs) (r := Cn.stp r o) ho.cons.2 (h.stp ho.cons.1)
theorem chs_oc {xs : List Nat} (h : OcN xs) : Oc4 (chs xs) := Oc4.fold h ⟨by decide, by decide, by decide, by decide⟩
theorem OcN.app {xs ys : List Nat} (h : OcN xs) (k : OcN ys) : OcN (xs ++ ys) := fun d hd => (List.mem_append.mp hd).elim (h d) (k d)
theorem cd_oc {xs : List Nat} (h : OcN xs) : OcN (cd xs) := h.app (chs_oc h).l
theorem cd_len (xs : List Nat) : (cd xs).length = xs.length + 4 := by unfold cd; rw [List.length_append]; rfl
structure Root (x : Nat) : Prop where
  lt : x < 256
  e : ∀ f, f < 256 → gm f (gpow x 4) = gm (gm f 15) (gpow x 3) ^^^ gm (gm f 54) (gpow x 2) ^^^ gm (gm f 120) (gpow x 1) ^^^ gm f 64
theorem root_of {x : Nat} (h : x < 256) (k : allB 256 (fun f => gm f (gpow x 4) == gm (gm f 15) (gpow x 3) ^^^ gm (gm f 54) (gpow x 2) ^^^ gm (gm f 120) (gpow x 1) ^^^ gm f 64) = true) : Root x := ⟨h, fun f hf => eq_of_beq (allB_of k f hf)⟩
theorem root1 : Root 1 := root_of (by decide) (by decide +kernel)
theorem root2 : Root 2 := root_of (by decide) (by decide +kernel)
theorem root4 : Root 4 := root_of (by decide) (by decide +kernel)
theorem root8 : Root 8 := root_of (by decide) (by decide +kernel)
theorem val4 {x : Nat} (hx : x < 256) {r : St4} (h : Oc4 r) : val x (l4 r) = gm r.1 (gpow x 3) ^^^ gm r.2.1 (gpow x 2) ^^^ gm r.2.2.1 (gpow x 1) ^^^ r.2.2.2 := by
  have o := h.l
  have o1 := o.cons.2
  have o2 := o1.cons.2
  have o3 := o2.cons.2
  unfold l4
  rw [val_cons hx o, val_cons hx o1, val_cons hx o2, val_cons hx o3]
  show _ ^^^ (_ ^^^ (_ ^^^ (gm r.2.2.2 1 ^^^ 0))) = _
  rw [gm_one h.2.2.2, Nat.xor_zero]
  show gm _ (gpow x 3) ^^^ (gm _ (gpow x 2) ^^^ (gm _ (gpow x 1) ^^^ _)) = _
  ac_rfl
theorem root_stp {x v o : Nat} {r : St4} (R : Root x) (hv : v < 256) (ho : o < 256) (h : Oc4 r) (e : gm v (gpow x 4) = val x (l4 r)) : gm (gm v x ^^^ o) (gpow x 4) = val x (l4 (stp r o)) := by
  have hx := R.lt
  have p1 := gpow_lt hx 1
  have p2 := gpow_lt hx 2
  have p3 := gpow_lt hx 3
  have p4 := gpow_lt hx 4
  have hf := x_lt h.1 ho
  rw [val4 hx (h.stp ho), gm_xl _ (gm_lt hv x) ho, gm_assoc hv hx p4, gm_comm hx p4, ← gm_assoc hv p4 hx, e, val4 hx h]
  show _ = gm (r.2.1 ^^^ gm (r.1 ^^^ o) 15) (gpow x 3) ^^^ gm (r.2.2.1 ^^^ gm (r.1 ^^^ o) 54) (gpow x 2) ^^^ gm (r.2.2.2 ^^^ gm (r.1 ^^^ o) 120) (gpow x 1) ^^^ gm (r.1 ^^^ o) 64
  rw [gm_xl _ (x_lt (x_lt (gm_lt h.1 _) (gm_lt h.2.1 _)) (gm_lt h.2.2.1 _)) h.2.2.2, gm_xl _ (x_lt (gm_lt h.1 _) (gm_lt h.2.1 _)) (gm_lt h.2.2.1 _), gm_xl _ (gm_lt h.1 _) (gm_lt h.2.1 _),
    gm_assoc h.1 p3 hx, gm_assoc h.2.1 p2 hx, gm_assoc h.2.2.1 p1 hx,
    show gm (gpow x 3) x = gpow x 4 from rfl, show gm (gpow x 2) x = gpow x 3 from rfl, show gm (gpow x 1) x = gpow x 2 from rfl,
    gm_xl _ h.2.1 (gm_lt hf 15), gm_xl _ h.2.2.1 (gm_lt hf 54), gm_xl _ h.2.2.2 (gm_lt hf 120), gpow_one hx]
  have k := R.e _ hf
  rw [gpow_one hx, gm_xl (gpow x 4) h.1 ho] at k
  have k2 : gm o (gpow x 4) = gm r.1 (gpow x 4) ^^^ (gm (gm (r.1 ^^^ o) 15) (gpow x 3) ^^^ gm (gm (r.1 ^^^ o) 54) (gpow x 2) ^^^ gm (gm (r.1 ^^^ o) 120) x ^^^ gm (r.1 ^^^ o) 64) := by
    rw [← k, ← Nat.xor_assoc, Nat.xor_self, Nat.zero_xor]
  rw [k2]
  have z : ∀ a b c d e f g i j : Nat, a ^^^ b ^^^ c ^^^ d ^^^ (a ^^^ (e ^^^ f ^^^ g ^^^ i)) = (a ^^^ a) ^^^ (b ^^^ e ^^^ (c ^^^ f) ^^^ (d ^^^ g) ^^^ i) := fun _ _ _ _ _ _ _ _ _ => by ac_rfl
  rw [z _ _ _ _ _ _ _ _ 0, Nat.xor_self, Nat.zero_xor]
theorem root_fold {x : Nat} (R : Root x) : ∀ {xs : List Nat} {v : Nat} {r : St4}, OcN xs → v < 256 → Oc4 r → gm v (gpow x 4) = val x (l4 r) → gm (valF x xs v) (gpow x 4) = val x (l4 (xs.foldl stp r))
  | [], _, _, _, _, _, e => e
  | o :: xs, v, r, ho, hv, h, e => root_fold R (xs := xs) (v := gm v x ^^^ o) (r := stp r o) ho.cons.2 (x_lt (gm_lt hv x) ho.cons.1) (h.stp ho.cons.1) (root_stp R hv ho.cons.1 h e)
theorem cd_root {x : Nat} (R : Root x) {xs : List Nat} (h : OcN xs) : val x (cd xs) = 0 := by
  unfold cd val
  rw [valF_app]
  show valF x (l4 (chs xs)) (val x xs) = 0
  rw [valF_acc R.lt (chs_oc h).l (val_lt h)]
  have := root_fold R (v := 0) (r := (0, 0, 0, 0)) h (by decide) ⟨by decide, by decide, by decide, by decide⟩ (by
    rw [zero_gm (gpow_lt R.lt 4), val4 R.lt ⟨by decide, by decide, by decide, by decide⟩]
    show 0 = gm 0 _ ^^^ gm 0 _ ^^^ gm 0 _ ^^^ 0
    rw [zero_gm (gpow_lt R.lt 3), zero_gm (gpow_lt R.lt 2), zero_gm (gpow_lt R.lt 1)]
    rfl)
  show gm (valF x xs 0) (gpow x 4) ^^^ val x (l4 (chs xs)) = 0
  rw [this]
  exact Nat.xor_self _
theorem cd_zr {xs : List Nat} (h : OcN xs) : Zr (cd xs) := ⟨cd_root root1 h, cd_root root2 h, cd_root root4 h, cd_root root8 h⟩
theorem dist_le : ∀ xs ys : List Nat, dist xs ys ≤ xs.length
  | [], _ => Nat.zero_le _
  | _ :: _, [] => Nat.zero_le _
  | x :: xs, y :: ys => by
    have := dist_le xs ys
    show (if x = y then 0 else 1) + dist xs ys ≤ xs.length + 1
    by_cases h : x = y
    · rw [if_pos h]; omega
    · rw [if_neg h]; omega
theorem dist_app : ∀ {xs ys : List Nat} (as bs : List Nat), xs.length = ys.length → dist (xs ++ as) (ys ++ bs) = dist xs ys + dist as bs
  | [], [], as, bs, _ => (Nat.zero_add _).symm
  | x :: xs, y :: ys, as, bs, h => by
    show (if x = y then 0 else 1) + dist (xs ++ as) (ys ++ bs) = (if x = y then 0 else 1) + dist xs ys + dist as bs
    rw [dist_app as bs (Nat.succ.inj h)]; omega
theorem cd_far {xs ys : List Nat} (hl : xs.length = ys.length) (hn : xs.length ≤ 251) (h : OcN xs) (k : OcN ys) (hne : xs ≠ ys) : 5 ≤ dist (cd xs) (cd ys) := by
  rcases Nat.lt_or_ge (dist (cd xs) (cd ys)) 5 with z | z
  · have := code5 (cd_zr h) (cd_zr k) (by rw [cd_len, cd_len, hl]) (by rw [cd_len]; omega) (cd_oc h) (cd_oc k) (by omega)
    exact absurd (List.append_inj this hl).1 hne
  · exact z
theorem cd_xo {xs ys : List Nat} (hl : xs.length = ys.length) (hn : xs.length ≤ 251) (h : OcN xs) (k : OcN ys) : cd (xo xs ys) = xo (cd xs) (cd ys) := by
  have hx := xo_oc h k
  have e : xo (cd xs) (cd ys) = xo xs ys ++ xo (l4 (chs xs)) (l4 (chs ys)) := by
    unfold xo cd
    rw [List.zipWith_append hl]
  have hlen : (cd xs).length = (cd ys).length := by rw [cd_len, cd_len, hl]
  refine code5 (cd_zr hx) ((cd_zr h).xo (cd_zr k) hlen (cd_oc h) (cd_oc k)) ?_ ?_ (cd_oc hx) (xo_oc (cd_oc h) (cd_oc k)) ?_
  · rw [cd_len, xo_len hl, xo_len hlen, cd_len]
  · rw [cd_len, xo_len hl]; omega
  · rw [e]
    unfold cd
    rw [dist_app _ _ rfl, dist_self, Nat.zero_add]
    exact dist_le _ _
/-! mending -/
def good (w : List Nat) (p : Nat) : Prop := val 1 w ≠ 0 ∧ val 2 w = gm (val 1 w) (gpow 2 p) ∧ val 4 w = gm (val 1 w) (gpow 4 p) ∧ val 8 w = gm (val 1 w) (gpow 8 p)
def flp (w : List Nat) (p : Nat) : List Nat := w.set (w.length - 1 - p) (w.getD (w.length - 1 - p) 0 ^^^ val 1 w)
def Fx (w : List Nat) (r : Option (List Nat)) : Prop := (¬ Ln w ∧ r = none) ∨ (Ln w ∧ Zr w ∧ r = some w) ∨ (Ln w ∧ ¬ Zr w ∧ ∃ p, p < w.length ∧ good w p ∧ r = some (flp w p)) ∨ (Ln w ∧ ¬ Zr w ∧ (∀ p, p < w.length → ¬ good w p) ∧ r = none)
theorem good_uniq {w : List Nat} {p q : Nat} (ho : OcN w) (h : good w p) (k : good w q) (hp : p < 255) (hq : q < 255) : p = q :=
  p2_inj hp hq (gm_cancel (val_lt ho) (gpow_lt two_lt p) (gpow_lt two_lt q) h.1 (h.2.1.symm.trans k.2.1))
theorem fx_fun {w : List Nat} {r r' : Option (List Nat)} (ho : OcN w) (h : Fx w r) (k : Fx w r') : r = r' := by
  rcases h with ⟨h1, e⟩ | ⟨h1, h2, e⟩ | ⟨h1, h2, p, hp, g, e⟩ | ⟨h1, h2, h3, e⟩ <;> rcases k with ⟨k1, f⟩ | ⟨k1, k2, f⟩ | ⟨k1, k2, q, hq, g', f⟩ | ⟨k1, k2, k3, f⟩ <;> first
    | (rw [e, f]; done)
    | exact absurd h1 k1
    | exact absurd k1 h1
    | exact absurd h2 k2
    | exact absurd k2 h2
    | exact absurd g (k3 p hp)
    | exact absurd g' (h3 q hq)
    | (have := good_uniq ho g g' (by have := h1.2; omega) (by have := h1.2; omega)
       subst this; rw [e, f])
theorem gpow_1 : ∀ n, gpow 1 n = 1
  | 0 => rfl
  | n + 1 => by show gm (gpow 1 n) 1 = 1; rw [gpow_1 n]; rfl
theorem flp_oc {w : List Nat} {p : Nat} (ho : OcN w) (hp : p < w.length) : OcN (flp w p) := fun d hd => by
  have hl : w.length - 1 - p < w.length := by omega
  rcases List.mem_or_eq_of_mem_set hd with z | z
  · exact ho d z
  · subst z
    rw [List.getD_eq_getElem?_getD, List.getElem?_eq_getElem hl]
    exact x_lt (ho _ (List.getElem_mem hl)) (val_lt ho)
theorem flp_len (w : List Nat) (p : Nat) : (flp w p).length = w.length := List.length_set
theorem val_flp {x : Nat} (hx : x < 256) {w : List Nat} {p : Nat} (ho : OcN w) (hp : p < w.length) : val x (flp w p) = val x w ^^^ gm (val 1 w) (gpow x p) := by
  have hl : w.length - 1 - p < w.length := by omega
  unfold flp
  rw [List.getD_eq_getElem?_getD, List.getElem?_eq_getElem hl]
  show val x (w.set _ (w[w.length - 1 - p] ^^^ _)) = _
  rw [val_set hx hl ho (val_lt ho), show w.length - 1 - (w.length - 1 - p) = p by omega]
theorem flp_zr {w : List Nat} {p : Nat} (ho : OcN w) (hp : p < w.length) (g : good w p) : Zr (flp w p) := by
  obtain ⟨_, g2, g4, g8⟩ := g
  refine ⟨?_, ?_, ?_, ?_⟩
  · rw [val_flp (by decide) ho hp, gpow_1, gm_one (val_lt ho)]; exact Nat.xor_self _
  · rw [val_flp (by decide) ho hp, g2]; exact Nat.xor_self _
  · rw [val_flp (by decide) ho hp, g4]; exact Nat.xor_self _
  · rw [val_flp (by decide) ho hp, g8]; exact Nat.xor_self _
theorem zr_flp {w : List Nat} {p : Nat} (ho : OcN w) (hp : p < w.length) (h0 : val 1 w ≠ 0) (z : Zr (flp w p)) : good w p := by
  obtain ⟨_, z2, z4, z8⟩ := z
  rw [val_flp (by decide) ho hp] at z2 z4 z8
  exact ⟨h0, xor_eq0 z2, xor_eq0 z4, xor_eq0 z8⟩
theorem flp_dist (w : List Nat) (p : Nat) : dist w (flp w p) ≤ 1 := by
  have := dist_set_le w w (w.length - 1 - p) (w.getD (w.length - 1 - p) 0 ^^^ val 1 w)
  rw [dist_self] at this
  exact this
theorem fx_one {c w : List Nat} {r : Option (List Nat)} (hc : OcN c) (ho : OcN w) (hz : Zr c) (hl : c.length = w.length) (hn : Ln w) (hd : dist c w ≤ 1) (h : Fx w r) : r = some c := by
  refine fx_fun ho h ?_
  by_cases d0 : dist c w = 0
  · have := dist0 hl d0
    subst this
    exact .inr (.inl ⟨hn, hz, rfl⟩)
  · obtain ⟨i, hi, e, he, h0, q⟩ := dist1 hl hc ho (by omega)
    have key : ∀ x, x < 256 → val x c = 0 → val x w = gm e (gpow x (w.length - 1 - i)) := fun x hx z => by
      rw [q, val_set hx hi ho he] at z
      exact xor_eq0 z
    have k1 : val 1 w = e := by rw [key 1 (by decide) hz.1, gpow_1, gm_one he]
    refine .inr (.inr (.inl ⟨hn, fun z => h0 (k1.symm.trans z.1), w.length - 1 - i, by omega, ⟨by rw [k1]; exact h0, ?_, ?_, ?_⟩, ?_⟩))
    · rw [k1]; exact key 2 (by decide) hz.2.1
    · rw [k1]; exact key 4 (by decide) hz.2.2.1
    · rw [k1]; exact key 8 (by decide) hz.2.2.2
    · unfold flp
      rw [show w.length - 1 - (w.length - 1 - i) = i by omega, k1, List.getD_eq_getElem?_getD, List.getElem?_eq_getElem hi]
      exact congrArg some q
theorem far_zr {c w : List Nat} (hc : OcN c) (ho : OcN w) (hz : Zr c) (hl : c.length = w.length) (hn : w.length ≤ 255) (h1 : 1 ≤ dist c w) (h4 : dist c w ≤ 4) : ¬ Zr w := fun z => by
  have := code5 hz z hl (by omega) hc ho h4
  subst this
  rw [dist_self] at h1
  omega
theorem fx_far {c w : List Nat} {r : Option (List Nat)} (hc : OcN c) (ho : OcN w) (hz : Zr c) (hl : c.length = w.length) (hn : Ln w) (h2 : 2 ≤ dist c w) (h3 : dist c w ≤ 3) (h : Fx w r) : r = none := by
  rcases h with ⟨_, e⟩ | ⟨_, z, e⟩ | ⟨_, _, p, hp, g, e⟩ | ⟨_, _, _, e⟩
  · exact e
  · exact absurd z (far_zr hc ho hz hl hn.2 (by omega) (by omega))
  · have zf := flp_zr ho hp g
    have d1 := flp_dist w p
    have t := dist_tri (xs := c) (ys := w) (zs := flp w p) hl (flp_len w p).symm
    have := code5 hz zf (hl.trans (flp_len w p).symm) (by have := hn.2; omega) hc (flp_oc ho hp) (by omega)
    rw [← this, dist_comm] at d1
    omega
  · exact e
theorem fx_four {c w : List Nat} {r : Option (List Nat)} (h2 : 2 ≤ dist c w) (h : Fx w r) : r ≠ some c := fun e => by
  rcases h with ⟨_, f⟩ | ⟨_, z, f⟩ | ⟨_, _, p, hp, g, f⟩ | ⟨_, _, _, f⟩
  · rw [f] at e; cases e
  · rw [f] at e
    have e := Option.some.inj e
    subst e
    rw [dist_self] at h2; omega
  · rw [f] at e
    have e := Option.some.inj e
    have d1 := flp_dist w p
    rw [e, dist_comm] at d1
    omega
  · rw [f] at e; cases e
/-- the exponent of two -/
def lgF : Nat → Nat → Nat → Nat → Nat
  | 0, _, k, _ => k
  | f + 1, cur, k, a => bif cur == a then k else lgF f (xt cur) (k + 1) a
def lg (a : Nat) : Nat := lgF 255 1 0 a
theorem lg_all : allB 256 (fun a => a == 0 || (p2 (lg a) == a && Nat.blt (lg a) 255)) = true := by decide +kernel
theorem lg_ok {a : Nat} (h : a < 256) (h0 : a ≠ 0) : gpow 2 (lg a) = a ∧ lg a < 255 := by
  have := allB_of lg_all a h
  rw [Bool.or_eq_true, Bool.and_eq_true] at this
  rcases this with z | ⟨z, y⟩
  · exact absurd (eq_of_beq z) h0
  · exact ⟨(gpow_p2 _).trans (eq_of_beq z), Nat.le_of_ble_eq_true y⟩
end Cn
/-! Gj: linear equations over the field of 256, the code of points; plain Lean -/
namespace Cn
open PySem PySem.Spec L2
def sumX (f : Nat → Nat) : Nat → Nat
  | 0 => 0
  | n + 1 => sumX f n ^^^ f n
theorem sumX_lt {f : Nat → Nat} (h : ∀ k, f k < 256) : ∀ n, sumX f n < 256
  | 0 => by show 0 < 256; decide
  | n + 1 => x_lt (sumX_lt h n) (h n)
theorem sumX_congr {f g : Nat → Nat} : ∀ {n : Nat}, (∀ k, k < n → f k = g k) → sumX f n = sumX g n
  | 0, _ => rfl
  | n + 1, h => by
    show sumX f n ^^^ f n = sumX g n ^^^ g n
    rw [sumX_congr fun k hk => h k (by omega), h n (by omega)]
theorem sumX_xor (f g : Nat → Nat) : ∀ n, sumX (fun k => f k ^^^ g k) n = sumX f n ^^^ sumX g n
  | 0 => by show (0 : Nat) = 0 ^^^ 0; decide
  | n + 1 => by
    show sumX _ n ^^^ (f n ^^^ g n) = (sumX f n ^^^ f n) ^^^ (sumX g n ^^^ g n)
    rw [sumX_xor f g n, xor4]
theorem sumX_gm {f : Nat → Nat} (c : Nat) : ∀ n, sumX (fun k => gm c (f k)) n = gm c (sumX f n)
  | 0 => (gm_zero c).symm
  | n + 1 => by
    show sumX _ n ^^^ gm c (f n) = gm c (sumX f n ^^^ f n)
    rw [sumX_gm c n, gm_xr]
theorem sumX_zero {f : Nat → Nat} : ∀ {n : Nat}, (∀ k, k < n → f k = 0) → sumX f n = 0
  | 0, _ => rfl
  | n + 1, h => by
    show sumX f n ^^^ f n = 0
    rw [sumX_zero fun k hk => h k (by omega), h n (by omega)]; rfl
theorem sumX_one {f : Nat → Nat} {i : Nat} : ∀ {n : Nat}, i < n → (∀ k, k < n → k ≠ i → f k = 0) → sumX f n = f i
  | 0, h, _ => absurd h (Nat.not_lt_zero _)
  | n + 1, h, hz => by
    show sumX f n ^^^ f n = f i
    by_cases e : i = n
    · subst e
      rw [sumX_zero fun k hk => hz k (by omega) (by omega), Nat.zero_xor]
    · rw [sumX_one (n := n) (by omega) fun k hk => hz k (by omega), hz n (by omega) (fun z => e z.symm), Nat.xor_zero]
theorem sumX_two {f : Nat → Nat} {i c n : Nat} (hi : i < n) (hc : c < n) (hic : i ≠ c) (hz : ∀ k, k < n → k ≠ i → k ≠ c → f k = 0) : sumX f n = f i ^^^ f c := by
  have e : sumX f n = sumX (fun k => (if k = i then f i else 0) ^^^ (if k = i then 0 else f k)) n := sumX_congr fun k _ => by
    by_cases z : k = i
    · rw [if_pos z, if_pos z, z, Nat.xor_zero]
    · rw [if_neg z, if_neg z, Nat.zero_xor]
  rw [e, sumX_xor, sumX_one hi (fun k _ h => if_neg h), sumX_one (i := c) hc (fun k hk h => by
    by_cases z : k = i
    · exact if_pos z
    · rw [if_neg z]; exact hz k hk z h), if_pos rfl, if_neg (fun z => hic z.symm)]
theorem sumX_split (f : Nat → Nat) (m : Nat) : ∀ n, sumX f (m + n) = sumX f m ^^^ sumX (fun k => f (m + k)) n
  | 0 => (Nat.xor_zero _).symm
  | n + 1 => by
    show sumX f (m + n) ^^^ f (m + n) = sumX f m ^^^ (sumX (fun k => f (m + k)) n ^^^ f (m + n))
    rw [sumX_split f m n, Nat.xor_assoc]
abbrev Oc (f : Nat → Nat) : Prop := ∀ k, f k < 256
/-- the equations have one solution at most -/
def NonSing (n : Nat) (A : Nat → Nat → Nat) : Prop := ∀ x, Oc x → (∀ i, i < n → sumX (fun j => gm (A i j) (x j)) n = 0) → ∀ j, j < n → x j = 0
/-- the rows ahead of the first step: the matrix, and the unit matrix beside -/
def r0 (n : Nat) (A : Nat → Nat → Nat) (i k : Nat) : Nat := if k < n then A i k else if k - n = i then 1 else 0
def extX (n : Nat) (A : Nat → Nat → Nat) (x : Nat → Nat) (k : Nat) : Nat := if k < n then x k else sumX (fun j => gm (A (k - n) j) (x j)) n
structure GJ (n : Nat) (A : Nat → Nat → Nat) (c : Nat) (r : Nat → Nat → Nat) : Prop where
  ha : ∀ i, Oc (A i)
  oc : ∀ i, Oc (r i)
  rel : ∀ x, Oc x → ∀ i, i < n → sumX (fun k => gm (r i k) (extX n A x k)) (n + n) = 0
  ker : ∀ y, Oc y → (∀ i, i < n → sumX (fun k => gm (r i k) (y k)) (n + n) = 0) → ∀ i, i < n → sumX (fun k => gm (r0 n A i k) (y k)) (n + n) = 0
  unit : ∀ j, j < c → ∀ i, i < n → r i j = if i = j then 1 else 0
variable {n c : Nat} {A r r' : Nat → Nat → Nat}
theorem ext_lt (hA : ∀ i, Oc (A i)) {x : Nat → Nat} (hx : Oc x) : Oc (extX n A x) := fun k => by
  unfold extX
  split
  · exact hx k
  · exact sumX_lt (fun j => gm_lt (hA _ j) _) n
theorem GJ.init (hA : ∀ i, Oc (A i)) : GJ n A 0 (r0 n A) := by
  refine ⟨hA, fun i k => ?_, fun x hx i hi => ?_, fun y _ h => h, fun j hj => absurd hj (Nat.not_lt_zero _)⟩
  · unfold r0
    split
    · exact hA i k
    · split <;> decide
  · rw [sumX_split, sumX_congr (g := fun k => gm (A i k) (x k)) fun k hk => by unfold r0 extX; rw [if_pos hk, if_pos hk]]
    rw [sumX_one (f := fun k => gm (r0 n A i (n + k)) (extX n A x (n + k))) hi fun k hk h => by
      unfold r0
      rw [if_neg (by omega), if_neg (by omega), zero_gm (ext_lt hA hx _)]]
    unfold r0 extX
    rw [if_neg (by omega), if_pos (by omega), if_neg (by omega), show n + i - n = i by omega, one_gm (sumX_lt (fun j => gm_lt (hA _ j) _) n), Nat.xor_self]
theorem GJ.swap (h : GJ n A c r) {a b : Nat} (ha : c ≤ a ∧ a < n) (hb : c ≤ b ∧ b < n) (he : ∀ i, i < n → ∀ k, r' i k = if i = a then r b k else if i = b then r a k else r i k) (ho : ∀ i, Oc (r' i)) : GJ n A c r' := by
  refine ⟨h.ha, ho, fun x hx i hi => ?_, fun y hy hz => h.ker y hy fun i hi => ?_, fun j hj i hi => ?_⟩
  · rw [sumX_congr (g := fun k => gm ((if i = a then r b else if i = b then r a else r i) k) (extX n A x k)) fun k _ => by
      rw [he i hi]
      by_cases z1 : i = a
      · rw [if_pos z1, if_pos z1]
      · rw [if_neg z1, if_neg z1]
        by_cases z2 : i = b
        · rw [if_pos z2, if_pos z2]
        · rw [if_neg z2, if_neg z2]]
    split
    · exact h.rel x hx b hb.2
    · split
      · exact h.rel x hx a ha.2
      · exact h.rel x hx i hi
  · have key : ∀ m, m < n → ∀ i, (∀ k, r' m k = r i k) → sumX (fun k => gm (r i k) (y k)) (n + n) = 0 := fun m hm i e => by
      have := hz m hm
      rw [sumX_congr (g := fun k => gm (r i k) (y k)) fun k _ => by rw [e]] at this
      exact this
    by_cases z1 : i = a
    · by_cases z3 : b = a
      · exact key a ha.2 i fun k => by rw [he a ha.2, if_pos rfl, z1, z3]
      · exact key b hb.2 i fun k => by rw [he b hb.2, if_neg z3, if_pos rfl, z1]
    · by_cases z2 : i = b
      · exact key a ha.2 i fun k => by rw [he a ha.2, if_pos rfl, z2]
      · exact key i hi i fun k => by rw [he i hi, if_neg z1, if_neg z2]
  · rw [he i hi]
    split
    · rename_i z; rw [h.unit j hj b hb.2, if_neg (by omega), if_neg (by omega)]
    · split
      · rename_i z; rw [h.unit j hj a ha.2, if_neg (by omega), if_neg (by omega)]
      · exact h.unit j hj i hi
theorem GJ.scale (h : GJ n A c r) (hc : c < n) {s : Nat} (hs : s < 256) (h0 : s ≠ 0) (he : ∀ i, i < n → ∀ k, r' i k = if i = c then gm s (r c k) else r i k) (ho : ∀ i, Oc (r' i)) : GJ n A c r' := by
  have sc : ∀ y : Nat → Nat, Oc y → sumX (fun k => gm (gm s (r c k)) (y k)) (n + n) = gm s (sumX (fun k => gm (r c k) (y k)) (n + n)) := fun y hy => by
    rw [← sumX_gm]
    exact sumX_congr fun k _ => gm_assoc hs (h.oc c k) (hy k)
  refine ⟨h.ha, ho, fun x hx i hi => ?_, fun y hy hz => h.ker y hy fun i hi => ?_, fun j hj i hi => ?_⟩
  · by_cases z : i = c
    · rw [sumX_congr (g := fun k => gm (gm s (r c k)) (extX n A x k)) fun k _ => by rw [he i hi, if_pos z]]
      rw [sc _ (ext_lt h.ha hx), h.rel x hx c hc, gm_zero]
    · rw [sumX_congr (g := fun k => gm (r i k) (extX n A x k)) fun k _ => by rw [he i hi, if_neg z]]
      exact h.rel x hx i hi
  · have := hz i hi
    by_cases z : i = c
    · rw [sumX_congr (g := fun k => gm (gm s (r c k)) (y k)) fun k _ => by rw [he i hi, if_pos z], sc y hy] at this
      rw [z]
      exact (gm_eq0 hs (sumX_lt (fun k => gm_lt (h.oc c k) _) _) this).resolve_left h0
    · rw [sumX_congr (g := fun k => gm (r i k) (y k)) fun k _ => by rw [he i hi, if_neg z]] at this
      exact this
  · rw [he i hi]
    split
    · rename_i z; rw [h.unit j hj c hc, if_neg (by omega), gm_zero, if_neg (by omega)]
    · exact h.unit j hj i hi
/-- all rows but c lose their part of row c, those below m so far -/
theorem GJ.elim (h : GJ n A c r) (hc : c < n) {f : Nat → Nat} (hf : f c = 0) (he : ∀ i, i < n → ∀ k, r' i k = r i k ^^^ gm (f i) (r c k)) (ho : ∀ i, Oc (r' i)) (hfo : ∀ i, f i < 256) : GJ n A c r' := by
  have sc : ∀ y : Nat → Nat, Oc y → ∀ i, i < n → sumX (fun k => gm (r' i k) (y k)) (n + n) = sumX (fun k => gm (r i k) (y k)) (n + n) ^^^ gm (f i) (sumX (fun k => gm (r c k) (y k)) (n + n)) := fun y hy i hi => by
    rw [← sumX_gm, ← sumX_xor]
    refine sumX_congr fun k _ => ?_
    rw [he i hi, gm_xl _ (h.oc i k) (gm_lt (hfo i) _), gm_assoc (hfo i) (h.oc c k) (hy k)]
  refine ⟨h.ha, ho, fun x hx i hi => ?_, fun y hy hz => h.ker y hy fun i hi => ?_, fun j hj i hi => ?_⟩
  · rw [sc _ (ext_lt h.ha hx) i hi, h.rel x hx i hi, h.rel x hx c hc, gm_zero]; rfl
  · have e1 := hz c hc
    rw [sc y hy c hc, hf, zero_gm (sumX_lt (fun k => gm_lt (h.oc c k) _) _), Nat.xor_zero] at e1
    have e2 := hz i hi
    rw [sc y hy i hi, e1, gm_zero, Nat.xor_zero] at e2
    exact e2
  · rw [he i hi, h.unit j hj c hc, if_neg (by omega), gm_zero, Nat.xor_zero]
    exact h.unit j hj i hi
theorem GJ.next (h : GJ n A c r) (hu : ∀ i, i < n → r i c = if i = c then 1 else 0) : GJ n A (c + 1) r := ⟨h.ha, h.oc, h.rel, h.ker, fun j hj i hi => by
  by_cases z : j = c
  · rw [z]; exact hu i hi
  · exact h.unit j (by omega) i hi⟩
theorem GJ.pivot (h : GJ n A c r) (ns : NonSing n A) (hc : c < n) : ∃ i, c ≤ i ∧ i < n ∧ r i c ≠ 0 := by
  apply Classical.byContradiction
  intro no
  have zr : ∀ i, c ≤ i → i < n → r i c = 0 := fun i h1 h2 => Classical.byContradiction fun z => no ⟨i, h1, h2, z⟩
  let x : Nat → Nat := fun j => if j < c then r j c else if j = c then 1 else 0
  have hx : Oc x := fun j => by
    show (if j < c then r j c else if j = c then 1 else 0) < 256
    split
    · exact h.oc j c
    · split <;> decide
  let y : Nat → Nat := fun k => if k < n then x k else 0
  have hy : Oc y := fun k => by
    show (if k < n then x k else 0) < 256
    split
    · exact hx k
    · decide
  have xc : x c = 1 := by show (if c < c then _ else if c = c then 1 else 0) = 1; rw [if_neg (Nat.lt_irrefl c), if_pos rfl]
  have half : ∀ w : Nat → Nat, Oc w → sumX (fun k => gm (w k) (y k)) (n + n) = sumX (fun k => gm (w k) (x k)) n := fun w hw => by
    rw [sumX_split, sumX_zero (f := fun k => gm (w (n + k)) (y (n + k))) fun k _ => by show gm _ (if n + k < n then _ else 0) = 0; rw [if_neg (by omega), gm_zero], Nat.xor_zero]
    exact sumX_congr fun k hk => by show gm _ (if k < n then x k else 0) = _; rw [if_pos hk]
  have z := h.ker y hy fun i hi => by
    rw [half _ (h.oc i)]
    by_cases ic : i < c
    · rw [sumX_two (f := fun k => gm (r i k) (x k)) hi hc (by omega) fun k hk k1 k2 => by
        by_cases kc : k < c
        · rw [h.unit k kc i hi, if_neg (fun z => k1 z.symm), zero_gm (hx k)]
        · show gm _ (if k < c then _ else if k = c then 1 else 0) = 0
          rw [if_neg kc, if_neg k2, gm_zero]]
      rw [h.unit i ic i hi, if_pos rfl, xc, gm_one (h.oc i c), one_gm (hx i)]
      show (if i < c then r i c else _) ^^^ r i c = 0
      rw [if_pos ic, Nat.xor_self]
    · refine sumX_zero fun k hk => ?_
      by_cases kc : k < c
      · rw [h.unit k kc i hi, if_neg (by omega), zero_gm (hx k)]
      · by_cases k2 : k = c
        · rw [k2, zr i (by omega) hi, zero_gm (hx c)]
        · show gm _ (if k < c then _ else if k = c then 1 else 0) = 0
          rw [if_neg kc, if_neg k2, gm_zero]
  have := ns x hx (fun i hi => by
    have e := z i hi
    rw [half _ (fun k => (GJ.init h.ha).oc i k)] at e
    rw [← e]
    exact sumX_congr fun k hk => by unfold r0; rw [if_pos hk]) c hc
  rw [xc] at this
  cases this
theorem GJ.done (h : GJ n A n r) {x : Nat → Nat} (hx : Oc x) {i : Nat} (hi : i < n) : sumX (fun k => gm (r i (n + k)) (sumX (fun j => gm (A k j) (x j)) n)) n = x i := by
  have e := h.rel x hx i hi
  rw [sumX_split, sumX_one (f := fun k => gm (r i k) (extX n A x k)) hi fun k hk z => by rw [h.unit k hk i hi, if_neg (fun w => z w.symm), zero_gm (ext_lt h.ha hx _)], h.unit i hi i hi, if_pos rfl, one_gm (ext_lt h.ha hx _)] at e
  have e2 : extX n A x i = x i := if_pos hi
  rw [e2] at e
  have e3 := xor_eq0 e
  rw [e3]
  exact sumX_congr fun k _ => by unfold extX; rw [if_neg (by omega), show n + k - n = k by omega]
theorem GJ.congr {n c : Nat} {A r r' : Nat → Nat → Nat} (h : GJ n A c r) (hc : c ≤ n) (he : ∀ i, i < n → ∀ k, k < n + n → r' i k = r i k) (ho : ∀ i, Oc (r' i)) : GJ n A c r' := by
  have sc : ∀ (y : Nat → Nat) i, i < n → sumX (fun k => gm (r' i k) (y k)) (n + n) = sumX (fun k => gm (r i k) (y k)) (n + n) := fun y i hi => sumX_congr fun k hk => by rw [he i hi k hk]
  exact ⟨h.ha, ho, fun x hx i hi => by rw [sc _ i hi]; exact h.rel x hx i hi, fun y hy hz => h.ker y hy fun i hi => by rw [← sc y i hi]; exact hz i hi, fun j hj i hi => by rw [he i hi j (by omega)]; exact h.unit j hj i hi⟩
/-! ### the values of points -/
def prodS (z j : Nat) : Nat → Nat
  | 0 => 1
  | n + 1 => if n = j then prodS z j n else gm (prodS z j n) (z ^^^ n)
theorem prodS_lt {z j : Nat} : ∀ n, prodS z j n < 256
  | 0 => by show 1 < 256; decide
  | n + 1 => by
    unfold prodS
    split
    · exact prodS_lt n
    · exact gm_lt (prodS_lt n) _
def lagr (n z j : Nat) : Nat := gm (prodS z j n) (ginv (prodS j j n))
theorem lagr_lt (n z j : Nat) : lagr n z j < 256 := gm_lt (prodS_lt n) _
theorem prodS_ne {j : Nat} (hj : j < 256) : ∀ {n}, n ≤ 256 → prodS j j n ≠ 0
  | 0, _ => by show 1 ≠ 0; decide
  | n + 1, h => by
    unfold prodS
    split
    · exact prodS_ne hj (by omega)
    · rename_i z
      intro e
      rcases gm_eq0 (prodS_lt n) (x_lt hj (by omega)) e with q | q
      · exact prodS_ne hj (by omega) q
      · exact z (xor_eq0 q).symm
theorem prodS_z {z j : Nat} (h : z ≠ j) (hz : z < 256) : ∀ {n}, n ≤ 256 → z < n → prodS z j n = 0
  | 0, _, h => absurd h (Nat.not_lt_zero _)
  | n + 1, hn, hl => by
    unfold prodS
    by_cases e : z = n
    · rw [if_neg (by omega), e, Nat.xor_self, gm_zero]
    · have ih := prodS_z (n := n) h hz (by omega) (by omega)
      split
      · exact ih
      · rw [ih, zero_gm (x_lt hz (by omega))]
theorem lagr_unit {n z j : Nat} (hn : n ≤ 256) (hz : z < n) (hj : j < n) : lagr n z j = if z = j then 1 else 0 := by
  unfold lagr
  by_cases e : z = j
  · subst e
    rw [if_pos rfl, gm_ginv (prodS_lt n) (prodS_ne (by omega) hn)]
  · rw [if_neg e, prodS_z e (by omega) hn hz, zero_gm (ginv_lt (prodS_lt n))]
/-- a form of degree < m as a list, the highest power first -/
def Form (m : Nat) (F : Nat → Nat) : Prop := ∃ cs : List Nat, OcN cs ∧ cs.length = m ∧ ∀ z, z < 256 → F z = val z cs
theorem val_snoc (z : Nat) (xs : List Nat) (o : Nat) : val z (xs ++ [o]) = gm (val z xs) z ^^^ o := by
  unfold val; rw [valF_app]; rfl
theorem oc_snoc {xs : List Nat} {o : Nat} (h : OcN xs) (ho : o < 256) : OcN (xs ++ [o]) := h.app fun d hd => by rw [List.mem_singleton.mp hd]; exact ho
theorem val_scale {z a : Nat} (hz : z < 256) (ha : a < 256) : ∀ {xs : List Nat} {v : Nat}, OcN xs → v < 256 → valF z (xs.map fun c => gm c a) (gm v a) = gm (valF z xs v) a
  | [], _, _, _ => rfl
  | o :: xs, v, ho, hv => by
    show valF z (xs.map _) (gm (gm v a) z ^^^ gm o a) = gm (valF z xs (gm v z ^^^ o)) a
    rw [← val_scale hz ha ho.cons.2 (x_lt (gm_lt hv z) ho.cons.1), gm_xl _ (gm_lt hv z) ho.cons.1, gm_assoc hv ha hz, gm_comm ha hz, ← gm_assoc hv hz ha]
theorem Form.scale {m : Nat} {F : Nat → Nat} {a : Nat} (ha : a < 256) (h : Form m F) : Form m fun z => gm (F z) a := by
  obtain ⟨cs, oc, l, e⟩ := h
  refine ⟨cs.map fun c => gm c a, fun d hd => ?_, by rw [List.length_map, l], fun z hz => ?_⟩
  · obtain ⟨c, hc, ec⟩ := List.mem_map.mp hd
    rw [← ec]; exact gm_lt (oc c hc) a
  · have := val_scale hz ha (v := 0) oc (by decide)
    rw [zero_gm ha] at this
    show gm (F z) a = valF z _ 0
    rw [this, e z hz]; rfl
theorem Form.add {m : Nat} {F G : Nat → Nat} (h : Form m F) (k : Form m G) : Form m fun z => F z ^^^ G z := by
  obtain ⟨cs, oc, l, e⟩ := h
  obtain ⟨ds, od, l2, e2⟩ := k
  refine ⟨xo cs ds, xo_oc oc od, by rw [xo_len (by omega), l], fun z hz => ?_⟩
  show F z ^^^ G z = _
  rw [val_xo hz (by omega) oc od, e z hz, e2 z hz]
theorem Form.zero (m : Nat) : Form m fun _ => 0 := by
  refine ⟨List.replicate m 0, fun d hd => by rw [(List.mem_replicate.mp hd).2]; decide, List.length_replicate, fun z hz => ?_⟩
  have : ∀ k, valF z (List.replicate k 0) 0 = 0 := fun k => by
    induction k with
    | zero => rfl
    | succ k ih =>
      rw [List.replicate_succ]
      show valF z _ (gm 0 z ^^^ 0) = 0
      rw [zero_gm hz]; exact ih
  exact (this m).symm
theorem val_cons0 {z : Nat} (hz : z < 256) (xs : List Nat) : val z (0 :: xs) = val z xs := by
  show valF z xs (gm 0 z ^^^ 0) = _
  rw [zero_gm hz]; rfl
theorem Form.up {m : Nat} {F : Nat → Nat} (h : Form m F) : Form (m + 1) F := by
  obtain ⟨cs, oc, l, e⟩ := h
  refine ⟨0 :: cs, fun d hd => ?_, by rw [List.length_cons, l], fun z hz => by rw [val_cons0 hz, e z hz]⟩
  rcases List.mem_cons.mp hd with q | q
  · rw [q]; decide
  · exact oc d q
theorem Form.point {m a : Nat} {F : Nat → Nat} (ha : a < 256) (h : Form m F) : Form (m + 1) fun z => gm (F z) (z ^^^ a) := by
  have h2 := (h.scale ha).up
  obtain ⟨cs, oc, l, e⟩ := h
  have h1 : Form (m + 1) fun z => gm (F z) z := ⟨cs ++ [0], oc_snoc oc (by decide), by rw [List.length_append, l]; rfl, fun z hz => by show gm (F z) z = _; rw [val_snoc, Nat.xor_zero, e z hz]⟩
  have := h1.add h2
  refine Eq.mp ?_ this
  congr 1
  funext z
  exact (gm_xr _ _ _).symm
theorem prodS_form {j : Nat} : ∀ {n}, n ≤ 256 → Form (if j < n then n else n + 1) fun z => prodS z j n
  | 0, _ => by
    rw [if_neg (Nat.not_lt_zero _)]
    exact ⟨[1], fun d hd => by rw [List.mem_singleton.mp hd]; decide, rfl, fun z hz => by
      show 1 = gm 0 z ^^^ 1
      rw [zero_gm hz]; rfl⟩
  | n + 1, hn => by
    have ih := prodS_form (j := j) (n := n) (by omega)
    unfold prodS
    by_cases e : n = j
    · simp only [if_pos e]
      rw [if_pos (by omega)]
      rw [if_neg (by omega)] at ih
      exact ih
    · simp only [if_neg e]
      by_cases l : j < n
      · rw [if_pos l] at ih
        rw [if_pos (by omega)]
        exact ih.point (by omega)
      · rw [if_neg l] at ih
        rw [if_neg (by omega)]
        exact ih.point (by omega)
theorem lagr_form {n j : Nat} (hn : n ≤ 256) (hj : j < n) : Form n fun z => lagr n z j := by
  have := prodS_form (j := j) (n := n) hn
  rw [if_pos hj] at this
  exact this.scale (ginv_lt (prodS_lt n))
theorem sum_form {m : Nat} {F : Nat → Nat → Nat} : ∀ {n : Nat}, (∀ j, j < n → Form m fun z => F z j) → Form m fun z => sumX (F z) n
  | 0, _ => Form.zero m
  | n + 1, h => (sum_form (n := n) fun j hj => h j (by omega)).add (h n (by omega))
/-- a form without a root, divided by it -/
theorem divide {r : Nat} (hr : r < 256) : ∀ (n : Nat) {cs : List Nat}, cs.length = n + 1 → OcN cs → ∃ qs : List Nat, OcN qs ∧ qs.length = n ∧ ∀ z, z < 256 → val z cs = gm (val z qs) (z ^^^ r) ^^^ val r cs
  | 0, cs, hl, ho => by
    match cs, hl with
    | [a], _ =>
      refine ⟨[], (fun _ z => nomatch z), rfl, fun z hz => ?_⟩
      show gm 0 z ^^^ a = gm 0 (z ^^^ r) ^^^ (gm 0 r ^^^ a)
      rw [zero_gm hz, zero_gm hr, zero_gm (x_lt hz hr), Nat.zero_xor, Nat.zero_xor]
  | n + 1, cs, hl, ho => by
    obtain ⟨ds, c, e⟩ : ∃ ds c, cs = ds ++ [c] := ⟨cs.dropLast, cs.getLast (by intro z; rw [z] at hl; cases hl), (List.dropLast_concat_getLast _).symm⟩
    subst e
    rw [List.length_append, List.length_singleton] at hl
    have od : OcN ds := fun d hd => ho d (List.mem_append_left _ hd)
    have oc : c < 256 := ho c (by simp)
    obtain ⟨qs, oq, lq, eq⟩ := divide hr n (by omega) od
    have vr := val_lt (x := r) od
    refine ⟨qs ++ [val r ds], oc_snoc oq vr, by rw [List.length_append, lq]; rfl, fun z hz => ?_⟩
    have vq := val_lt (x := z) oq
    rw [val_snoc, val_snoc, val_snoc, eq z hz]
    generalize val z qs = q at vq
    generalize val r ds = d at vr
    have e1 : gm (gm q (z ^^^ r) ^^^ d) z = gm (gm q z) (z ^^^ r) ^^^ gm d z := by
      rw [gm_xl _ (gm_lt vq _) vr, gm_assoc vq (x_lt hz hr) hz, gm_comm (x_lt hz hr) hz, ← gm_assoc vq hz (x_lt hz hr)]
    have e2 : gm (gm q z ^^^ d) (z ^^^ r) = gm (gm q z) (z ^^^ r) ^^^ (gm d z ^^^ gm d r) := by
      rw [gm_xl _ (gm_lt vq _) vr, gm_xr d z r]
    rw [e1, e2]
    generalize gm (gm q z) (z ^^^ r) = u
    generalize gm d z = v
    generalize gm d r = w
    have : u ^^^ (v ^^^ w) ^^^ (w ^^^ c) = u ^^^ v ^^^ (w ^^^ w) ^^^ c := by ac_rfl
    rw [this, Nat.xor_self, Nat.xor_zero]
theorem no_roots : ∀ (n : Nat) {cs : List Nat} {p : Nat → Nat}, cs.length = n → OcN cs → (∀ i, i < n → p i < 256) → (∀ i j, i < n → j < n → p i = p j → i = j) → (∀ i, i < n → val (p i) cs = 0) → ∀ z, z < 256 → val z cs = 0
  | 0, cs, p, hl, _, _, _, _, z, _ => by
    have : cs = [] := List.length_eq_zero_iff.mp hl
    rw [this]; rfl
  | n + 1, cs, p, hl, ho, hp, hd, hv, z, hz => by
    obtain ⟨qs, oq, lq, eq⟩ := divide (hp n (by omega)) n hl ho
    have h0 := hv n (by omega)
    have ih := no_roots n (p := p) lq oq (fun i hi => hp i (by omega)) (fun i j hi hj => hd i j (by omega) (by omega)) fun i hi => by
      have e := eq (p i) (hp i (by omega))
      rw [hv i (by omega), h0, Nat.xor_zero] at e
      rcases gm_eq0 (val_lt oq) (x_lt (hp i (by omega)) (hp n (by omega))) e.symm with q | q
      · exact q
      · have := hd i n (by omega) (by omega) (xor_eq0 q)
        omega
    rw [eq z hz, h0, ih z hz, zero_gm (x_lt hz (hp n (by omega)))]; rfl
theorem lagr_nonsing {n : Nat} (hn : n ≤ 256) {p : Nat → Nat} (hp : ∀ i, i < n → p i < 256) (hd : ∀ i j, i < n → j < n → p i = p j → i = j) : NonSing n fun i j => lagr n (p i) j := by
  intro x hx hz j hj
  obtain ⟨cs, oc, l, e⟩ := sum_form (m := n) (F := fun z j => gm (lagr n z j) (x j)) (n := n) fun j hj => (lagr_form hn hj).scale (hx j)
  have z := no_roots n l oc hp hd (fun i hi => by rw [← e (p i) (hp i hi)]; exact hz i hi) j (by omega)
  rw [← e j (by omega)] at z
  have z : sumX (fun k => gm (lagr n j k) (x k)) n = 0 := z
  rw [sumX_one hj fun k hk h => by rw [lagr_unit hn hj hk, if_neg (fun w => h w.symm), zero_gm (hx k)], lagr_unit hn hj hj, if_pos rfl, one_gm (hx j)] at z
  exact z
end Cn
namespace K53
open PySem PySem.Spec L2 Cn
def top (i : Nat) : Stmt := PySem.Challenge.pw_cairnhouse_k53_blobs_and_back.main.body.getD i (.Pass ⟨0, 0, 0, 0⟩)
abbrev s__law_draws : Stmt := top 32
abbrev s__law_octets : Stmt := top 37
abbrev s_mul : Stmt := top 12
abbrev s_power : Stmt := top 13
abbrev s_inv : Stmt := top 14
abbrev s_div : Stmt := top 15
abbrev s__basis_row : Stmt := top 24
abbrev s_Code____init__ : Stmt := inClass (top 22) 0
abbrev s__combine : Stmt := top 25
abbrev s__check_lengths : Stmt := top 23
abbrev s_Code___check_blocks : Stmt := inClass (top 22) 11
abbrev s_Code__word : Stmt := inClass (top 22) 2
abbrev s_Code__chunks : Stmt := inClass (top 22) 8
abbrev s_fragments : Stmt := top 27
abbrev s__law_order : Stmt := top 39
abbrev s_Code__merge : Stmt := inClass (top 22) 9
abbrev s_identity : Stmt := top 17
abbrev s__without : Stmt := top 20
abbrev s__reduce : Stmt := top 19
abbrev s_inverse : Stmt := top 18
abbrev s_Code___check_index : Stmt := inClass (top 22) 10
abbrev s_Code__rebuild : Stmt := inClass (top 22) 4
abbrev s_whole_blob : Stmt := top 28
abbrev s__law_error : Stmt := top 40
abbrev s__law_mul : Stmt := top 33
abbrev s__law_inverse_octet : Stmt := top 34
abbrev s__law_spare : Stmt := top 35
abbrev s__law_is_number : Stmt := top 36
abbrev s__law_is_row : Stmt := top 38
abbrev s_Config____init__ : Stmt := inClass (top 30) 0
abbrev s_law : Stmt := top 41
/-- what the top has written -/
structure Tx (K : PySem.W.Frag) (mg : Str → Option Value) where
  e_Code : Addr
  gc_Code : mg "Code" = some (.ref e_Code)
  cl_Code : Cls K e_Code
  na_Code_data : NoAttr K e_Code "data"
  na_Code_total : NoAttr K e_Code "total"
  na_Code_rows : NoAttr K e_Code "rows"
  e_Config : Addr
  gc_Config : mg "Config" = some (.ref e_Config)
  cl_Config : Cls K e_Config
  na_Config_keepers : NoAttr K e_Config "keepers"
  na_Config_shelves : NoAttr K e_Config "shelves"
  na_Config_data : NoAttr K e_Config "data"
  na_Config_spare : NoAttr K e_Config "spare"
  na_Config_sectors : NoAttr K e_Config "sectors"
  a__law_draws : Addr
  d__law_draws : FuncData
  F__law_draws : Fun K "_law_draws" "_law_draws" s__law_draws a__law_draws d__law_draws
  b__law_draws : Binds K d__law_draws ["script", "many"] []
  g__law_draws : mg "_law_draws" = some (.ref a__law_draws)
  a__law_octets : Addr
  d__law_octets : FuncData
  F__law_octets : Fun K "_law_octets" "_law_octets" s__law_octets a__law_octets d__law_octets
  b__law_octets : Binds K d__law_octets ["draws", "size"] []
  g__law_octets : mg "_law_octets" = some (.ref a__law_octets)
  a_mul : Addr
  d_mul : FuncData
  F_mul : Fun K "mul" "mul" s_mul a_mul d_mul
  b_mul : Binds K d_mul ["a", "b"] []
  g_mul : mg "mul" = some (.ref a_mul)
  a_power : Addr
  d_power : FuncData
  F_power : Fun K "power" "power" s_power a_power d_power
  b_power : Binds K d_power ["a", "n"] []
  g_power : mg "power" = some (.ref a_power)
  a_inv : Addr
  d_inv : FuncData
  F_inv : Fun K "inv" "inv" s_inv a_inv d_inv
  b_inv : Binds K d_inv ["a"] []
  g_inv : mg "inv" = some (.ref a_inv)
  a_div : Addr
  d_div : FuncData
  F_div : Fun K "div" "div" s_div a_div d_div
  b_div : Binds K d_div ["a", "b"] []
  g_div : mg "div" = some (.ref a_div)
  a__basis_row : Addr
  d__basis_row : FuncData
  F__basis_row : Fun K "_basis_row" "_basis_row" s__basis_row a__basis_row d__basis_row
  b__basis_row : Binds K d__basis_row ["i", "data"] []
  g__basis_row : mg "_basis_row" = some (.ref a__basis_row)
  a_Code____init__ : Addr
  d_Code____init__ : FuncData
  F_Code____init__ : Fun K "__init__" "Code.__init__" s_Code____init__ a_Code____init__ d_Code____init__
  b_Code____init__ : Binds K d_Code____init__ ["self", "data", "total"] []
  mk_Code : Mk K e_Code a_Code____init__
  a__combine : Addr
  d__combine : FuncData
  F__combine : Fun K "_combine" "_combine" s__combine a__combine d__combine
  b__combine : Binds K d__combine ["row", "blocks"] []
  g__combine : mg "_combine" = some (.ref a__combine)
  a__check_lengths : Addr
  d__check_lengths : FuncData
  F__check_lengths : Fun K "_check_lengths" "_check_lengths" s__check_lengths a__check_lengths d__check_lengths
  b__check_lengths : Binds K d__check_lengths ["lists"] []
  g__check_lengths : mg "_check_lengths" = some (.ref a__check_lengths)
  a_Code___check_blocks : Addr
  d_Code___check_blocks : FuncData
  F_Code___check_blocks : Fun K "_check_blocks" "Code._check_blocks" s_Code___check_blocks a_Code___check_blocks d_Code___check_blocks
  b_Code___check_blocks : Binds K d_Code___check_blocks ["self", "blocks"] []
  h_Code___check_blocks : Meth K e_Code "_check_blocks" a_Code___check_blocks
  a_Code__word : Addr
  d_Code__word : FuncData
  F_Code__word : Fun K "word" "Code.word" s_Code__word a_Code__word d_Code__word
  b_Code__word : Binds K d_Code__word ["self", "blocks"] []
  h_Code__word : Meth K e_Code "word" a_Code__word
  a_Code__chunks : Addr
  d_Code__chunks : FuncData
  F_Code__chunks : Fun K "chunks" "Code.chunks" s_Code__chunks a_Code__chunks d_Code__chunks
  b_Code__chunks : Binds K d_Code__chunks ["self", "octets"] []
  h_Code__chunks : Meth K e_Code "chunks" a_Code__chunks
  a_fragments : Addr
  d_fragments : FuncData
  F_fragments : Fun K "fragments" "fragments" s_fragments a_fragments d_fragments
  b_fragments : Binds K d_fragments ["config", "octets"] []
  g_fragments : mg "fragments" = some (.ref a_fragments)
  a__law_order : Addr
  d__law_order : FuncData
  F__law_order : Fun K "_law_order" "_law_order" s__law_order a__law_order d__law_order
  b__law_order : Binds K d__law_order ["draws", "many"] []
  g__law_order : mg "_law_order" = some (.ref a__law_order)
  a_Code__merge : Addr
  d_Code__merge : FuncData
  F_Code__merge : Fun K "merge" "Code.merge" s_Code__merge a_Code__merge d_Code__merge
  b_Code__merge : Binds K d_Code__merge ["self", "blocks", "size"] []
  h_Code__merge : Meth K e_Code "merge" a_Code__merge
  a_identity : Addr
  d_identity : FuncData
  F_identity : Fun K "identity" "identity" s_identity a_identity d_identity
  b_identity : Binds K d_identity ["n"] []
  g_identity : mg "identity" = some (.ref a_identity)
  a__without : Addr
  d__without : FuncData
  F__without : Fun K "_without" "_without" s__without a__without d__without
  b__without : Binds K d__without ["row", "factor", "pivot_row"] []
  g__without : mg "_without" = some (.ref a__without)
  a__reduce : Addr
  d__reduce : FuncData
  F__reduce : Fun K "_reduce" "_reduce" s__reduce a__reduce d__reduce
  b__reduce : Binds K d__reduce ["a", "width"] []
  g__reduce : mg "_reduce" = some (.ref a__reduce)
  a_inverse : Addr
  d_inverse : FuncData
  F_inverse : Fun K "inverse" "inverse" s_inverse a_inverse d_inverse
  b_inverse : Binds K d_inverse ["a"] []
  g_inverse : mg "inverse" = some (.ref a_inverse)
  a_Code___check_index : Addr
  d_Code___check_index : FuncData
  F_Code___check_index : Fun K "_check_index" "Code._check_index" s_Code___check_index a_Code___check_index d_Code___check_index
  b_Code___check_index : Binds K d_Code___check_index ["self", "i"] []
  h_Code___check_index : Meth K e_Code "_check_index" a_Code___check_index
  a_Code__rebuild : Addr
  d_Code__rebuild : FuncData
  F_Code__rebuild : Fun K "rebuild" "Code.rebuild" s_Code__rebuild a_Code__rebuild d_Code__rebuild
  b_Code__rebuild : Binds K d_Code__rebuild ["self", "pieces"] []
  h_Code__rebuild : Meth K e_Code "rebuild" a_Code__rebuild
  a_whole_blob : Addr
  d_whole_blob : FuncData
  F_whole_blob : Fun K "whole_blob" "whole_blob" s_whole_blob a_whole_blob d_whole_blob
  b_whole_blob : Binds K d_whole_blob ["config", "pieces", "size"] []
  g_whole_blob : mg "whole_blob" = some (.ref a_whole_blob)
  a__law_error : Addr
  d__law_error : FuncData
  F__law_error : Fun K "_law_error" "_law_error" s__law_error a__law_error d__law_error
  b__law_error : Binds K d__law_error ["config", "pieces", "size"] []
  g__law_error : mg "_law_error" = some (.ref a__law_error)
  a__law_mul : Addr
  d__law_mul : FuncData
  F__law_mul : Fun K "_law_mul" "_law_mul" s__law_mul a__law_mul d__law_mul
  b__law_mul : Binds K d__law_mul ["a", "b"] []
  g__law_mul : mg "_law_mul" = some (.ref a__law_mul)
  a__law_inverse_octet : Addr
  d__law_inverse_octet : FuncData
  F__law_inverse_octet : Fun K "_law_inverse_octet" "_law_inverse_octet" s__law_inverse_octet a__law_inverse_octet d__law_inverse_octet
  b__law_inverse_octet : Binds K d__law_inverse_octet ["a"] []
  g__law_inverse_octet : mg "_law_inverse_octet" = some (.ref a__law_inverse_octet)
  a__law_spare : Addr
  d__law_spare : FuncData
  F__law_spare : Fun K "_law_spare" "_law_spare" s__law_spare a__law_spare d__law_spare
  b__law_spare : Binds K d__law_spare ["rows", "i", "data"] []
  g__law_spare : mg "_law_spare" = some (.ref a__law_spare)
  a__law_is_number : Addr
  d__law_is_number : FuncData
  F__law_is_number : Fun K "_law_is_number" "_law_is_number" s__law_is_number a__law_is_number d__law_is_number
  b__law_is_number : Binds K d__law_is_number ["value"] []
  g__law_is_number : mg "_law_is_number" = some (.ref a__law_is_number)
  a__law_is_row : Addr
  d__law_is_row : FuncData
  F__law_is_row : Fun K "_law_is_row" "_law_is_row" s__law_is_row a__law_is_row d__law_is_row
  b__law_is_row : Binds K d__law_is_row ["row", "length"] []
  g__law_is_row : mg "_law_is_row" = some (.ref a__law_is_row)
  a_Config____init__ : Addr
  d_Config____init__ : FuncData
  F_Config____init__ : Fun K "__init__" "Config.__init__" s_Config____init__ a_Config____init__ d_Config____init__
  b_Config____init__ : Binds K d_Config____init__ ["self", "keepers", "shelves", "data", "spare", "sectors"] []
  mk_Config : Mk K e_Config a_Config____init__
  a_law : Addr
  d_law : FuncData
  F_law : Fun K "law" "law" s_law a_law d_law
  b_law : Binds K d_law ["script"] []
  g_law : mg "law" = some (.ref a_law)
  b_abs : mg "abs" = none
  b_all : mg "all" = none
  b_bool : mg "bool" = none
  b_int : mg "int" = none
  b_isinstance : mg "isinstance" = none
  b_len : mg "len" = none
  b_list : mg "list" = none
  b_max : mg "max" = none
  b_range : mg "range" = none
  b_sorted : mg "sorted" = none
  e_ZeroElement : Addr
  x_ZeroElement : XcF K mg "ZeroElement" e_ZeroElement
  e_ShapeMismatch : Addr
  x_ShapeMismatch : XcF K mg "ShapeMismatch" e_ShapeMismatch
  e_Singular : Addr
  x_Singular : XcF K mg "Singular" e_Singular
  e_BadCode : Addr
  x_BadCode : XcF K mg "BadCode" e_BadCode
  e_BadIndex : Addr
  x_BadIndex : XcF K mg "BadIndex" e_BadIndex
  e_NotEnough : Addr
  x_NotEnough : XcF K mg "NotEnough" e_NotEnough
  e_UnequalBlocks : Addr
  x_UnequalBlocks : XcF K mg "UnequalBlocks" e_UnequalBlocks
  e_BadConfig : Addr
  x_BadConfig : XcF K mg "BadConfig" e_BadConfig
  gc_BadIndex : mg "BadIndex" = some (.ref e_BadIndex)
  e_CairnError : Addr
  gc_CairnError : mg "CairnError" = some (.ref e_CairnError)
  gc_NotEnough : mg "NotEnough" = some (.ref e_NotEnough)
  gc_UnequalBlocks : mg "UnequalBlocks" = some (.ref e_UnequalBlocks)
  xm_BadCode_CairnError : PySem.W.exmOne K (.ref e_BadCode) (.ref e_CairnError) = some true
  xm_BadIndex_CairnError : PySem.W.exmOne K (.ref e_BadIndex) (.ref e_CairnError) = some true
  xm_NotEnough_CairnError : PySem.W.exmOne K (.ref e_NotEnough) (.ref e_CairnError) = some true
  xm_ShapeMismatch_CairnError : PySem.W.exmOne K (.ref e_ShapeMismatch) (.ref e_CairnError) = some true
  xm_Singular_CairnError : PySem.W.exmOne K (.ref e_Singular) (.ref e_CairnError) = some true
  xm_UnequalBlocks_CairnError : PySem.W.exmOne K (.ref e_UnequalBlocks) (.ref e_CairnError) = some true
  xm_ZeroElement_CairnError : PySem.W.exmOne K (.ref e_ZeroElement) (.ref e_CairnError) = some true
  xc_BadCode : ExcC K e_BadCode
  xc_BadIndex : ExcC K e_BadIndex
  xc_NotEnough : ExcC K e_NotEnough
  xc_ShapeMismatch : ExcC K e_ShapeMismatch
  xc_Singular : ExcC K e_Singular
  xc_UnequalBlocks : ExcC K e_UnequalBlocks
  xc_ZeroElement : ExcC K e_ZeroElement
  ki_BadCode_BadIndex : PySem.W.kitOne K (.ref e_BadCode) (.ref e_BadIndex) = some false
  ki_BadCode_NotEnough : PySem.W.kitOne K (.ref e_BadCode) (.ref e_NotEnough) = some false
  ki_BadCode_UnequalBlocks : PySem.W.kitOne K (.ref e_BadCode) (.ref e_UnequalBlocks) = some false
  ki_BadIndex_BadIndex : PySem.W.kitOne K (.ref e_BadIndex) (.ref e_BadIndex) = some true
  ki_BadIndex_NotEnough : PySem.W.kitOne K (.ref e_BadIndex) (.ref e_NotEnough) = some false
  ki_BadIndex_UnequalBlocks : PySem.W.kitOne K (.ref e_BadIndex) (.ref e_UnequalBlocks) = some false
  ki_NotEnough_BadIndex : PySem.W.kitOne K (.ref e_NotEnough) (.ref e_BadIndex) = some false
  ki_NotEnough_NotEnough : PySem.W.kitOne K (.ref e_NotEnough) (.ref e_NotEnough) = some true
  ki_NotEnough_UnequalBlocks : PySem.W.kitOne K (.ref e_NotEnough) (.ref e_UnequalBlocks) = some false
  ki_ShapeMismatch_BadIndex : PySem.W.kitOne K (.ref e_ShapeMismatch) (.ref e_BadIndex) = some false
  ki_ShapeMismatch_NotEnough : PySem.W.kitOne K (.ref e_ShapeMismatch) (.ref e_NotEnough) = some false
  ki_ShapeMismatch_UnequalBlocks : PySem.W.kitOne K (.ref e_ShapeMismatch) (.ref e_UnequalBlocks) = some false
  ki_Singular_BadIndex : PySem.W.kitOne K (.ref e_Singular) (.ref e_BadIndex) = some false
  ki_Singular_NotEnough : PySem.W.kitOne K (.ref e_Singular) (.ref e_NotEnough) = some false
  ki_Singular_UnequalBlocks : PySem.W.kitOne K (.ref e_Singular) (.ref e_UnequalBlocks) = some false
  ki_UnequalBlocks_BadIndex : PySem.W.kitOne K (.ref e_UnequalBlocks) (.ref e_BadIndex) = some false
  ki_UnequalBlocks_NotEnough : PySem.W.kitOne K (.ref e_UnequalBlocks) (.ref e_NotEnough) = some false
  ki_UnequalBlocks_UnequalBlocks : PySem.W.kitOne K (.ref e_UnequalBlocks) (.ref e_UnequalBlocks) = some true
  ki_ZeroElement_BadIndex : PySem.W.kitOne K (.ref e_ZeroElement) (.ref e_BadIndex) = some false
  ki_ZeroElement_NotEnough : PySem.W.kitOne K (.ref e_ZeroElement) (.ref e_NotEnough) = some false
  ki_ZeroElement_UnequalBlocks : PySem.W.kitOne K (.ref e_ZeroElement) (.ref e_UnequalBlocks) = some false
variable {P : Program} {w : World} {K : PySem.W.Frag} {mg : Str → Option Value} {base : Heap}
abbrev OCode := Int × Int × (List (List Int))
def eCode (o : OCode) : T := .obj "Code" ["data", "total", "rows"] [.imm (D.int o.1), .imm (D.int o.2.1), .imm (D.lst ((o.2.2).map (fun xs : (List Int) => D.lst (xs.map D.int))))]
abbrev OConfig := Int × Int × Int × Int × Int
def eConfig (o : OConfig) : T := .obj "Config" ["keepers", "shelves", "data", "spare", "sectors"] [.imm (D.int o.1), .imm (D.int o.2.1), .imm (D.int o.2.2.1), .imm (D.int o.2.2.2.1), .imm (D.int o.2.2.2.2)]
theorem sc__law_draws : FnScope ["script", "many", "draws", "at", "cell", "k", "number"] ["script", "many"] (defScope s__law_draws) := ⟨rfl, rfl, rfl, by decide +kernel, rfl, by decide +kernel, by decide +kernel⟩
noncomputable def _law_draws (script : (List Int)) (many : Int) : R (List Int) :=
  ((R.ok () >>= fun p => .ok ((fun p : Unit => ([] : List Int)) p)) >>= fun draws_1 => (R.ok (0 : Int) >>= fun at_2 => (((R.ok script >>= fun xs => R.ok none >>= fun i => (R.ok (63 : Int) >>= fun i => .ok (some i)) >>= fun j => .ok (cutL xs i j)) >>= fun xs => forS (fun (x_4 : Int) (s_3 : (List Int) × Int) => ((R.ok x_4 >>= fun i => .ok (if i < 0 then -i else i)) >>= fun number_5 => (((R.ok number_5 >>= fun x => R.ok (1000000000000000000 : Int) >>= fun y => .ok (decide (y ≤ x))) >>= fun x => if x then (((R.ok (20 : Int) >>= fun n => ofO (rangeO 0 n)) >>= fun xs => forS (fun (x_8 : Int) (s_7 : (List Int) × Int) => (((R.ok s_7.2 >>= fun x => R.ok (0 : Int) >>= fun y => .ok (decide (y < x))) >>= fun x => if x then (((R.ok s_7.2 >>= fun x => .ok (x % 1009)) >>= fun x => ofO (appO s_7.1 x)) >>= fun draws_10 => ((R.ok s_7.2 >>= fun x => .ok (x / 1009)) >>= fun number_11 => R.ok (draws_10, number_11))) else R.ok (s_7.1, s_7.2)) >>= fun j_9 : (List Int) × Int => R.ok (j_9.1, j_9.2))) xs (s_3.1, number_5)) >>= fun s_12 : (List Int) × Int => R.ok s_12.1) else ((((((R.ok number_5 >>= fun x => .ok (x * 48271)) >>= fun x => (R.ok s_3.2 >>= fun x => .ok (x * 69621)) >>= fun y => .ok (x + y)) >>= fun x => R.ok (11 : Int) >>= fun y => .ok (x + y)) >>= fun x => .ok (x % 65537)) >>= fun x => ofO (appO s_3.1 x)) >>= fun draws_13 => R.ok draws_13)) >>= fun j_6 : (List Int) => ((R.ok s_3.2 >>= fun x => R.ok (1 : Int) >>= fun y => .ok (x + y)) >>= fun at_14 => R.ok (j_6, at_14))))) xs (draws_1, at_2)) >>= fun s_15 : (List Int) × Int => (((R.ok many >>= fun n => ofO (rangeO 0 n)) >>= fun xs => forS (fun (x_17 : Int) (s_16 : (List Int)) => ((((R.ok s_16 >>= fun xs => .ok (xs.length : Int)) >>= fun x => R.ok many >>= fun y => .ok (decide (x < y))) >>= fun x => if x then (((((((R.ok s_16 >>= fun xs => .ok (xs.length : Int)) >>= fun x => .ok (x * 69621)) >>= fun x => (R.ok (977 : Int) >>= fun x => R.ok s_15.2 >>= fun y => ofO (mulO x y)) >>= fun y => .ok (x + y)) >>= fun x => ((R.ok x_17 >>= fun x => R.ok x_17 >>= fun y => ofO (mulO x y)) >>= fun x => .ok (x * 31)) >>= fun y => .ok (x + y)) >>= fun x => .ok (x % 65521)) >>= fun x => ofO (appO s_16 x)) >>= fun draws_19 => R.ok draws_19) else R.ok s_16) >>= fun j_18 : (List Int) => R.ok j_18)) xs s_15.1) >>= fun s_20 : (List Int) => ((R.ok s_20 >>= fun xs => R.ok none >>= fun i => (R.ok many >>= fun i => .ok (some i)) >>= fun j => .ok (cutL xs i j)) >>= fun r => .ok (r))))))
theorem ok__law_draws (Tx : Tx K mg) : FnOk P w K mg base (L2.CX P w) 1 Tx.a__law_draws Tx.d__law_draws ["script", "many"]
    (SpF ⟨K, mg⟩ (fun p : (List Int) × Int × Unit => [D.frl ((p.1).map D.int), D.int p.2.1]) (fun r : (List Int) => .lst ((r).map fun x => .imm (D.int x))) (fun p => _law_draws p.1 p.2.1)) := by
  refine fn_pure Tx.F__law_draws sc__law_draws (fun _ => rfl) fun cdv A outer s H E hr p => ?_
  obtain ⟨script, many, _⟩ := p
  exact bk_cons (st_set 2 (df_disp (ei := D.int) da_nil (fun p : Unit => ([] : List Int))) trivial rfl sc__law_draws.nd) fun draws_1 => bk_cons (st_set 3 (df_of_dd dd_int) trivial rfl sc__law_draws.nd) fun at_2 => bk_cons (Γ1 := fun s_3 : (List Int) × Int => [.ow (.imm (D.frl ((script).map D.int))), .ow (.imm (D.int many)), .ow (.lst ((s_3.1).map fun x => .imm (D.int x))), .ow (.imm (D.int s_3.2)), .un, .un, .un]) (st_forS (Γs := fun s_3 : (List Int) × Int => [.ow (.imm (D.frl ((script).map D.int))), .ow (.imm (D.int many)), .ow (.lst ((s_3.1).map fun x => .imm (D.int x))), .ow (.imm (D.int s_3.2)), .un, .un, .un]) (ei := D.int) (draws_1, at_2) (passes_of rfl) rfl (di_list (ei := D.int) (dd_list (ε := D.int) (df_slL (ei := D.int) (dl_frl (ei := D.int) (dd_var (emb := (fun xs : (List Int) => D.frl (xs.map D.int))) 0 rfl)) do_none (do_some dd_int)))) (fun s_3 x_4 => (dg_name 4 sc__law_draws.nd)) (fun s_3 x_4 => bk_cons (st_set 6 (df_of_dd (dd_absI (dd_var (emb := D.int) 4 rfl) Tx.b_abs)) trivial rfl sc__law_draws.nd) fun number_5 => bk_cons (Γ1 := fun j_6 : (List Int) => [.ow (.imm (D.frl ((script).map D.int))), .ow (.imm (D.int many)), .ow (.lst ((j_6).map fun x => .imm (D.int x))), .ow (.imm (D.int s_3.2)), .ow (.imm (D.int x_4)), .un, .un]) (st_if (dt_ge (dd_var (emb := D.int) 6 rfl) (dd_powC dd_int dd_int (powO_lit (by decide +kernel) (by decide +kernel)))) (bk_cons (Γ1 := fun s_7 : (List Int) × Int => [.ow (.imm (D.frl ((script).map D.int))), .ow (.imm (D.int many)), .ow (.lst ((s_7.1).map fun x => .imm (D.int x))), .ow (.imm (D.int s_3.2)), .ow (.imm (D.int x_4)), .un, .ow (.imm (D.int s_7.2))]) (st_forS (Γs := fun s_7 : (List Int) × Int => [.ow (.imm (D.frl ((script).map D.int))), .ow (.imm (D.int many)), .ow (.lst ((s_7.1).map fun x => .imm (D.int x))), .ow (.imm (D.int s_3.2)), .ow (.imm (D.int x_4)), .un, .ow (.imm (D.int s_7.2))]) (ei := D.int) (s_3.1, number_5) (passes_of rfl) rfl (di_range1 dd_int Tx.b_range) (fun s_7 x_8 => (dg_name 5 sc__law_draws.nd)) (fun s_7 x_8 => bk_cons (Γ1 := fun j_9 : (List Int) × Int => [.ow (.imm (D.frl ((script).map D.int))), .ow (.imm (D.int many)), .ow (.lst ((j_9.1).map fun x => .imm (D.int x))), .ow (.imm (D.int s_3.2)), .ow (.imm (D.int x_4)), .ow (.imm (D.int x_8)), .ow (.imm (D.int j_9.2))]) (st_if (dt_gt (dd_var (emb := D.int) 6 rfl) dd_int) (bk_cons (st_append (ei := D.int) 2 rfl (dd_modC (dd_intI (dd_var (emb := D.int) 6 rfl) Tx.b_int) dd_int (by decide)) trivial) fun draws_10 => bk_cons (st_set 6 (df_of_dd (dd_divC (dd_var (emb := D.int) 6 rfl) dd_int (by decide))) trivial rfl sc__law_draws.nd) fun number_11 => bk_nil (o := (draws_10, number_11)) rfl ⟨rfl, rfl, rfl, rfl, rfl, rfl, rfl, trivial⟩) (bk_nil (o := (s_7.1, s_7.2)) rfl ⟨rfl, rfl, rfl, rfl, rfl, rfl, rfl, trivial⟩) trivial) fun j_9 => bk_nil (o := (j_9.1, j_9.2)) rfl ⟨rfl, rfl, rfl, rfl, rfl, rfl, trivial⟩) ⟨rfl, rfl, rfl, rfl, rfl, rfl, trivial⟩ trivial) fun s_12 => bk_nil (o := s_12.1) rfl ⟨rfl, rfl, rfl, rfl, rfl, trivial⟩) (bk_cons (st_append (ei := D.int) 2 rfl (dd_modC (dd_intI (dd_add (dd_add (dd_mulC (dd_var (emb := D.int) 6 rfl) dd_int (by decide)) (dd_mulC (dd_var (emb := D.int) 3 rfl) dd_int (by decide))) dd_int) Tx.b_int) dd_int (by decide)) trivial) fun draws_13 => bk_nil (o := draws_13) rfl ⟨rfl, rfl, rfl, rfl, rfl, trivial⟩) trivial) fun j_6 => bk_cons (st_set 3 (df_of_dd (dd_add (dd_var (emb := D.int) 3 rfl) dd_int)) trivial rfl sc__law_draws.nd) fun at_14 => bk_nil (o := (j_6, at_14)) rfl ⟨rfl, rfl, rfl, rfl, trivial⟩) ⟨rfl, rfl, rfl, rfl, trivial⟩ trivial) fun s_15 => bk_cons (Γ1 := fun s_16 : (List Int) => [.ow (.imm (D.frl ((script).map D.int))), .ow (.imm (D.int many)), .ow (.lst ((s_16).map fun x => .imm (D.int x))), .ow (.imm (D.int s_15.2)), .un, .un, .un]) (st_forS (Γs := fun s_16 : (List Int) => [.ow (.imm (D.frl ((script).map D.int))), .ow (.imm (D.int many)), .ow (.lst ((s_16).map fun x => .imm (D.int x))), .ow (.imm (D.int s_15.2)), .un, .un, .un]) (ei := D.int) s_15.1 (passes_of rfl) rfl (di_range1 (dd_var (emb := D.int) 1 rfl) Tx.b_range) (fun s_16 x_17 => (dg_name 5 sc__law_draws.nd)) (fun s_16 x_17 => bk_cons (Γ1 := fun j_18 : (List Int) => [.ow (.imm (D.frl ((script).map D.int))), .ow (.imm (D.int many)), .ow (.lst ((j_18).map fun x => .imm (D.int x))), .ow (.imm (D.int s_15.2)), .un, .ow (.imm (D.int x_17)), .un]) (st_if (dt_lt (dd_lenL (ei := D.int) (dl_own (ei := D.int) (db_var (emb := (fun xs : (List Int) => T.lst (xs.map fun x => T.imm (D.int x)))) 2 rfl)) Tx.b_len) (dd_var (emb := D.int) 1 rfl)) (bk_cons (st_append (ei := D.int) 2 rfl (dd_modC (dd_intI (dd_add (dd_add (dd_mulC (dd_lenL (ei := D.int) (dl_own (ei := D.int) (db_var (emb := (fun xs : (List Int) => T.lst (xs.map fun x => T.imm (D.int x)))) 2 rfl)) Tx.b_len) dd_int (by decide)) (dd_mul dd_int (dd_var (emb := D.int) 3 rfl))) (dd_mulC (dd_mul (dd_var (emb := D.int) 5 rfl) (dd_var (emb := D.int) 5 rfl)) dd_int (by decide))) Tx.b_int) dd_int (by decide)) trivial) fun draws_19 => bk_nil (o := draws_19) rfl ⟨rfl, rfl, rfl, rfl, rfl, trivial⟩) (bk_nil (o := s_16) rfl ⟨rfl, rfl, rfl, rfl, rfl, trivial⟩) trivial) fun j_18 => bk_nil (o := j_18) rfl ⟨rfl, rfl, rfl, rfl, trivial⟩) ⟨rfl, rfl, rfl, rfl, trivial⟩ trivial) fun s_20 => bk_ret (df_slL (ei := D.int) (dl_own (ei := D.int) (db_var (emb := (fun xs : (List Int) => T.lst (xs.map fun x => T.imm (D.int x)))) 2 rfl)) do_none (do_some (dd_var (emb := D.int) 1 rfl))) (g := fun r => r) (fun _ => rfl) trivial trivial

theorem sc__law_octets : FnScope ["draws", "size", "k"] ["draws", "size"] (defScope s__law_octets) := ⟨rfl, rfl, rfl, by decide +kernel, rfl, by decide +kernel, by decide +kernel⟩
noncomputable def _law_octets (draws : (List Int)) (size : Int) : R (List Int) :=
  (((R.ok size >>= fun n => ofO (rangeO 0 n)) >>= fun xs => compR (fun c_1 : Int => R.ok true) (fun c_1 : Int => ((((R.ok draws >>= fun xs => (R.ok c_1 >>= fun x => .ok (x % 30)) >>= fun i => ofO (atI xs i)) >>= fun x => (R.ok c_1 >>= fun x => R.ok (3 : Int) >>= fun y => .ok (x + y)) >>= fun y => ofO (mulO x y)) >>= fun x => (R.ok c_1 >>= fun x => .ok (x / 30)) >>= fun y => .ok (x + y)) >>= fun x => .ok (x % 256))) xs) >>= fun r => .ok (r))
theorem ok__law_octets (Tx : Tx K mg) : FnOk P w K mg base (L2.CX P w) 1 Tx.a__law_octets Tx.d__law_octets ["draws", "size"]
    (SpF ⟨K, mg⟩ (fun p : (List Int) × Int × Unit => [D.lst ((p.1).map D.int), D.int p.2.1]) (fun r : (List Int) => .lst ((r).map fun x => .imm (D.int x))) (fun p => _law_octets p.1 p.2.1)) := by
  refine fn_pure Tx.F__law_octets sc__law_octets (fun _ => rfl) fun cdv A outer s H E hr p => ?_
  obtain ⟨draws, size, _⟩ := p
  exact bk_as [.ow (.imm (D.lst ((draws).map D.int))), .ow (.imm (D.int size)), .un] rfl (bk_ret (df_lc (put := fun c_1 : Int => [.ow (.imm (D.lst ((draws).map D.int))), .ow (.imm (D.int size)), .ow (.imm (D.int c_1))]) (N' := ["draws", "size", "k"]) (sc' := defScope s__law_octets) (ei := D.int) (et := fun y => .imm (D.int y)) [("k", 2)] rfl sc__law_octets.nd (di_range1 (dd_var (emb := D.int) 1 rfl) Tx.b_range) (by exact ⟨rfl, rfl, trivial⟩) (fun _ _ _ _ _ c_1 => (dgc_name 2 sc__law_octets.nd)) (fun _ _ _ _ _ c_1 => dts_nil) (fun _ _ _ _ _ c_1 => df_of_dd (dd_modC (dd_intI (dd_add (dd_mul (dd_ixL (ei := D.int) (dl_imm (ei := D.int) (dd_var (emb := (fun xs : (List Int) => D.lst (xs.map D.int))) 0 rfl)) (dd_modC (dd_var (emb := D.int) 2 rfl) dd_int (by decide))) (dd_add (dd_var (emb := D.int) 2 rfl) dd_int)) (dd_divC (dd_var (emb := D.int) 2 rfl) dd_int (by decide))) Tx.b_int) dd_int (by decide)))) (g := fun r => r) (fun _ => rfl) trivial trivial)

theorem sc_mul : FnScope ["a", "b", "product"] ["a", "b"] (defScope s_mul) := ⟨rfl, rfl, rfl, by decide +kernel, rfl, by decide +kernel, by decide +kernel⟩
noncomputable def mul (a_q : Int) (b_q : Int) : R Int :=
  (R.ok (0 : Int) >>= fun product_1 => (whileS (fun s_2 : Int × Int × Int => (R.ok s_2.2.1 >>= fun x => .ok (x != 0))) (fun s_2 : Int × Int × Int => ((((R.ok s_2.2.1 >>= fun x => R.ok (1 : Int) >>= fun y => .ok (Builtin.bitAnd x y)) >>= fun x => .ok (x != 0)) >>= fun x => if x then ((R.ok s_2.2.2 >>= fun x => R.ok s_2.1 >>= fun y => .ok (Builtin.bitXor x y)) >>= fun product_4 => R.ok product_4) else R.ok s_2.2.2) >>= fun j_3 : Int => ((R.ok s_2.1 >>= fun x => R.ok (1 : Int) >>= fun y => ofO (shlO x y)) >>= fun a_5 => ((((R.ok a_5 >>= fun x => R.ok (256 : Int) >>= fun y => .ok (Builtin.bitAnd x y)) >>= fun x => .ok (x != 0)) >>= fun x => if x then ((R.ok a_5 >>= fun x => R.ok (285 : Int) >>= fun y => .ok (Builtin.bitXor x y)) >>= fun a_7 => R.ok a_7) else R.ok a_5) >>= fun j_6 : Int => ((R.ok s_2.2.1 >>= fun x => .ok (x / 2 ^ (1 : Int).toNat)) >>= fun b_8 => R.ok (j_6, b_8, j_3)))))) (a_q, b_q, product_1) >>= fun s_9 : Int × Int × Int => (R.ok s_9.2.2 >>= fun r => .ok (r))))
theorem ok_mul (Tx : Tx K mg) : FnOk P w K mg base (L2.CX P w) 1 Tx.a_mul Tx.d_mul ["a", "b"]
    (SpF ⟨K, mg⟩ (fun p : Int × Int × Unit => [D.int p.1, D.int p.2.1]) (fun r : Int => .imm (D.int r)) (fun p => mul p.1 p.2.1)) := by
  refine fn_pure Tx.F_mul sc_mul (fun _ => rfl) fun cdv A outer s H E hr p => ?_
  obtain ⟨a_q, b_q, _⟩ := p
  exact bk_cons (st_set 2 (df_of_dd dd_int) trivial rfl sc_mul.nd) fun product_1 => bk_cons (Γ1 := fun s_2 : Int × Int × Int => [.ow (.imm (D.int s_2.1)), .ow (.imm (D.int s_2.2.1)), .ow (.imm (D.int s_2.2.2))]) (st_whileS (Γs := fun s_2 : Int × Int × Int => [.ow (.imm (D.int s_2.1)), .ow (.imm (D.int s_2.2.1)), .ow (.imm (D.int s_2.2.2))]) (a_q, b_q, product_1) (passes_of rfl) (fun s_2 => (dt_int (dd_var (emb := D.int) 1 rfl))) (fun s_2 => bk_cons (Γ1 := fun j_3 : Int => [.ow (.imm (D.int s_2.1)), .ow (.imm (D.int s_2.2.1)), .ow (.imm (D.int j_3))]) (st_if (dt_int (dd_and (dd_var (emb := D.int) 1 rfl) dd_int)) (bk_cons (st_set 2 (df_of_dd (dd_xor (dd_var (emb := D.int) 2 rfl) (dd_var (emb := D.int) 0 rfl))) trivial rfl sc_mul.nd) fun product_4 => bk_nil (o := product_4) rfl ⟨rfl, rfl, rfl, trivial⟩) (bk_nil (o := s_2.2.2) rfl ⟨rfl, rfl, rfl, trivial⟩) trivial) fun j_3 => bk_cons (st_set 0 (df_of_dd (dd_shl (dd_var (emb := D.int) 0 rfl) dd_int)) trivial rfl sc_mul.nd) fun a_5 => bk_cons (Γ1 := fun j_6 : Int => [.ow (.imm (D.int j_6)), .ow (.imm (D.int s_2.2.1)), .ow (.imm (D.int j_3))]) (st_if (dt_int (dd_and (dd_var (emb := D.int) 0 rfl) dd_int)) (bk_cons (st_set 0 (df_of_dd (dd_xor (dd_var (emb := D.int) 0 rfl) dd_int)) trivial rfl sc_mul.nd) fun a_7 => bk_nil (o := a_7) rfl ⟨rfl, rfl, rfl, trivial⟩) (bk_nil (o := a_5) rfl ⟨rfl, rfl, rfl, trivial⟩) trivial) fun j_6 => bk_cons (st_set 1 (df_of_dd (dd_shrC (dd_var (emb := D.int) 1 rfl) dd_int (by decide))) trivial rfl sc_mul.nd) fun b_8 => bk_nil (o := (j_6, b_8, j_3)) rfl ⟨rfl, rfl, rfl, trivial⟩) ⟨rfl, rfl, rfl, trivial⟩ (fun _ => trivial)) fun s_9 => bk_ret (df_of_dd (dd_var (emb := D.int) 2 rfl)) (g := fun r => r) (fun _ => rfl) trivial trivial

theorem sc_power : FnScope ["a", "n", "product"] ["a", "n"] (defScope s_power) := ⟨rfl, rfl, rfl, by decide +kernel, rfl, by decide +kernel, by decide +kernel⟩
noncomputable def power (a_q : Int) (n_q : Int) : R Int :=
  (R.ok (1 : Int) >>= fun product_1 => (whileS (fun s_2 : Int × Int × Int => (R.ok s_2.2.1 >>= fun x => .ok (x != 0))) (fun s_2 : Int × Int × Int => ((((R.ok s_2.2.1 >>= fun x => R.ok (1 : Int) >>= fun y => .ok (Builtin.bitAnd x y)) >>= fun x => .ok (x != 0)) >>= fun x => if x then (((R.ok s_2.2.2 >>= fun x => (R.ok s_2.1 >>= fun x => R.ok () >>= fun y => .ok (x, y)) >>= fun y => .ok (x, y)) >>= fun p : Int × Int × Unit => (mul p.1 p.2.1)) >>= fun product_4 => R.ok product_4) else R.ok s_2.2.2) >>= fun j_3 : Int => (((R.ok s_2.1 >>= fun x => (R.ok s_2.1 >>= fun x => R.ok () >>= fun y => .ok (x, y)) >>= fun y => .ok (x, y)) >>= fun p : Int × Int × Unit => (mul p.1 p.2.1)) >>= fun a_5 => ((R.ok s_2.2.1 >>= fun x => .ok (x / 2 ^ (1 : Int).toNat)) >>= fun n_6 => R.ok (a_5, n_6, j_3))))) (a_q, n_q, product_1) >>= fun s_7 : Int × Int × Int => (R.ok s_7.2.2 >>= fun r => .ok (r))))
theorem ok_power (Tx : Tx K mg) : FnOk P w K mg base (L2.CX P w) 2 Tx.a_power Tx.d_power ["a", "n"]
    (SpF ⟨K, mg⟩ (fun p : Int × Int × Unit => [D.int p.1, D.int p.2.1]) (fun r : Int => .imm (D.int r)) (fun p => power p.1 p.2.1)) := by
  refine fn_pure Tx.F_power sc_power (fun _ => rfl) fun cdv A outer s H E hr p => ?_
  obtain ⟨a_q, n_q, _⟩ := p
  exact bk_cons (st_set 2 (df_of_dd dd_int) trivial rfl sc_power.nd) fun product_1 => bk_cons (Γ1 := fun s_2 : Int × Int × Int => [.ow (.imm (D.int s_2.1)), .ow (.imm (D.int s_2.2.1)), .ow (.imm (D.int s_2.2.2))]) (st_whileS (Γs := fun s_2 : Int × Int × Int => [.ow (.imm (D.int s_2.1)), .ow (.imm (D.int s_2.2.1)), .ow (.imm (D.int s_2.2.2))]) (a_q, n_q, product_1) (passes_of rfl) (fun s_2 => (dt_int (dd_var (emb := D.int) 1 rfl))) (fun s_2 => bk_cons (Γ1 := fun j_3 : Int => [.ow (.imm (D.int s_2.1)), .ow (.imm (D.int s_2.2.1)), .ow (.imm (D.int j_3))]) (st_if (dt_int (dd_and (dd_var (emb := D.int) 1 rfl) dd_int)) (bk_cons (st_set 2 (df_of_dd (dd_imm (df_call (ok_mul Tx) (hr.mono (by decide)) Tx.g_mul Tx.F_mul.kp Tx.b_mul (takes_of rfl rfl rfl rfl) (da_cons (dd_var (emb := D.int) 2 rfl) (da_cons (dd_var (emb := D.int) 0 rfl) da_nil))))) trivial rfl sc_power.nd) fun product_4 => bk_nil (o := product_4) rfl ⟨rfl, rfl, rfl, trivial⟩) (bk_nil (o := s_2.2.2) rfl ⟨rfl, rfl, rfl, trivial⟩) trivial) fun j_3 => bk_cons (st_set 0 (df_of_dd (dd_imm (df_call (ok_mul Tx) (hr.mono (by decide)) Tx.g_mul Tx.F_mul.kp Tx.b_mul (takes_of rfl rfl rfl rfl) (da_cons (dd_var (emb := D.int) 0 rfl) (da_cons (dd_var (emb := D.int) 0 rfl) da_nil))))) trivial rfl sc_power.nd) fun a_5 => bk_cons (st_set 1 (df_of_dd (dd_shrC (dd_var (emb := D.int) 1 rfl) dd_int (by decide))) trivial rfl sc_power.nd) fun n_6 => bk_nil (o := (a_5, n_6, j_3)) rfl ⟨rfl, rfl, rfl, trivial⟩) ⟨rfl, rfl, rfl, trivial⟩ (fun _ => trivial)) fun s_7 => bk_ret (df_of_dd (dd_var (emb := D.int) 2 rfl)) (g := fun r => r) (fun _ => rfl) trivial trivial

theorem sc_inv : FnScope ["a"] ["a"] (defScope s_inv) := ⟨rfl, rfl, rfl, by decide +kernel, rfl, by decide +kernel, by decide +kernel⟩
noncomputable def inv (a_q : Int) : R Int :=
  ((R.ok a_q >>= fun x => R.ok (0 : Int) >>= fun y => .ok (decide (x = y))) >>= fun x => if x then R.err ("ZeroElement" : Str) else (((R.ok a_q >>= fun x => (R.ok (254 : Int) >>= fun x => R.ok () >>= fun y => .ok (x, y)) >>= fun y => .ok (x, y)) >>= fun p : Int × Int × Unit => (power p.1 p.2.1)) >>= fun r => .ok (r)))
theorem ok_inv (Tx : Tx K mg) : FnOk P w K mg base (L2.CX P w) 3 Tx.a_inv Tx.d_inv ["a"]
    (SpF ⟨K, mg⟩ (fun p : Int × Unit => [D.int p.1]) (fun r : Int => .imm (D.int r)) (fun p => inv p.1)) := by
  refine fn_pure Tx.F_inv sc_inv (fun _ => rfl) fun cdv A outer s H E hr p => ?_
  obtain ⟨a_q, _⟩ := p
  exact bk_ifX (dt_eqI (dd_var (emb := D.int) 0 rfl) dd_int) (bk_raise Tx.x_ZeroElement rfl (takes_of rfl rfl rfl rfl) trivial) (bk_ret (df_of_dd (dd_imm (df_call (ok_power Tx) (hr.mono (by decide)) Tx.g_power Tx.F_power.kp Tx.b_power (takes_of rfl rfl rfl rfl) (da_cons (dd_var (emb := D.int) 0 rfl) (da_cons dd_int da_nil))))) (g := fun r => r) (fun _ => rfl) trivial trivial) trivial

theorem sc_div : FnScope ["a", "b"] ["a", "b"] (defScope s_div) := ⟨rfl, rfl, rfl, by decide +kernel, rfl, by decide +kernel, by decide +kernel⟩
noncomputable def div (a_q : Int) (b_q : Int) : R Int :=
  (((R.ok a_q >>= fun x => (((R.ok b_q >>= fun x => R.ok () >>= fun y => .ok (x, y)) >>= fun p : Int × Unit => (inv p.1)) >>= fun x => R.ok () >>= fun y => .ok (x, y)) >>= fun y => .ok (x, y)) >>= fun p : Int × Int × Unit => (mul p.1 p.2.1)) >>= fun r => .ok (r))
theorem ok_div (Tx : Tx K mg) : FnOk P w K mg base (L2.CX P w) 4 Tx.a_div Tx.d_div ["a", "b"]
    (SpF ⟨K, mg⟩ (fun p : Int × Int × Unit => [D.int p.1, D.int p.2.1]) (fun r : Int => .imm (D.int r)) (fun p => div p.1 p.2.1)) := by
  refine fn_pure Tx.F_div sc_div (fun _ => rfl) fun cdv A outer s H E hr p => ?_
  obtain ⟨a_q, b_q, _⟩ := p
  exact bk_ret (df_of_dd (dd_imm (df_call (ok_mul Tx) (hr.mono (by decide)) Tx.g_mul Tx.F_mul.kp Tx.b_mul (takes_of rfl rfl rfl rfl) (da_cons (dd_var (emb := D.int) 0 rfl) (da_cons (dd_imm (df_call (ok_inv Tx) (hr.mono (by decide)) Tx.g_inv Tx.F_inv.kp Tx.b_inv (takes_of rfl rfl rfl rfl) (da_cons (dd_var (emb := D.int) 1 rfl) da_nil))) da_nil))))) (g := fun r => r) (fun _ => rfl) trivial trivial

theorem sc__basis_row : FnScope ["i", "data", "row", "j", "over", "under", "other"] ["i", "data"] (defScope s__basis_row) := ⟨rfl, rfl, rfl, by decide +kernel, rfl, by decide +kernel, by decide +kernel⟩
noncomputable def _basis_row (i_q : Int) (data : Int) : R (List Int) :=
  ((R.ok () >>= fun p => .ok ((fun p : Unit => ([] : List Int)) p)) >>= fun row_1 => (((R.ok data >>= fun n => ofO (rangeO 0 n)) >>= fun xs => forS (fun (x_3 : Int) (s_2 : (List Int)) => (R.ok (1 : Int) >>= fun over_4 => (R.ok (1 : Int) >>= fun under_5 => (((R.ok data >>= fun n => ofO (rangeO 0 n)) >>= fun xs => forS (fun (x_7 : Int) (s_6 : Int × Int) => (((R.ok x_7 >>= fun x => R.ok x_3 >>= fun y => .ok (!decide (x = y))) >>= fun x => if x then (((R.ok s_6.1 >>= fun x => ((R.ok i_q >>= fun x => R.ok x_7 >>= fun y => .ok (Builtin.bitXor x y)) >>= fun x => R.ok () >>= fun y => .ok (x, y)) >>= fun y => .ok (x, y)) >>= fun p : Int × Int × Unit => (mul p.1 p.2.1)) >>= fun over_9 => (((R.ok s_6.2 >>= fun x => ((R.ok x_3 >>= fun x => R.ok x_7 >>= fun y => .ok (Builtin.bitXor x y)) >>= fun x => R.ok () >>= fun y => .ok (x, y)) >>= fun y => .ok (x, y)) >>= fun p : Int × Int × Unit => (mul p.1 p.2.1)) >>= fun under_10 => R.ok (over_9, under_10))) else R.ok (s_6.1, s_6.2)) >>= fun j_8 : Int × Int => R.ok (j_8.1, j_8.2))) xs (over_4, under_5)) >>= fun s_11 : Int × Int => ((((R.ok s_11.1 >>= fun x => (R.ok s_11.2 >>= fun x => R.ok () >>= fun y => .ok (x, y)) >>= fun y => .ok (x, y)) >>= fun p : Int × Int × Unit => (div p.1 p.2.1)) >>= fun x => ofO (appO s_2 x)) >>= fun row_12 => R.ok row_12))))) xs row_1) >>= fun s_13 : (List Int) => R.ok (s_13)))
theorem ok__basis_row (Tx : Tx K mg) : FnOk P w K mg base (L2.CX P w) 5 Tx.a__basis_row Tx.d__basis_row ["i", "data"]
    (SpF ⟨K, mg⟩ (fun p : Int × Int × Unit => [D.int p.1, D.int p.2.1]) (fun r : (List Int) => .lst ((r).map fun x => .imm (D.int x))) (fun p => _basis_row p.1 p.2.1)) := by
  refine fn_pure Tx.F__basis_row sc__basis_row (fun _ => rfl) fun cdv A outer s H E hr p => ?_
  obtain ⟨i_q, data, _⟩ := p
  exact bk_cons (st_set 2 (df_disp (ei := D.int) da_nil (fun p : Unit => ([] : List Int))) trivial rfl sc__basis_row.nd) fun row_1 => bk_cons (Γ1 := fun s_2 : (List Int) => [.ow (.imm (D.int i_q)), .ow (.imm (D.int data)), .ow (.lst ((s_2).map fun x => .imm (D.int x))), .un, .un, .un, .un]) (st_forS (Γs := fun s_2 : (List Int) => [.ow (.imm (D.int i_q)), .ow (.imm (D.int data)), .ow (.lst ((s_2).map fun x => .imm (D.int x))), .un, .un, .un, .un]) (ei := D.int) row_1 (passes_of rfl) rfl (di_range1 (dd_var (emb := D.int) 1 rfl) Tx.b_range) (fun s_2 x_3 => (dg_name 3 sc__basis_row.nd)) (fun s_2 x_3 => bk_cons (st_set 4 (df_of_dd dd_int) trivial rfl sc__basis_row.nd) fun over_4 => bk_cons (st_set 5 (df_of_dd dd_int) trivial rfl sc__basis_row.nd) fun under_5 => bk_cons (Γ1 := fun s_6 : Int × Int => [.ow (.imm (D.int i_q)), .ow (.imm (D.int data)), .ow (.lst ((s_2).map fun x => .imm (D.int x))), .ow (.imm (D.int x_3)), .ow (.imm (D.int s_6.1)), .ow (.imm (D.int s_6.2)), .un]) (st_forS (Γs := fun s_6 : Int × Int => [.ow (.imm (D.int i_q)), .ow (.imm (D.int data)), .ow (.lst ((s_2).map fun x => .imm (D.int x))), .ow (.imm (D.int x_3)), .ow (.imm (D.int s_6.1)), .ow (.imm (D.int s_6.2)), .un]) (ei := D.int) (over_4, under_5) (passes_of rfl) rfl (di_range1 (dd_var (emb := D.int) 1 rfl) Tx.b_range) (fun s_6 x_7 => (dg_name 6 sc__basis_row.nd)) (fun s_6 x_7 => bk_cons (Γ1 := fun j_8 : Int × Int => [.ow (.imm (D.int i_q)), .ow (.imm (D.int data)), .ow (.lst ((s_2).map fun x => .imm (D.int x))), .ow (.imm (D.int x_3)), .ow (.imm (D.int j_8.1)), .ow (.imm (D.int j_8.2)), .ow (.imm (D.int x_7))]) (st_if (dt_neI (dd_var (emb := D.int) 6 rfl) (dd_var (emb := D.int) 3 rfl)) (bk_cons (st_set 4 (df_of_dd (dd_imm (df_call (ok_mul Tx) (hr.mono (by decide)) Tx.g_mul Tx.F_mul.kp Tx.b_mul (takes_of rfl rfl rfl rfl) (da_cons (dd_var (emb := D.int) 4 rfl) (da_cons (dd_xor (dd_var (emb := D.int) 0 rfl) (dd_var (emb := D.int) 6 rfl)) da_nil))))) trivial rfl sc__basis_row.nd) fun over_9 => bk_cons (st_set 5 (df_of_dd (dd_imm (df_call (ok_mul Tx) (hr.mono (by decide)) Tx.g_mul Tx.F_mul.kp Tx.b_mul (takes_of rfl rfl rfl rfl) (da_cons (dd_var (emb := D.int) 5 rfl) (da_cons (dd_xor (dd_var (emb := D.int) 3 rfl) (dd_var (emb := D.int) 6 rfl)) da_nil))))) trivial rfl sc__basis_row.nd) fun under_10 => bk_nil (o := (over_9, under_10)) rfl ⟨rfl, rfl, rfl, rfl, rfl, rfl, rfl, trivial⟩) (bk_nil (o := (s_6.1, s_6.2)) rfl ⟨rfl, rfl, rfl, rfl, rfl, rfl, rfl, trivial⟩) trivial) fun j_8 => bk_nil (o := (j_8.1, j_8.2)) rfl ⟨rfl, rfl, rfl, rfl, rfl, rfl, trivial⟩) ⟨rfl, rfl, rfl, rfl, rfl, rfl, trivial⟩ trivial) fun s_11 => bk_cons (st_append (ei := D.int) 2 rfl (dd_imm (df_call (ok_div Tx) (hr.mono (by decide)) Tx.g_div Tx.F_div.kp Tx.b_div (takes_of rfl rfl rfl rfl) (da_cons (dd_var (emb := D.int) 4 rfl) (da_cons (dd_var (emb := D.int) 5 rfl) da_nil)))) trivial) fun row_12 => bk_nil (o := row_12) rfl ⟨rfl, rfl, rfl, trivial⟩) ⟨rfl, rfl, rfl, trivial⟩ trivial) fun s_13 => bk_retV (o := s_13) 2 rfl rfl trivial

theorem sc_Code____init__ : FnScope ["self", "data", "total", "i"] ["self", "data", "total"] (defScope s_Code____init__) := ⟨rfl, rfl, rfl, by decide +kernel, rfl, by decide +kernel, by decide +kernel⟩
noncomputable def Code____init___b (data : Int) (total : Int) : R OCode :=
  (((R.ok data >>= fun x => R.ok (1 : Int) >>= fun y => .ok (decide (x < y))) >>= fun x => if x then .ok true else ((R.ok data >>= fun x => R.ok (16 : Int) >>= fun y => .ok (decide (y < x))) >>= fun x => if x then .ok true else ((R.ok total >>= fun x => R.ok data >>= fun y => .ok (decide (x < y))) >>= fun x => if x then .ok true else (R.ok total >>= fun x => R.ok (24 : Int) >>= fun y => .ok (decide (y < x)))))) >>= fun x => if x then R.err ("BadCode" : Str) else (R.ok data >>= fun f_1 => (R.ok total >>= fun f_2 => (((R.ok total >>= fun n => ofO (rangeO 0 n)) >>= fun xs => compR (fun c_3 : Int => R.ok true) (fun c_3 : Int => ((R.ok c_3 >>= fun x => (R.ok data >>= fun x => R.ok () >>= fun y => .ok (x, y)) >>= fun y => .ok (x, y)) >>= fun p : Int × Int × Unit => (_basis_row p.1 p.2.1))) xs) >>= fun f_4 => R.ok (f_1, f_2, f_4)))))
noncomputable def Code____init__ (data : Int) (total : Int) : R OCode := noErr (Code____init___b data total)
theorem ok_Code____init__ (Tx : Tx K mg) : FnOk P w K mg base (L2.CX P w) 6 Tx.a_Code____init__ Tx.d_Code____init__ ["self", "data", "total"]
    (SpG ⟨K, mg⟩ (fun p : Int × Int × Unit => [.tr (.obj "Code" [] []), .dt (D.int p.1), .dt (D.int p.2.1)]) (fun _ => .imm .non) (fun r : OCode => [eCode r]) (fun p => Code____init__ p.1 p.2.1)) := by
  refine fn_genN (fun (p : Int × Int × Unit) vs (r : OCode) => { nx := some (slotsR [.tr (.obj "Code" [] []), .dt (D.int p.1), .dt (D.int p.2.1)] vs ((fun r : OCode => [eCode r]) r) ++ List.replicate 1 .un), rt := some ((fun _ => .imm .non) r, slotsR [.tr (.obj "Code" [] []), .dt (D.int p.1), .dt (D.int p.2.1)] vs ((fun r : OCode => [eCode r]) r) ++ List.replicate 1 .un) }) Tx.F_Code____init__ sc_Code____init__ (fun _ => rfl) (fun cdv A outer s H E hr p vs hv => ?_) (fun p vs r => ⟨.inr ⟨rfl, rfl⟩, .inr rfl, rfl, rfl⟩)
  obtain ⟨data, total, _⟩ := p
  match vs, hv with
  | [v0, v1, v2], _ =>
  exact bk_ifX (dt_dw (dw_or (dt_lt (dd_var (emb := D.int) 1 rfl) dd_int) (dw_or (dt_gt (dd_var (emb := D.int) 1 rfl) dd_int) (dw_or (dt_lt (dd_var (emb := D.int) 2 rfl) (dd_var (emb := D.int) 1 rfl)) (dw_one (dt_gt (dd_var (emb := D.int) 2 rfl) dd_int) (by first | exact .inl rfl | exact .inr rfl)))))) (bk_raise Tx.x_BadCode rfl (takes_of rfl rfl rfl rfl) trivial) (bk_cons (st_fldN 0 (dx_df (df_of_dd (dd_var (emb := D.int) 1 rfl))) (fun _ => rfl) (fun _ => rfl) ⟨Tx.gc_Code, Tx.cl_Code⟩ Tx.na_Code_data trivial) fun f_1 => bk_as [.pn v0 (.obj "Code" ["data"] [.imm (D.int f_1)]), .ow (.imm (D.int data)), .ow (.imm (D.int total)), .un] rfl (bk_cons (st_fldN 0 (dx_df (df_of_dd (dd_var (emb := D.int) 2 rfl))) (fun _ => rfl) (fun _ => rfl) ⟨Tx.gc_Code, Tx.cl_Code⟩ Tx.na_Code_total trivial) fun f_2 => bk_as [.pn v0 (.obj "Code" ["data", "total"] [.imm (D.int f_1), .imm (D.int f_2)]), .ow (.imm (D.int data)), .ow (.imm (D.int total)), .un] rfl (bk_as [.pn v0 (.obj "Code" ["data", "total"] [.imm (D.int f_1), .imm (D.int f_2)]), .ow (.imm (D.int data)), .ow (.imm (D.int total)), .un] rfl (bk_cons (st_fldN 0 (dx_df (df_of_dd (dd_list (ε := (fun xs : (List Int) => D.lst (xs.map D.int))) (df_lc (put := fun c_3 : Int => [.pn v0 (.obj "Code" ["data", "total"] [.imm (D.int f_1), .imm (D.int f_2)]), .ow (.imm (D.int data)), .ow (.imm (D.int total)), .ow (.imm (D.int c_3))]) (N' := ["self", "data", "total", "i"]) (sc' := defScope s_Code____init__) (ei := D.int) (et := fun y => .imm ((fun xs : (List Int) => D.lst (xs.map D.int)) y)) [("i", 3)] rfl sc_Code____init__.nd (di_range1 (dd_var (emb := D.int) 2 rfl) Tx.b_range) (by exact ⟨rfl, rfl, rfl, rfl, trivial⟩) (fun _ _ _ _ _ c_3 => (dgc_name 3 sc_Code____init__.nd)) (fun _ _ _ _ _ c_3 => dts_nil) (fun _ _ _ _ _ c_3 => df_of_dd (dd_list (ε := D.int) (df_call (ok__basis_row Tx) (hr.mono (by decide)) Tx.g__basis_row Tx.F__basis_row.kp Tx.b__basis_row takes0 (da_cons (dd_var (emb := D.int) 3 rfl) (da_cons (dd_var (emb := D.int) 1 rfl) da_nil))))))))) (fun _ => rfl) (fun _ => rfl) ⟨Tx.gc_Code, Tx.cl_Code⟩ Tx.na_Code_rows trivial) fun f_4 => bk_as [.pn v0 (eCode (f_1, f_2, f_4)), .ow (.imm (D.int data)), .ow (.imm (D.int total)), .un] rfl (bk_nil (o := (f_1, f_2, f_4)) rfl ⟨rfl, rfl, trivial⟩))))) trivial

theorem sc__combine : FnScope ["row", "blocks", "total", "j", "t"] ["row", "blocks"] (defScope s__combine) := ⟨rfl, rfl, rfl, by decide +kernel, rfl, by decide +kernel, by decide +kernel⟩
noncomputable def _combine (row : (List Int)) (blocks : (List (List Int))) : R (List Int) :=
  ((((R.ok (0 : Int) >>= fun x => R.ok () >>= fun y => .ok (x, y)) >>= fun p => .ok ((fun p : Int × Unit => ([p.1] : List Int)) p)) >>= fun xs => ((R.ok blocks >>= fun xs => R.ok (0 : Int) >>= fun i => ofO (atI xs i)) >>= fun xs => .ok (xs.length : Int)) >>= fun k => ofO (repO xs k)) >>= fun total_1 => ((((R.ok row >>= fun xs => .ok (xs.length : Int)) >>= fun n => ofO (rangeO 0 n)) >>= fun xs => forS (fun (x_3 : Int) (s_2 : (List Int)) => ((((R.ok row >>= fun xs => R.ok x_3 >>= fun i => ofO (atI xs i)) >>= fun x => .ok (x != 0)) >>= fun x => if x then ((((R.ok s_2 >>= fun xs => .ok (xs.length : Int)) >>= fun n => ofO (rangeO 0 n)) >>= fun xs => forS (fun (x_6 : Int) (s_5 : (List Int)) => ((((R.ok s_5 >>= fun xs => R.ok x_6 >>= fun i => ofO (atI xs i)) >>= fun x => (((R.ok row >>= fun xs => R.ok x_3 >>= fun i => ofO (atI xs i)) >>= fun x => (((R.ok blocks >>= fun xs => R.ok x_3 >>= fun i => ofO (atI xs i)) >>= fun xs => R.ok x_6 >>= fun i => ofO (atI xs i)) >>= fun x => R.ok () >>= fun y => .ok (x, y)) >>= fun y => .ok (x, y)) >>= fun p : Int × Int × Unit => (mul p.1 p.2.1)) >>= fun y => .ok (Builtin.bitXor x y)) >>= fun x => R.ok x_6 >>= fun k => ofO (setO s_5 k x)) >>= fun total_7 => R.ok total_7)) xs s_2) >>= fun s_8 : (List Int) => R.ok s_8) else R.ok s_2) >>= fun j_4 : (List Int) => R.ok j_4)) xs total_1) >>= fun s_9 : (List Int) => R.ok (s_9)))
theorem ok__combine (Tx : Tx K mg) : FnOk P w K mg base (L2.CX P w) 2 Tx.a__combine Tx.d__combine ["row", "blocks"]
    (SpF ⟨K, mg⟩ (fun p : (List Int) × (List (List Int)) × Unit => [D.lst ((p.1).map D.int), D.lst ((p.2.1).map (fun xs : (List Int) => D.lst (xs.map D.int)))]) (fun r : (List Int) => .lst ((r).map fun x => .imm (D.int x))) (fun p => _combine p.1 p.2.1)) := by
  refine fn_pure Tx.F__combine sc__combine (fun _ => rfl) fun cdv A outer s H E hr p => ?_
  obtain ⟨row, blocks, _⟩ := p
  exact bk_cons (st_set 2 (df_rep (ei := D.int) (dlt_own (ei := D.int) (db_of_df (df_disp (ei := D.int) (da_cons dd_int da_nil) (fun p : Int × Unit => ([p.1] : List Int))))) (dd_lenL (ei := D.int) (dl_imm (ei := D.int) (dd_ixL (ei := (fun xs : (List Int) => D.lst (xs.map D.int))) (dl_imm (ei := (fun xs : (List Int) => D.lst (xs.map D.int))) (dd_var (emb := (fun xs : (List (List Int)) => D.lst (xs.map (fun xs : (List Int) => D.lst (xs.map D.int))))) 1 rfl)) dd_int)) Tx.b_len)) trivial rfl sc__combine.nd) fun total_1 => bk_cons (Γ1 := fun s_2 : (List Int) => [.ow (.imm (D.lst ((row).map D.int))), .ow (.imm (D.lst ((blocks).map (fun xs : (List Int) => D.lst (xs.map D.int))))), .ow (.lst ((s_2).map fun x => .imm (D.int x))), .un, .un]) (st_forS (Γs := fun s_2 : (List Int) => [.ow (.imm (D.lst ((row).map D.int))), .ow (.imm (D.lst ((blocks).map (fun xs : (List Int) => D.lst (xs.map D.int))))), .ow (.lst ((s_2).map fun x => .imm (D.int x))), .un, .un]) (ei := D.int) total_1 (passes_of rfl) rfl (di_range1 (dd_lenL (ei := D.int) (dl_imm (ei := D.int) (dd_var (emb := (fun xs : (List Int) => D.lst (xs.map D.int))) 0 rfl)) Tx.b_len) Tx.b_range) (fun s_2 x_3 => (dg_name 3 sc__combine.nd)) (fun s_2 x_3 => bk_cons (Γ1 := fun j_4 : (List Int) => [.ow (.imm (D.lst ((row).map D.int))), .ow (.imm (D.lst ((blocks).map (fun xs : (List Int) => D.lst (xs.map D.int))))), .ow (.lst ((j_4).map fun x => .imm (D.int x))), .ow (.imm (D.int x_3)), .un]) (st_if (dt_int (dd_ixL (ei := D.int) (dl_imm (ei := D.int) (dd_var (emb := (fun xs : (List Int) => D.lst (xs.map D.int))) 0 rfl)) (dd_var (emb := D.int) 3 rfl))) (bk_cons (Γ1 := fun s_5 : (List Int) => [.ow (.imm (D.lst ((row).map D.int))), .ow (.imm (D.lst ((blocks).map (fun xs : (List Int) => D.lst (xs.map D.int))))), .ow (.lst ((s_5).map fun x => .imm (D.int x))), .ow (.imm (D.int x_3)), .un]) (st_forS (Γs := fun s_5 : (List Int) => [.ow (.imm (D.lst ((row).map D.int))), .ow (.imm (D.lst ((blocks).map (fun xs : (List Int) => D.lst (xs.map D.int))))), .ow (.lst ((s_5).map fun x => .imm (D.int x))), .ow (.imm (D.int x_3)), .un]) (ei := D.int) s_2 (passes_of rfl) rfl (di_range1 (dd_lenL (ei := D.int) (dl_own (ei := D.int) (db_var (emb := (fun xs : (List Int) => T.lst (xs.map fun x => T.imm (D.int x)))) 2 rfl)) Tx.b_len) Tx.b_range) (fun s_5 x_6 => (dg_name 4 sc__combine.nd)) (fun s_5 x_6 => bk_cons (st_setix (ei := D.int) 2 rfl (dd_xor (dd_ixL (ei := D.int) (dl_own (ei := D.int) (db_var (emb := (fun xs : (List Int) => T.lst (xs.map fun x => T.imm (D.int x)))) 2 rfl)) (dd_var (emb := D.int) 4 rfl)) (dd_imm (df_call (ok_mul Tx) (hr.mono (by decide)) Tx.g_mul Tx.F_mul.kp Tx.b_mul (takes_of rfl rfl rfl rfl) (da_cons (dd_ixL (ei := D.int) (dl_imm (ei := D.int) (dd_var (emb := (fun xs : (List Int) => D.lst (xs.map D.int))) 0 rfl)) (dd_var (emb := D.int) 3 rfl)) (da_cons (dd_ixL (ei := D.int) (dl_imm (ei := D.int) (dd_ixL (ei := (fun xs : (List Int) => D.lst (xs.map D.int))) (dl_imm (ei := (fun xs : (List Int) => D.lst (xs.map D.int))) (dd_var (emb := (fun xs : (List (List Int)) => D.lst (xs.map (fun xs : (List Int) => D.lst (xs.map D.int))))) 1 rfl)) (dd_var (emb := D.int) 3 rfl))) (dd_var (emb := D.int) 4 rfl)) da_nil))))) (dd_var (emb := D.int) 4 rfl) trivial) fun total_7 => bk_nil (o := total_7) rfl ⟨rfl, rfl, rfl, rfl, trivial⟩) ⟨rfl, rfl, rfl, rfl, trivial⟩ trivial) fun s_8 => bk_nil (o := s_8) rfl ⟨rfl, rfl, rfl, rfl, trivial⟩) (bk_nil (o := s_2) rfl ⟨rfl, rfl, rfl, rfl, trivial⟩) trivial) fun j_4 => bk_nil (o := j_4) rfl ⟨rfl, rfl, rfl, trivial⟩) ⟨rfl, rfl, rfl, trivial⟩ trivial) fun s_9 => bk_retV (o := s_9) 2 rfl rfl trivial

theorem sc__check_lengths : FnScope ["lists", "one"] ["lists"] (defScope s__check_lengths) := ⟨rfl, rfl, rfl, by decide +kernel, rfl, by decide +kernel, by decide +kernel⟩
noncomputable def _check_lengths (lists : (List (List Int))) : R Unit :=
  ((R.ok lists >>= fun xs => forS (fun (x_2 : (List Int)) (s_1 : Unit) => ((((R.ok x_2 >>= fun xs => .ok (xs.length : Int)) >>= fun x => R.ok (0 : Int) >>= fun y => .ok (decide (x = y))) >>= fun x => if x then .ok true else ((R.ok x_2 >>= fun xs => .ok (xs.length : Int)) >>= fun x => ((R.ok lists >>= fun xs => R.ok (0 : Int) >>= fun i => ofO (atI xs i)) >>= fun xs => .ok (xs.length : Int)) >>= fun y => .ok (!decide (x = y)))) >>= fun x => if x then R.err ("UnequalBlocks" : Str) else R.ok ())) xs ()) >>= fun s_3 : Unit => R.ok ())
theorem ok__check_lengths (Tx : Tx K mg) : FnOk P w K mg base (L2.CX P w) 1 Tx.a__check_lengths Tx.d__check_lengths ["lists"]
    (SpF ⟨K, mg⟩ (fun p : (List (List Int)) × Unit => [D.lst ((p.1).map (fun xs : (List Int) => D.lst (xs.map D.int)))]) (fun r : Unit => .imm (D.non)) (fun p => _check_lengths p.1)) := by
  refine fn_pureN Tx.F__check_lengths sc__check_lengths (fun _ => rfl) fun cdv A outer s H E hr p => ?_
  obtain ⟨lists, _⟩ := p
  exact bk_cons (Γ1 := fun s_1 : Unit => [.ow (.imm (D.lst ((lists).map (fun xs : (List Int) => D.lst (xs.map D.int))))), .un]) (st_forS (Γs := fun s_1 : Unit => [.ow (.imm (D.lst ((lists).map (fun xs : (List Int) => D.lst (xs.map D.int))))), .un]) (ei := (fun xs : (List Int) => D.lst (xs.map D.int))) () (passes_of rfl) rfl (di_list (ei := (fun xs : (List Int) => D.lst (xs.map D.int))) (dd_var (emb := (fun xs : (List (List Int)) => D.lst (xs.map (fun xs : (List Int) => D.lst (xs.map D.int))))) 0 rfl)) (fun s_1 x_2 => (dg_name 1 sc__check_lengths.nd)) (fun s_1 x_2 => bk_ifX (dt_dw (dw_or (dt_eqI (dd_lenL (ei := D.int) (dl_imm (ei := D.int) (dd_var (emb := (fun xs : (List Int) => D.lst (xs.map D.int))) 1 rfl)) Tx.b_len) dd_int) (dw_one (dt_neI (dd_lenL (ei := D.int) (dl_imm (ei := D.int) (dd_var (emb := (fun xs : (List Int) => D.lst (xs.map D.int))) 1 rfl)) Tx.b_len) (dd_lenL (ei := D.int) (dl_imm (ei := D.int) (dd_ixL (ei := (fun xs : (List Int) => D.lst (xs.map D.int))) (dl_imm (ei := (fun xs : (List Int) => D.lst (xs.map D.int))) (dd_var (emb := (fun xs : (List (List Int)) => D.lst (xs.map (fun xs : (List Int) => D.lst (xs.map D.int))))) 0 rfl)) dd_int)) Tx.b_len)) (by first | exact .inl rfl | exact .inr rfl)))) (bk_raise Tx.x_UnequalBlocks rfl (takes_of rfl rfl rfl rfl) trivial) (bk_nil (o := ()) rfl ⟨rfl, trivial⟩) trivial) ⟨rfl, trivial⟩ trivial) fun s_3 => bk_nil (o := ()) rfl trivial

theorem sc_Code___check_blocks : FnScope ["self", "blocks"] ["self", "blocks"] (defScope s_Code___check_blocks) := ⟨rfl, rfl, rfl, by decide +kernel, rfl, by decide +kernel, by decide +kernel⟩
noncomputable def Code___check_blocks (self : OCode) (blocks : (List (List Int))) : R Unit :=
  (((R.ok blocks >>= fun xs => .ok (xs.length : Int)) >>= fun x => (R.ok self >>= fun y => .ok ((fun y : OCode => y.1) y)) >>= fun y => .ok (!decide (x = y))) >>= fun x => if x then R.err ("UnequalBlocks" : Str) else (((R.ok blocks >>= fun x => R.ok () >>= fun y => .ok (x, y)) >>= fun p : (List (List Int)) × Unit => (_check_lengths p.1)) >>= fun _ => R.ok ()))
theorem ok_Code___check_blocks (Tx : Tx K mg) : FnOk P w K mg base (L2.CX P w) 2 Tx.a_Code___check_blocks Tx.d_Code___check_blocks ["self", "blocks"]
    (SpL ⟨K, mg⟩ (fun p : OCode × (List (List Int)) × Unit => [.tr (eCode p.1), .dt (D.lst ((p.2.1).map (fun xs : (List Int) => D.lst (xs.map D.int))))]) (fun r : Unit => .imm (D.non)) (fun p => Code___check_blocks p.1 p.2.1)) := by
  refine fn_lookN Tx.F_Code___check_blocks sc_Code___check_blocks (fun _ => rfl) fun cdv A outer s H E hr p => ?_
  obtain ⟨self, blocks, _⟩ := p
  exact bk_ifX (dt_neI (dd_lenL (ei := (fun xs : (List Int) => D.lst (xs.map D.int))) (dl_imm (ei := (fun xs : (List Int) => D.lst (xs.map D.int))) (dd_var (emb := (fun xs : (List (List Int)) => D.lst (xs.map (fun xs : (List Int) => D.lst (xs.map D.int))))) 1 rfl)) Tx.b_len) (dd_db (emb := D.int) (db_fld (ec := (fun x : Int => T.imm (D.int x))) 0 (fun y : OCode => y.1) (db_see (emb := eCode) (x := self) 0 rfl rfl) ⟨Tx.gc_Code, Tx.cl_Code⟩ Tx.na_Code_data))) (bk_raise Tx.x_UnequalBlocks rfl (takes_of rfl rfl rfl rfl) trivial) (bk_cons (st_expr (db_of_dd (dd_imm (df_call (ok__check_lengths Tx) (hr.mono (by decide)) Tx.g__check_lengths Tx.F__check_lengths.kp Tx.b__check_lengths (takes_of rfl rfl rfl rfl) (da_cons (ea := (fun xs : (List (List Int)) => D.lst (xs.map (fun xs : (List Int) => D.lst (xs.map D.int))))) (dd_var (emb := (fun xs : (List (List Int)) => D.lst (xs.map (fun xs : (List Int) => D.lst (xs.map D.int))))) 1 rfl) da_nil)))) trivial) fun _ => bk_nil (o := ()) rfl trivial) trivial

theorem sc_Code__word : FnScope ["self", "blocks", "row"] ["self", "blocks"] (defScope s_Code__word) := ⟨rfl, rfl, rfl, by decide +kernel, rfl, by decide +kernel, by decide +kernel⟩
noncomputable def Code__word (self : OCode) (blocks : (List (List Int))) : R (List (List Int)) :=
  ((R.ok self >>= fun y => (R.ok blocks >>= fun x => R.ok () >>= fun y => .ok (x, y)) >>= fun z : (List (List Int)) × Unit => (Code___check_blocks y z.1)) >>= fun _ => (((R.ok self >>= fun y => .ok ((fun y : OCode => y.2.2) y)) >>= fun xs => compR (fun c_1 : (List Int) => R.ok true) (fun c_1 : (List Int) => ((R.ok c_1 >>= fun x => (R.ok blocks >>= fun x => R.ok () >>= fun y => .ok (x, y)) >>= fun y => .ok (x, y)) >>= fun p : (List Int) × (List (List Int)) × Unit => (_combine p.1 p.2.1))) xs) >>= fun r => .ok (r)))
theorem ok_Code__word (Tx : Tx K mg) : FnOk P w K mg base (L2.CX P w) 3 Tx.a_Code__word Tx.d_Code__word ["self", "blocks"]
    (SpL ⟨K, mg⟩ (fun p : OCode × (List (List Int)) × Unit => [.tr (eCode p.1), .dt (D.lst ((p.2.1).map (fun xs : (List Int) => D.lst (xs.map D.int))))]) (fun r : (List (List Int)) => T.lst ((r).map fun x : (List Int) => T.lst ((x).map fun x => .imm (D.int x)))) (fun p => Code__word p.1 p.2.1)) := by
  refine fn_look Tx.F_Code__word sc_Code__word (fun _ => rfl) fun cdv A outer s H E hr p => ?_
  obtain ⟨self, blocks, _⟩ := p
  exact bk_cons (st_expr (db_of_dd (dd_imm (df_methL (g := fun p : OCode × (List (List Int)) × Unit => Code___check_blocks p.1 p.2.1) (fun y z => (y, z)) (ok_Code___check_blocks Tx) (hr.mono (by decide)) ⟨Tx.gc_Code, Tx.cl_Code⟩ Tx.h_Code___check_blocks Tx.b_Code___check_blocks (takes_of rfl rfl rfl rfl) (db_see (emb := eCode) (x := self) 0 rfl rfl) (dal_dd (dd_var (emb := (fun xs : (List (List Int)) => D.lst (xs.map (fun xs : (List Int) => D.lst (xs.map D.int))))) 1 rfl) dal_nil) (fun _ => rfl) (by decide) (fun _ _ => rfl) (by exact star_cons rfl) (by exact star_none rfl) _))) trivial) fun _ => bk_as [.lk (eCode self), .ow (.imm (D.lst ((blocks).map (fun xs : (List Int) => D.lst (xs.map D.int))))), .un] rfl (bk_ret (df_lc (put := fun c_1 : (List Int) => [.lk (eCode self), .ow (.imm (D.lst ((blocks).map (fun xs : (List Int) => D.lst (xs.map D.int))))), .ow (.imm (D.lst ((c_1).map D.int)))]) (N' := ["self", "blocks", "row"]) (sc' := defScope s_Code__word) (ei := (fun xs : (List Int) => D.lst (xs.map D.int))) (et := (fun xs : (List Int) => T.lst (xs.map fun x => T.imm (D.int x)))) [("row", 2)] rfl sc_Code__word.nd (di_list (ei := (fun xs : (List Int) => D.lst (xs.map D.int))) (dd_db (emb := (fun xs : (List (List Int)) => D.lst (xs.map (fun xs : (List Int) => D.lst (xs.map D.int))))) (db_fld (ec := (fun x : (List (List Int)) => T.imm (D.lst ((x).map (fun xs : (List Int) => D.lst (xs.map D.int)))))) 2 (fun y : OCode => y.2.2) (db_see (emb := eCode) (x := self) 0 rfl rfl) ⟨Tx.gc_Code, Tx.cl_Code⟩ Tx.na_Code_rows))) (by exact ⟨rfl, rfl, trivial⟩) (fun _ _ _ _ _ c_1 => (dgc_name 2 sc_Code__word.nd)) (fun _ _ _ _ _ c_1 => dts_nil) (fun _ _ _ _ _ c_1 => (df_call (ok__combine Tx) (hr.mono (by decide)) Tx.g__combine Tx.F__combine.kp Tx.b__combine takes0 (da_cons (ea := (fun xs : (List Int) => D.lst (xs.map D.int))) (dd_var (emb := (fun xs : (List Int) => D.lst (xs.map D.int))) 2 rfl) (da_cons (ea := (fun xs : (List (List Int)) => D.lst (xs.map (fun xs : (List Int) => D.lst (xs.map D.int))))) (dd_var (emb := (fun xs : (List (List Int)) => D.lst (xs.map (fun xs : (List Int) => D.lst (xs.map D.int))))) 1 rfl) da_nil))))) (g := fun r => r) (fun _ => rfl) trivial trivial)

theorem sc_Code__chunks : FnScope ["self", "octets", "size", "padded", "j"] ["self", "octets"] (defScope s_Code__chunks) := ⟨rfl, rfl, rfl, by decide +kernel, rfl, by decide +kernel, by decide +kernel⟩
noncomputable def Code__chunks (self : OCode) (octets : (List Int)) : R (List (List Int)) :=
  ((R.ok (1 : Int) >>= fun x => ((((R.ok octets >>= fun xs => .ok (xs.length : Int)) >>= fun x => (R.ok self >>= fun y => .ok ((fun y : OCode => y.1) y)) >>= fun y => .ok (x + y)) >>= fun x => R.ok (1 : Int) >>= fun y => .ok (x - y)) >>= fun x => (R.ok self >>= fun y => .ok ((fun y : OCode => y.1) y)) >>= fun y => ofO (divO x y)) >>= fun y => .ok (if y > x then y else x)) >>= fun size_1 => ((R.ok octets >>= fun xs => (((R.ok (0 : Int) >>= fun x => R.ok () >>= fun y => .ok (x, y)) >>= fun p => .ok ((fun p : Int × Unit => ([p.1] : List Int)) p)) >>= fun xs => ((R.ok size_1 >>= fun x => (R.ok self >>= fun y => .ok ((fun y : OCode => y.1) y)) >>= fun y => ofO (mulO x y)) >>= fun x => (R.ok octets >>= fun xs => .ok (xs.length : Int)) >>= fun y => .ok (x - y)) >>= fun k => ofO (repO xs k)) >>= fun ys => ofO (catO xs ys)) >>= fun padded_2 => ((((R.ok self >>= fun y => .ok ((fun y : OCode => y.1) y)) >>= fun n => ofO (rangeO 0 n)) >>= fun xs => compR (fun c_3 : Int => R.ok true) (fun c_3 : Int => (R.ok padded_2 >>= fun xs => ((R.ok c_3 >>= fun x => R.ok size_1 >>= fun y => ofO (mulO x y)) >>= fun i => .ok (some i)) >>= fun i => (((R.ok c_3 >>= fun x => R.ok (1 : Int) >>= fun y => .ok (x + y)) >>= fun x => R.ok size_1 >>= fun y => ofO (mulO x y)) >>= fun i => .ok (some i)) >>= fun j => .ok (cutL xs i j))) xs) >>= fun r => .ok (r))))
theorem ok_Code__chunks (Tx : Tx K mg) : FnOk P w K mg base (L2.CX P w) 1 Tx.a_Code__chunks Tx.d_Code__chunks ["self", "octets"]
    (SpL ⟨K, mg⟩ (fun p : OCode × (List Int) × Unit => [.tr (eCode p.1), .dt (D.lst ((p.2.1).map D.int))]) (fun r : (List (List Int)) => .lst ((r).map fun x => .imm ((fun xs : (List Int) => D.lst (xs.map D.int)) x))) (fun p => Code__chunks p.1 p.2.1)) := by
  refine fn_look Tx.F_Code__chunks sc_Code__chunks (fun _ => rfl) fun cdv A outer s H E hr p => ?_
  obtain ⟨self, octets, _⟩ := p
  exact bk_cons (st_set 2 (df_of_dd (dd_two_ints (f := fun x y => if y > x then y else x) (call_max2 rfl) dd_int (dd_div (dd_sub (dd_add (dd_lenL (ei := D.int) (dl_imm (ei := D.int) (dd_var (emb := (fun xs : (List Int) => D.lst (xs.map D.int))) 1 rfl)) Tx.b_len) (dd_db (emb := D.int) (db_fld (ec := (fun x : Int => T.imm (D.int x))) 0 (fun y : OCode => y.1) (db_see (emb := eCode) (x := self) 0 rfl rfl) ⟨Tx.gc_Code, Tx.cl_Code⟩ Tx.na_Code_data))) dd_int) (dd_db (emb := D.int) (db_fld (ec := (fun x : Int => T.imm (D.int x))) 0 (fun y : OCode => y.1) (db_see (emb := eCode) (x := self) 0 rfl rfl) ⟨Tx.gc_Code, Tx.cl_Code⟩ Tx.na_Code_data))) Tx.b_max (by decide +kernel))) trivial rfl sc_Code__chunks.nd) fun size_1 => bk_cons (st_set 3 (df_cat (ei := D.int) (dlt_own (ei := D.int) (db_of_df (df_listL (ei := D.int) (dl_imm (ei := D.int) (dd_var (emb := (fun xs : (List Int) => D.lst (xs.map D.int))) 1 rfl)) Tx.b_list))) (dlt_own (ei := D.int) (db_of_df (df_rep (ei := D.int) (dlt_own (ei := D.int) (db_of_df (df_disp (ei := D.int) (da_cons dd_int da_nil) (fun p : Int × Unit => ([p.1] : List Int))))) (dd_sub (dd_mul (dd_var (emb := D.int) 2 rfl) (dd_db (emb := D.int) (db_fld (ec := (fun x : Int => T.imm (D.int x))) 0 (fun y : OCode => y.1) (db_see (emb := eCode) (x := self) 0 rfl rfl) ⟨Tx.gc_Code, Tx.cl_Code⟩ Tx.na_Code_data))) (dd_lenL (ei := D.int) (dl_imm (ei := D.int) (dd_var (emb := (fun xs : (List Int) => D.lst (xs.map D.int))) 1 rfl)) Tx.b_len)))))) trivial rfl sc_Code__chunks.nd) fun padded_2 => bk_as [.lk (eCode self), .ow (.imm (D.lst ((octets).map D.int))), .ow (.imm (D.int size_1)), .ow (.lst ((padded_2).map fun x => .imm (D.int x))), .un] rfl (bk_ret (df_lc (put := fun c_3 : Int => [.lk (eCode self), .ow (.imm (D.lst ((octets).map D.int))), .ow (.imm (D.int size_1)), .ow (.lst ((padded_2).map fun x => .imm (D.int x))), .ow (.imm (D.int c_3))]) (N' := ["self", "octets", "size", "padded", "j"]) (sc' := defScope s_Code__chunks) (ei := D.int) (et := fun y => .imm ((fun xs : (List Int) => D.lst (xs.map D.int)) y)) [("j", 4)] rfl sc_Code__chunks.nd (di_range1 (dd_db (emb := D.int) (db_fld (ec := (fun x : Int => T.imm (D.int x))) 0 (fun y : OCode => y.1) (db_see (emb := eCode) (x := self) 0 rfl rfl) ⟨Tx.gc_Code, Tx.cl_Code⟩ Tx.na_Code_data)) Tx.b_range) (by exact ⟨rfl, rfl, rfl, rfl, trivial⟩) (fun _ _ _ _ _ c_3 => (dgc_name 4 sc_Code__chunks.nd)) (fun _ _ _ _ _ c_3 => dts_nil) (fun _ _ _ _ _ c_3 => df_of_dd (dd_list (ε := D.int) (df_slL (ei := D.int) (dl_own (ei := D.int) (db_var (emb := (fun xs : (List Int) => T.lst (xs.map fun x => T.imm (D.int x)))) 3 rfl)) (do_some (dd_mul (dd_var (emb := D.int) 4 rfl) (dd_var (emb := D.int) 2 rfl))) (do_some (dd_mul (dd_add (dd_var (emb := D.int) 4 rfl) dd_int) (dd_var (emb := D.int) 2 rfl))))))) (g := fun r => r) (fun _ => rfl) trivial trivial)

theorem sc_fragments : FnScope ["config", "octets", "code"] ["config", "octets"] (defScope s_fragments) := ⟨rfl, rfl, rfl, by decide +kernel, rfl, by decide +kernel, by decide +kernel⟩
noncomputable def fragments (config : OConfig) (octets : (List Int)) : R (List (List Int)) :=
  ((((R.ok config >>= fun y => .ok ((fun y : OConfig => y.2.2.1) y)) >>= fun x => ((R.ok config >>= fun y => .ok ((fun y : OConfig => y.2.1) y)) >>= fun x => R.ok () >>= fun y => .ok (x, y)) >>= fun y => .ok (x, y)) >>= fun y : Int × Int × Unit => Code____init__ y.1 y.2.1 >>= fun r => .ok (y, r)) >>= fun code_1 => ((R.ok code_1.2 >>= fun y => ((R.ok code_1.2 >>= fun y => (R.ok octets >>= fun x => R.ok () >>= fun y => .ok (x, y)) >>= fun z : (List Int) × Unit => (Code__chunks y z.1)) >>= fun x => R.ok () >>= fun y => .ok (x, y)) >>= fun z : (List (List Int)) × Unit => (Code__word y z.1)) >>= fun r => .ok (r)))
theorem ok_fragments (Tx : Tx K mg) : FnOk P w K mg base (L2.CX P w) 8 Tx.a_fragments Tx.d_fragments ["config", "octets"]
    (SpL ⟨K, mg⟩ (fun p : OConfig × (List Int) × Unit => [.tr (eConfig p.1), .dt (D.lst ((p.2.1).map D.int))]) (fun r : (List (List Int)) => .imm (D.lst ((r).map (fun xs : (List Int) => D.lst (xs.map D.int))))) (fun p => fragments p.1 p.2.1)) := by
  refine fn_look Tx.F_fragments sc_fragments (fun _ => rfl) fun cdv A outer s H E hr p => ?_
  obtain ⟨config, octets, _⟩ := p
  exact bk_cons (st_setX 2 (dx_make (g := fun p : Int × Int × Unit => Code____init__ p.1 p.2.1) (eb := eCode) (pr := fun _ => []) (fun r : OCode => r) (fun z : Int × Int × Unit => z) (fun _ => [.lk (eConfig config), .ow (.imm (D.lst ((octets).map D.int))), .un]) Tx.mk_Code (ok_Code____init__ Tx) (hr.mono (by decide)) ⟨Tx.gc_Code, Tx.cl_Code⟩ Tx.b_Code____init__ (takes_of rfl rfl rfl rfl) (dam_dd (ec := D.int) (dd_db (emb := D.int) (db_fld (ec := (fun x : Int => T.imm (D.int x))) 2 (fun y : OConfig => y.2.2.1) (db_see (emb := eConfig) (x := config) 0 rfl rfl) ⟨Tx.gc_Config, Tx.cl_Config⟩ Tx.na_Config_data)) (dam_dd (ec := D.int) (dd_db (emb := D.int) (db_fld (ec := (fun x : Int => T.imm (D.int x))) 1 (fun y : OConfig => y.2.1) (db_see (emb := eConfig) (x := config) 0 rfl rfl) ⟨Tx.gc_Config, Tx.cl_Config⟩ Tx.na_Config_shelves)) dam_nil)) (fun _ _ => trivial) (fun _ => List.nodup_nil) (fun _ => rfl) (fun _ => rfl) (fun _ _ _ => rfl)) trivial (fun _ => rfl) sc_fragments.nd) fun code_1 => bk_as [.lk (eConfig config), .ow (.imm (D.lst ((octets).map D.int))), .ow (eCode code_1.2)] rfl (bk_ret (df_of_dd (dd_of_df (emb' := (fun xs : (List (List Int)) => D.lst (xs.map (fun xs : (List Int) => D.lst (xs.map D.int))))) (df_methL (g := fun p : OCode × (List (List Int)) × Unit => Code__word p.1 p.2.1) (fun y z => (y, z)) (ok_Code__word Tx) (hr.mono (by decide)) ⟨Tx.gc_Code, Tx.cl_Code⟩ Tx.h_Code__word Tx.b_Code__word (takes_of rfl rfl rfl rfl) (db_see (emb := eCode) (x := code_1.2) 2 rfl rfl) (dal_dd (dd_list (ε := (fun xs : (List Int) => D.lst (xs.map D.int))) (df_methL (g := fun p : OCode × (List Int) × Unit => Code__chunks p.1 p.2.1) (fun y z => (y, z)) (ok_Code__chunks Tx) (hr.mono (by decide)) ⟨Tx.gc_Code, Tx.cl_Code⟩ Tx.h_Code__chunks Tx.b_Code__chunks (takes_of rfl rfl rfl rfl) (db_see (emb := eCode) (x := code_1.2) 2 rfl rfl) (dal_dd (dd_list (ε := D.int) (df_listL (ei := D.int) (dl_imm (ei := D.int) (dd_var (emb := (fun xs : (List Int) => D.lst (xs.map D.int))) 1 rfl)) Tx.b_list)) dal_nil) (fun _ => rfl) (by decide) (fun _ _ => rfl) (by exact star_cons rfl) (by exact star_none rfl) _)) dal_nil) (fun _ => rfl) (by decide) (fun _ _ => rfl) (by exact star_cons rfl) (by exact star_none rfl) _) (fun x => fz_lists x))) (g := fun r => r) (fun _ => rfl) trivial trivial)

theorem sc__law_order : FnScope ["draws", "many", "left", "order", "k", "at"] ["draws", "many"] (defScope s__law_order) := ⟨rfl, rfl, rfl, by decide +kernel, rfl, by decide +kernel, by decide +kernel⟩
noncomputable def _law_order (draws : (List Int)) (many : Int) : R (List Int) :=
  ((R.ok many >>= fun n => ofO (rangeLO 0 n)) >>= fun left_1 => ((R.ok () >>= fun p => .ok ((fun p : Unit => ([] : List Int)) p)) >>= fun order_2 => (((R.ok many >>= fun n => ofO (rangeO 0 n)) >>= fun xs => forS (fun (x_4 : Int) (s_3 : (List Int) × (List Int)) => ((((R.ok draws >>= fun xs => (R.ok (30 : Int) >>= fun x => (R.ok x_4 >>= fun x => .ok (x % 12)) >>= fun y => .ok (x + y)) >>= fun i => ofO (atI xs i)) >>= fun x => R.ok x_4 >>= fun y => .ok (x + y)) >>= fun x => (R.ok s_3.1 >>= fun xs => .ok (xs.length : Int)) >>= fun y => ofO (modO x y)) >>= fun at_5 => (((R.ok s_3.1 >>= fun xs => R.ok at_5 >>= fun i => ofO (atI xs i)) >>= fun x => ofO (appO s_3.2 x)) >>= fun order_6 => (((R.ok s_3.1 >>= fun xs => R.ok none >>= fun i => (R.ok at_5 >>= fun i => .ok (some i)) >>= fun j => .ok (cutL xs i j)) >>= fun xs => (R.ok s_3.1 >>= fun xs => ((R.ok at_5 >>= fun x => R.ok (1 : Int) >>= fun y => .ok (x + y)) >>= fun i => .ok (some i)) >>= fun i => R.ok none >>= fun j => .ok (cutL xs i j)) >>= fun ys => ofO (catO xs ys)) >>= fun left_7 => R.ok (left_7, order_6))))) xs (left_1, order_2)) >>= fun s_8 : (List Int) × (List Int) => R.ok (s_8.2))))
theorem ok__law_order (Tx : Tx K mg) : FnOk P w K mg base (L2.CX P w) 1 Tx.a__law_order Tx.d__law_order ["draws", "many"]
    (SpF ⟨K, mg⟩ (fun p : (List Int) × Int × Unit => [D.lst ((p.1).map D.int), D.int p.2.1]) (fun r : (List Int) => .lst ((r).map fun x => .imm (D.int x))) (fun p => _law_order p.1 p.2.1)) := by
  refine fn_pure Tx.F__law_order sc__law_order (fun _ => rfl) fun cdv A outer s H E hr p => ?_
  obtain ⟨draws, many, _⟩ := p
  exact bk_cons (st_set 2 (df_listR1 rfl (dd_var (emb := D.int) 1 rfl) Tx.b_list Tx.b_range) trivial rfl sc__law_order.nd) fun left_1 => bk_cons (st_set 3 (df_disp (ei := D.int) da_nil (fun p : Unit => ([] : List Int))) trivial rfl sc__law_order.nd) fun order_2 => bk_cons (Γ1 := fun s_3 : (List Int) × (List Int) => [.ow (.imm (D.lst ((draws).map D.int))), .ow (.imm (D.int many)), .ow (.lst ((s_3.1).map fun x => .imm (D.int x))), .ow (.lst ((s_3.2).map fun x => .imm (D.int x))), .un, .un]) (st_forS (Γs := fun s_3 : (List Int) × (List Int) => [.ow (.imm (D.lst ((draws).map D.int))), .ow (.imm (D.int many)), .ow (.lst ((s_3.1).map fun x => .imm (D.int x))), .ow (.lst ((s_3.2).map fun x => .imm (D.int x))), .un, .un]) (ei := D.int) (left_1, order_2) (passes_of rfl) rfl (di_range1 (dd_var (emb := D.int) 1 rfl) Tx.b_range) (fun s_3 x_4 => (dg_name 4 sc__law_order.nd)) (fun s_3 x_4 => bk_cons (st_set 5 (df_of_dd (dd_mod (dd_intI (dd_add (dd_ixL (ei := D.int) (dl_imm (ei := D.int) (dd_var (emb := (fun xs : (List Int) => D.lst (xs.map D.int))) 0 rfl)) (dd_add dd_int (dd_modC (dd_var (emb := D.int) 4 rfl) dd_int (by decide)))) (dd_var (emb := D.int) 4 rfl)) Tx.b_int) (dd_lenL (ei := D.int) (dl_own (ei := D.int) (db_var (emb := (fun xs : (List Int) => T.lst (xs.map fun x => T.imm (D.int x)))) 2 rfl)) Tx.b_len))) trivial rfl sc__law_order.nd) fun at_5 => bk_cons (st_append (ei := D.int) 3 rfl (dd_ixL (ei := D.int) (dl_own (ei := D.int) (db_var (emb := (fun xs : (List Int) => T.lst (xs.map fun x => T.imm (D.int x)))) 2 rfl)) (dd_var (emb := D.int) 5 rfl)) trivial) fun order_6 => bk_cons (st_set 2 (df_cat (ei := D.int) (dlt_own (ei := D.int) (db_of_df (df_slL (ei := D.int) (dl_own (ei := D.int) (db_var (emb := (fun xs : (List Int) => T.lst (xs.map fun x => T.imm (D.int x)))) 2 rfl)) do_none (do_some (dd_var (emb := D.int) 5 rfl))))) (dlt_own (ei := D.int) (db_of_df (df_slL (ei := D.int) (dl_own (ei := D.int) (db_var (emb := (fun xs : (List Int) => T.lst (xs.map fun x => T.imm (D.int x)))) 2 rfl)) (do_some (dd_add (dd_var (emb := D.int) 5 rfl) dd_int)) do_none)))) trivial rfl sc__law_order.nd) fun left_7 => bk_nil (o := (left_7, order_6)) rfl ⟨rfl, rfl, rfl, rfl, trivial⟩) ⟨rfl, rfl, rfl, rfl, trivial⟩ trivial) fun s_8 => bk_retV (o := s_8.2) 3 rfl rfl trivial

theorem sc_Code__merge : FnScope ["self", "blocks", "size", "octets", "block"] ["self", "blocks", "size"] (defScope s_Code__merge) := ⟨rfl, rfl, rfl, by decide +kernel, rfl, by decide +kernel, by decide +kernel⟩
noncomputable def Code__merge (self : OCode) (blocks : (List (List Int))) (size : Int) : R (List Int) :=
  ((R.ok () >>= fun p => .ok ((fun p : Unit => ([] : List Int)) p)) >>= fun octets_1 => ((R.ok blocks >>= fun xs => forS (fun (x_3 : (List Int)) (s_2 : (List Int)) => ((R.ok x_3 >>= fun x => ofO (extO s_2 x)) >>= fun octets_4 => R.ok octets_4)) xs octets_1) >>= fun s_5 : (List Int) => (((R.ok s_5 >>= fun xs => .ok (xs.length : Int)) >>= fun x => R.ok size >>= fun y => .ok (decide (x < y))) >>= fun x => if x then R.err ("NotEnough" : Str) else ((R.ok s_5 >>= fun xs => R.ok none >>= fun i => (R.ok size >>= fun i => .ok (some i)) >>= fun j => .ok (cutL xs i j)) >>= fun r => .ok (r)))))
theorem ok_Code__merge (Tx : Tx K mg) : FnOk P w K mg base (L2.CX P w) 1 Tx.a_Code__merge Tx.d_Code__merge ["self", "blocks", "size"]
    (SpL ⟨K, mg⟩ (fun p : OCode × (List (List Int)) × Int × Unit => [.tr (eCode p.1), .dt (D.lst ((p.2.1).map (fun xs : (List Int) => D.lst (xs.map D.int)))), .dt (D.int p.2.2.1)]) (fun r : (List Int) => .lst ((r).map fun x => .imm (D.int x))) (fun p => Code__merge p.1 p.2.1 p.2.2.1)) := by
  refine fn_look Tx.F_Code__merge sc_Code__merge (fun _ => rfl) fun cdv A outer s H E hr p => ?_
  obtain ⟨self, blocks, size, _⟩ := p
  exact bk_cons (st_set 3 (df_disp (ei := D.int) da_nil (fun p : Unit => ([] : List Int))) trivial rfl sc_Code__merge.nd) fun octets_1 => bk_cons (Γ1 := fun s_2 : (List Int) => [.lk (eCode self), .ow (.imm (D.lst ((blocks).map (fun xs : (List Int) => D.lst (xs.map D.int))))), .ow (.imm (D.int size)), .ow (.lst ((s_2).map fun x => .imm (D.int x))), .un]) (st_forS (Γs := fun s_2 : (List Int) => [.lk (eCode self), .ow (.imm (D.lst ((blocks).map (fun xs : (List Int) => D.lst (xs.map D.int))))), .ow (.imm (D.int size)), .ow (.lst ((s_2).map fun x => .imm (D.int x))), .un]) (ei := (fun xs : (List Int) => D.lst (xs.map D.int))) octets_1 (passes_of rfl) rfl (di_list (ei := (fun xs : (List Int) => D.lst (xs.map D.int))) (dd_var (emb := (fun xs : (List (List Int)) => D.lst (xs.map (fun xs : (List Int) => D.lst (xs.map D.int))))) 1 rfl)) (fun s_2 x_3 => (dg_name 4 sc_Code__merge.nd)) (fun s_2 x_3 => bk_cons (st_extend (ei := D.int) 3 rfl (dlt_imm (ei := D.int) (dd_var (emb := (fun xs : (List Int) => D.lst (xs.map D.int))) 4 rfl)) trivial) fun octets_4 => bk_nil (o := octets_4) rfl ⟨rfl, rfl, rfl, rfl, trivial⟩) ⟨rfl, rfl, rfl, rfl, trivial⟩ trivial) fun s_5 => bk_ifX (dt_lt (dd_lenL (ei := D.int) (dl_own (ei := D.int) (db_var (emb := (fun xs : (List Int) => T.lst (xs.map fun x => T.imm (D.int x)))) 3 rfl)) Tx.b_len) (dd_var (emb := D.int) 2 rfl)) (bk_raise Tx.x_NotEnough rfl (takes_of rfl rfl rfl rfl) trivial) (bk_ret (df_slL (ei := D.int) (dl_own (ei := D.int) (db_var (emb := (fun xs : (List Int) => T.lst (xs.map fun x => T.imm (D.int x)))) 3 rfl)) do_none (do_some (dd_var (emb := D.int) 2 rfl))) (g := fun r => r) (fun _ => rfl) trivial trivial) trivial

theorem sc_identity : FnScope ["n", "i", "j"] ["n"] (defScope s_identity) := ⟨rfl, rfl, rfl, by decide +kernel, rfl, by decide +kernel, by decide +kernel⟩
noncomputable def identity (n_q : Int) : R (List (List Int)) :=
  (((R.ok n_q >>= fun n => ofO (rangeO 0 n)) >>= fun xs => compR (fun c_1 : Int => R.ok true) (fun c_1 : Int => ((R.ok n_q >>= fun n => ofO (rangeO 0 n)) >>= fun xs => compR (fun c_2 : Int => R.ok true) (fun c_2 : Int => ((R.ok c_1 >>= fun x => R.ok c_2 >>= fun y => .ok (decide (x = y))) >>= fun x => if x then R.ok (1 : Int) else R.ok (0 : Int))) xs)) xs) >>= fun r => .ok (r))
theorem ok_identity (Tx : Tx K mg) : FnOk P w K mg base (L2.CX P w) 1 Tx.a_identity Tx.d_identity ["n"]
    (SpF ⟨K, mg⟩ (fun p : Int × Unit => [D.int p.1]) (fun r : (List (List Int)) => .lst ((r).map fun x => .imm ((fun xs : (List Int) => D.lst (xs.map D.int)) x))) (fun p => identity p.1)) := by
  refine fn_pure Tx.F_identity sc_identity (fun _ => rfl) fun cdv A outer s H E hr p => ?_
  obtain ⟨n_q, _⟩ := p
  exact bk_as [.ow (.imm (D.int n_q)), .un, .un] rfl (bk_ret (df_lc (put := fun c_1 : Int => [.ow (.imm (D.int n_q)), .ow (.imm (D.int c_1)), .un]) (N' := ["n", "i", "j"]) (sc' := defScope s_identity) (ei := D.int) (et := fun y => .imm ((fun xs : (List Int) => D.lst (xs.map D.int)) y)) [("i", 1)] rfl sc_identity.nd (di_range1 (dd_var (emb := D.int) 0 rfl) Tx.b_range) (by exact ⟨rfl, trivial⟩) (fun _ _ _ _ _ c_1 => (dgc_name 1 sc_identity.nd)) (fun _ _ _ _ _ c_1 => dts_nil) (fun _ _ _ _ _ c_1 => df_of_dd (dd_list (ε := D.int) (df_lcN (put := fun c_2 : Int => [.ow (.imm (D.int n_q)), .ow (.imm (D.int c_1)), .ow (.imm (D.int c_2))]) (N' := ["n", "i", "j"]) (sc0 := defScope s_identity) (ei := D.int) (et := fun y => .imm (D.int y)) [("j", 2)] rfl sc_identity.nd (di_range1 (dd_var (emb := D.int) 0 rfl) Tx.b_range) (by exact ⟨rfl, rfl, trivial⟩) (fun _ _ _ _ _ c_2 => (dgc_name 2 sc_identity.nd)) (fun _ _ _ _ _ c_2 => dts_nil) (fun _ _ _ _ _ c_2 => df_of_dd (dd_if (dt_eqI (dd_var (emb := D.int) 1 rfl) (dd_var (emb := D.int) 2 rfl)) dd_int dd_int)))))) (g := fun r => r) (fun _ => rfl) trivial trivial)

theorem sc__without : FnScope ["row", "factor", "pivot_row", "j"] ["row", "factor", "pivot_row"] (defScope s__without) := ⟨rfl, rfl, rfl, by decide +kernel, rfl, by decide +kernel, by decide +kernel⟩
noncomputable def _without (row : (List Int)) (factor : Int) (pivot_row : (List Int)) : R (List Int) :=
  ((((R.ok row >>= fun xs => .ok (xs.length : Int)) >>= fun n => ofO (rangeO 0 n)) >>= fun xs => compR (fun c_1 : Int => R.ok true) (fun c_1 : Int => ((R.ok row >>= fun xs => R.ok c_1 >>= fun i => ofO (atI xs i)) >>= fun x => ((R.ok factor >>= fun x => ((R.ok pivot_row >>= fun xs => R.ok c_1 >>= fun i => ofO (atI xs i)) >>= fun x => R.ok () >>= fun y => .ok (x, y)) >>= fun y => .ok (x, y)) >>= fun p : Int × Int × Unit => (mul p.1 p.2.1)) >>= fun y => .ok (Builtin.bitXor x y))) xs) >>= fun r => .ok (r))
theorem ok__without (Tx : Tx K mg) : FnOk P w K mg base (L2.CX P w) 2 Tx.a__without Tx.d__without ["row", "factor", "pivot_row"]
    (SpF ⟨K, mg⟩ (fun p : (List Int) × Int × (List Int) × Unit => [D.lst ((p.1).map D.int), D.int p.2.1, D.lst ((p.2.2.1).map D.int)]) (fun r : (List Int) => .lst ((r).map fun x => .imm (D.int x))) (fun p => _without p.1 p.2.1 p.2.2.1)) := by
  refine fn_pure Tx.F__without sc__without (fun _ => rfl) fun cdv A outer s H E hr p => ?_
  obtain ⟨row, factor, pivot_row, _⟩ := p
  exact bk_as [.ow (.imm (D.lst ((row).map D.int))), .ow (.imm (D.int factor)), .ow (.imm (D.lst ((pivot_row).map D.int))), .un] rfl (bk_ret (df_lc (put := fun c_1 : Int => [.ow (.imm (D.lst ((row).map D.int))), .ow (.imm (D.int factor)), .ow (.imm (D.lst ((pivot_row).map D.int))), .ow (.imm (D.int c_1))]) (N' := ["row", "factor", "pivot_row", "j"]) (sc' := defScope s__without) (ei := D.int) (et := fun y => .imm (D.int y)) [("j", 3)] rfl sc__without.nd (di_range1 (dd_lenL (ei := D.int) (dl_imm (ei := D.int) (dd_var (emb := (fun xs : (List Int) => D.lst (xs.map D.int))) 0 rfl)) Tx.b_len) Tx.b_range) (by exact ⟨rfl, rfl, rfl, trivial⟩) (fun _ _ _ _ _ c_1 => (dgc_name 3 sc__without.nd)) (fun _ _ _ _ _ c_1 => dts_nil) (fun _ _ _ _ _ c_1 => df_of_dd (dd_xor (dd_ixL (ei := D.int) (dl_imm (ei := D.int) (dd_var (emb := (fun xs : (List Int) => D.lst (xs.map D.int))) 0 rfl)) (dd_var (emb := D.int) 3 rfl)) (dd_imm (df_call (ok_mul Tx) (hr.mono (by decide)) Tx.g_mul Tx.F_mul.kp Tx.b_mul takes0 (da_cons (dd_var (emb := D.int) 1 rfl) (da_cons (dd_ixL (ei := D.int) (dl_imm (ei := D.int) (dd_var (emb := (fun xs : (List Int) => D.lst (xs.map D.int))) 2 rfl)) (dd_var (emb := D.int) 3 rfl)) da_nil))))))) (g := fun r => r) (fun _ => rfl) trivial trivial)

theorem sc__reduce : FnScope ["a", "width", "rows", "pivots", "column", "top", "found", "scale", "i", "factor", "row", "octet"] ["a", "width"] (defScope s__reduce) := ⟨rfl, rfl, rfl, by decide +kernel, rfl, by decide +kernel, by decide +kernel⟩
noncomputable def _reduce (a_q : (List (List Int))) (width : Int) : R ((List (List Int)) × (List Int)) :=
  ((R.ok a_q >>= fun xs => compR (fun c_2 : (List Int) => R.ok true) (fun c_2 : (List Int) => R.ok c_2) xs) >>= fun rows_1 => ((R.ok () >>= fun p => .ok ((fun p : Unit => ([] : List Int)) p)) >>= fun pivots_3 => (((R.ok width >>= fun n => ofO (rangeO 0 n)) >>= fun xs => forS (fun (x_5 : Int) (s_4 : (List (List Int)) × (List Int)) => ((R.ok s_4.2 >>= fun xs => .ok (xs.length : Int)) >>= fun top_6 => (R.ok top_6 >>= fun found_7 => (whileS (fun s_8 : Int => ((R.ok s_8 >>= fun x => (R.ok s_4.1 >>= fun xs => .ok (xs.length : Int)) >>= fun y => .ok (decide (x < y))) >>= fun x => if x then (((R.ok s_4.1 >>= fun xs => R.ok s_8 >>= fun i => ofO (atI xs i)) >>= fun xs => R.ok x_5 >>= fun i => ofO (atI xs i)) >>= fun x => R.ok (0 : Int) >>= fun y => .ok (decide (x = y))) else .ok false)) (fun s_8 : Int => ((R.ok (1 : Int) >>= fun y => ofO ((fun x y => some (x + y)) s_8 y)) >>= fun found_9 => R.ok found_9)) found_7 >>= fun s_10 : Int => ((R.ok s_10 >>= fun x => (R.ok s_4.1 >>= fun xs => .ok (xs.length : Int)) >>= fun y => .ok (decide (x = y))) >>= fun x => if x then R.ok (s_4.1, s_4.2) else ((((R.ok s_4.1 >>= fun xs => R.ok s_10 >>= fun i => ofO (atI xs i)) >>= fun x => ((R.ok s_4.1 >>= fun xs => R.ok top_6 >>= fun i => ofO (atI xs i)) >>= fun x => R.ok () >>= fun y => .ok (x, y)) >>= fun y => .ok (x, y)) >>= fun x : (List Int) × (List Int) × Unit => ofO ((setO s_4.1 top_6 x.1).bind fun t => setO t s_10 x.2.1)) >>= fun rows_12 => (((((R.ok rows_12 >>= fun xs => R.ok top_6 >>= fun i => ofO (atI xs i)) >>= fun xs => R.ok x_5 >>= fun i => ofO (atI xs i)) >>= fun x => R.ok () >>= fun y => .ok (x, y)) >>= fun p : Int × Unit => (inv p.1)) >>= fun scale_13 => ((((R.ok rows_12 >>= fun xs => R.ok top_6 >>= fun i => ofO (atI xs i)) >>= fun xs => compR (fun c_15 : Int => R.ok true) (fun c_15 : Int => ((R.ok scale_13 >>= fun x => (R.ok c_15 >>= fun x => R.ok () >>= fun y => .ok (x, y)) >>= fun y => .ok (x, y)) >>= fun p : Int × Int × Unit => (mul p.1 p.2.1))) xs) >>= fun x => R.ok top_6 >>= fun k => ofO (setO rows_12 k x)) >>= fun rows_14 => ((((R.ok rows_14 >>= fun xs => .ok (xs.length : Int)) >>= fun n => ofO (rangeO 0 n)) >>= fun xs => forS (fun (x_17 : Int) (s_16 : (List (List Int))) => (((R.ok s_16 >>= fun xs => R.ok x_17 >>= fun i => ofO (atI xs i)) >>= fun xs => R.ok x_5 >>= fun i => ofO (atI xs i)) >>= fun factor_18 => ((((R.ok x_17 >>= fun x => R.ok top_6 >>= fun y => .ok (!decide (x = y))) >>= fun x => if x then (R.ok factor_18 >>= fun x => .ok (x != 0)) else .ok false) >>= fun x => if x then (((((R.ok s_16 >>= fun xs => R.ok x_17 >>= fun i => ofO (atI xs i)) >>= fun x => (R.ok factor_18 >>= fun x => ((R.ok s_16 >>= fun xs => R.ok top_6 >>= fun i => ofO (atI xs i)) >>= fun x => R.ok () >>= fun y => .ok (x, y)) >>= fun y => .ok (x, y)) >>= fun y => .ok (x, y)) >>= fun p : (List Int) × Int × (List Int) × Unit => (_without p.1 p.2.1 p.2.2.1)) >>= fun x => R.ok x_17 >>= fun k => ofO (setO s_16 k x)) >>= fun rows_20 => R.ok rows_20) else R.ok s_16) >>= fun j_19 : (List (List Int)) => R.ok j_19))) xs rows_14) >>= fun s_21 : (List (List Int)) => ((R.ok x_5 >>= fun x => ofO (appO s_4.2 x)) >>= fun pivots_22 => R.ok (s_21, pivots_22))))))))))) xs (rows_1, pivots_3)) >>= fun s_23 : (List (List Int)) × (List Int) => (((R.ok s_23.1 >>= fun x => (R.ok s_23.2 >>= fun x => R.ok () >>= fun y => .ok (x, y)) >>= fun y => .ok (x, y)) >>= fun p => .ok ((fun p : (List (List Int)) × (List Int) × Unit => ((p.1, p.2.1) : ((List (List Int)) × (List Int)))) p)) >>= fun r => .ok (r)))))
theorem ok__reduce (Tx : Tx K mg) : FnOk P w K mg base (L2.CX P w) 4 Tx.a__reduce Tx.d__reduce ["a", "width"]
    (SpF ⟨K, mg⟩ (fun p : (List (List Int)) × Int × Unit => [D.lst ((p.1).map (fun xs : (List Int) => D.lst (xs.map D.int))), D.int p.2.1]) (fun r : ((List (List Int)) × (List Int)) => .imm (D.tup [D.lst ((r.1).map (fun xs : (List Int) => D.lst (xs.map D.int))), D.lst ((r.2).map D.int)])) (fun p => _reduce p.1 p.2.1)) := by
  refine fn_pure Tx.F__reduce sc__reduce (fun _ => rfl) fun cdv A outer s H E hr p => ?_
  obtain ⟨a_q, width, _⟩ := p
  exact bk_as [.ow (.imm (D.lst ((a_q).map (fun xs : (List Int) => D.lst (xs.map D.int))))), .ow (.imm (D.int width)), .un, .un, .un, .un, .un, .un, .un, .un, .un, .un] rfl (bk_cons (st_setLc (put := fun c_2 : (List Int) => [.ow (.imm (D.lst ((a_q).map (fun xs : (List Int) => D.lst (xs.map D.int))))), .ow (.imm (D.int width)), .un, .un, .un, .un, .un, .un, .un, .un, .ow (.imm (D.lst ((c_2).map D.int))), .un]) (N' := ["a", "width", "rows", "pivots", "column", "top", "found", "scale", "i", "factor", "row", "octet"]) (sc' := defScope s__reduce) (ei := (fun xs : (List Int) => D.lst (xs.map D.int))) (et := fun y => .imm ((fun xs : (List Int) => D.lst (xs.map D.int)) y)) 2 [("row", 10)] rfl sc__reduce.nd (di_list (ei := (fun xs : (List Int) => D.lst (xs.map D.int))) (dd_var (emb := (fun xs : (List (List Int)) => D.lst (xs.map (fun xs : (List Int) => D.lst (xs.map D.int))))) 0 rfl)) (fun _ _ _ _ _ c_2 => (dgc_name 10 sc__reduce.nd)) (fun _ _ _ _ _ c_2 => dts_nil) (fun _ _ _ _ _ c_2 => df_of_dd (dd_list (ε := D.int) (df_listL (ei := D.int) (dl_imm (ei := D.int) (dd_var (emb := (fun xs : (List Int) => D.lst (xs.map D.int))) 10 rfl)) Tx.b_list))) trivial) fun rows_1 => bk_cons (st_set 3 (df_disp (ei := D.int) da_nil (fun p : Unit => ([] : List Int))) trivial rfl sc__reduce.nd) fun pivots_3 => bk_cons (Γ1 := fun s_4 : (List (List Int)) × (List Int) => [.ow (.imm (D.lst ((a_q).map (fun xs : (List Int) => D.lst (xs.map D.int))))), .ow (.imm (D.int width)), .ow (.lst ((s_4.1).map fun x => .imm ((fun xs : (List Int) => D.lst (xs.map D.int)) x))), .ow (.lst ((s_4.2).map fun x => .imm (D.int x))), .un, .un, .un, .un, .un, .un, .un, .un]) (st_forS (Γs := fun s_4 : (List (List Int)) × (List Int) => [.ow (.imm (D.lst ((a_q).map (fun xs : (List Int) => D.lst (xs.map D.int))))), .ow (.imm (D.int width)), .ow (.lst ((s_4.1).map fun x => .imm ((fun xs : (List Int) => D.lst (xs.map D.int)) x))), .ow (.lst ((s_4.2).map fun x => .imm (D.int x))), .un, .un, .un, .un, .un, .un, .un, .un]) (ei := D.int) (rows_1, pivots_3) (passes_of rfl) rfl (di_range1 (dd_var (emb := D.int) 1 rfl) Tx.b_range) (fun s_4 x_5 => (dg_name 4 sc__reduce.nd)) (fun s_4 x_5 => bk_cons (st_set 5 (df_of_dd (dd_lenL (ei := D.int) (dl_own (ei := D.int) (db_var (emb := (fun xs : (List Int) => T.lst (xs.map fun x => T.imm (D.int x)))) 3 rfl)) Tx.b_len)) trivial rfl sc__reduce.nd) fun top_6 => bk_cons (st_set 6 (df_of_dd (dd_var (emb := D.int) 5 rfl)) trivial rfl sc__reduce.nd) fun found_7 => bk_cons (Γ1 := fun s_8 : Int => [.ow (.imm (D.lst ((a_q).map (fun xs : (List Int) => D.lst (xs.map D.int))))), .ow (.imm (D.int width)), .ow (.lst ((s_4.1).map fun x => .imm ((fun xs : (List Int) => D.lst (xs.map D.int)) x))), .ow (.lst ((s_4.2).map fun x => .imm (D.int x))), .ow (.imm (D.int x_5)), .ow (.imm (D.int top_6)), .ow (.imm (D.int s_8)), .un, .un, .un, .un, .un]) (st_whileS (Γs := fun s_8 : Int => [.ow (.imm (D.lst ((a_q).map (fun xs : (List Int) => D.lst (xs.map D.int))))), .ow (.imm (D.int width)), .ow (.lst ((s_4.1).map fun x => .imm ((fun xs : (List Int) => D.lst (xs.map D.int)) x))), .ow (.lst ((s_4.2).map fun x => .imm (D.int x))), .ow (.imm (D.int x_5)), .ow (.imm (D.int top_6)), .ow (.imm (D.int s_8)), .un, .un, .un, .un, .un]) found_7 (passes_of rfl) (fun s_8 => (dt_dw (dw_and (dt_lt (dd_var (emb := D.int) 6 rfl) (dd_lenL (ei := (fun xs : (List Int) => D.lst (xs.map D.int))) (dl_own (ei := (fun xs : (List Int) => D.lst (xs.map D.int))) (db_var (emb := (fun xs : (List (List Int)) => T.lst (xs.map fun x => T.imm ((fun xs : (List Int) => D.lst (xs.map D.int)) x)))) 2 rfl)) Tx.b_len)) (dw_one (dt_eqI (dd_ixL (ei := D.int) (dl_imm (ei := D.int) (dd_ixL (ei := (fun xs : (List Int) => D.lst (xs.map D.int))) (dl_own (ei := (fun xs : (List Int) => D.lst (xs.map D.int))) (db_var (emb := (fun xs : (List (List Int)) => T.lst (xs.map fun x => T.imm ((fun xs : (List Int) => D.lst (xs.map D.int)) x)))) 2 rfl)) (dd_var (emb := D.int) 6 rfl))) (dd_var (emb := D.int) 4 rfl)) dd_int) (by first | exact .inl rfl | exact .inr rfl))))) (fun s_8 => bk_cons (st_aug aug_add 6 rfl dd_int trivial sc__reduce.nd) fun found_9 => bk_nil (o := found_9) rfl ⟨rfl, rfl, rfl, rfl, rfl, rfl, rfl, trivial⟩) ⟨rfl, rfl, rfl, rfl, rfl, rfl, rfl, trivial⟩ (fun _ => trivial)) fun s_10 => bk_ifX (dt_eqI (dd_var (emb := D.int) 6 rfl) (dd_lenL (ei := (fun xs : (List Int) => D.lst (xs.map D.int))) (dl_own (ei := (fun xs : (List Int) => D.lst (xs.map D.int))) (db_var (emb := (fun xs : (List (List Int)) => T.lst (xs.map fun x => T.imm ((fun xs : (List Int) => D.lst (xs.map D.int)) x)))) 2 rfl)) Tx.b_len)) (bk_cont (o := (s_4.1, s_4.2)) rfl ⟨rfl, rfl, rfl, rfl, trivial⟩) (bk_cons (st_tupC (put := fun rows_12 : (List (List Int)) => [.ow (.imm (D.lst ((a_q).map (fun xs : (List Int) => D.lst (xs.map D.int))))), .ow (.imm (D.int width)), .ow (.lst ((rows_12).map fun x => .imm ((fun xs : (List Int) => D.lst (xs.map D.int)) x))), .ow (.lst ((s_4.2).map fun x => .imm (D.int x))), .ow (.imm (D.int x_5)), .ow (.imm (D.int top_6)), .ow (.imm (D.int s_10)), .un, .un, .un, .un, .un]) (ets := fun x : (List Int) × (List Int) × Unit => [.imm (D.lst ((x.1).map D.int)), .imm (D.lst ((x.2.1).map D.int))]) (ck := fun x : (List Int) × (List Int) × Unit => (setO s_4.1 top_6 x.1).bind fun t => setO t s_10 x.2.1) rfl (daf_cons (df_of_dd (dd_ixL (ei := (fun xs : (List Int) => D.lst (xs.map D.int))) (dl_own (ei := (fun xs : (List Int) => D.lst (xs.map D.int))) (db_var (emb := (fun xs : (List (List Int)) => T.lst (xs.map fun x => T.imm ((fun xs : (List Int) => D.lst (xs.map D.int)) x)))) 2 rfl)) (dd_var (emb := D.int) 6 rfl))) (daf_cons (df_of_dd (dd_ixL (ei := (fun xs : (List Int) => D.lst (xs.map D.int))) (dl_own (ei := (fun xs : (List Int) => D.lst (xs.map D.int))) (db_var (emb := (fun xs : (List (List Int)) => T.lst (xs.map fun x => T.imm ((fun xs : (List Int) => D.lst (xs.map D.int)) x)))) 2 rfl)) (dd_var (emb := D.int) 5 rfl))) daf_nil)) (fun x z hz => by obtain ⟨t1, hz, h1⟩ := Option.bind_eq_some_iff.mp hz; have h0 := hz; exact (dgxs_cons (dgx_ixn (ei := (fun xs : (List Int) => D.lst (xs.map D.int))) 2 5 rfl rfl h0) (dgxs_cons (dgx_ixn (ei := (fun xs : (List Int) => D.lst (xs.map D.int))) 2 6 rfl rfl h1) dgxs_nil))) trivial) fun rows_12 => bk_cons (st_set 7 (df_of_dd (dd_imm (df_call (ok_inv Tx) (hr.mono (by decide)) Tx.g_inv Tx.F_inv.kp Tx.b_inv (takes_of rfl rfl rfl rfl) (da_cons (dd_ixL (ei := D.int) (dl_imm (ei := D.int) (dd_ixL (ei := (fun xs : (List Int) => D.lst (xs.map D.int))) (dl_own (ei := (fun xs : (List Int) => D.lst (xs.map D.int))) (db_var (emb := (fun xs : (List (List Int)) => T.lst (xs.map fun x => T.imm ((fun xs : (List Int) => D.lst (xs.map D.int)) x)))) 2 rfl)) (dd_var (emb := D.int) 5 rfl))) (dd_var (emb := D.int) 4 rfl)) da_nil)))) trivial rfl sc__reduce.nd) fun scale_13 => bk_as [.ow (.imm (D.lst ((a_q).map (fun xs : (List Int) => D.lst (xs.map D.int))))), .ow (.imm (D.int width)), .ow (.lst ((rows_12).map fun x => .imm ((fun xs : (List Int) => D.lst (xs.map D.int)) x))), .ow (.lst ((s_4.2).map fun x => .imm (D.int x))), .ow (.imm (D.int x_5)), .ow (.imm (D.int top_6)), .ow (.imm (D.int s_10)), .ow (.imm (D.int scale_13)), .un, .un, .un, .un] rfl (bk_cons (st_setix (ei := (fun xs : (List Int) => D.lst (xs.map D.int))) 2 rfl (dd_list (ε := D.int) (df_lc (put := fun c_15 : Int => [.ow (.imm (D.lst ((a_q).map (fun xs : (List Int) => D.lst (xs.map D.int))))), .ow (.imm (D.int width)), .ow (.lst ((rows_12).map fun x => .imm ((fun xs : (List Int) => D.lst (xs.map D.int)) x))), .ow (.lst ((s_4.2).map fun x => .imm (D.int x))), .ow (.imm (D.int x_5)), .ow (.imm (D.int top_6)), .ow (.imm (D.int s_10)), .ow (.imm (D.int scale_13)), .un, .un, .un, .ow (.imm (D.int c_15))]) (N' := ["a", "width", "rows", "pivots", "column", "top", "found", "scale", "i", "factor", "row", "octet"]) (sc' := defScope s__reduce) (ei := D.int) (et := fun y => .imm (D.int y)) [("octet", 11)] rfl sc__reduce.nd (di_list (ei := D.int) (dd_ixL (ei := (fun xs : (List Int) => D.lst (xs.map D.int))) (dl_own (ei := (fun xs : (List Int) => D.lst (xs.map D.int))) (db_var (emb := (fun xs : (List (List Int)) => T.lst (xs.map fun x => T.imm ((fun xs : (List Int) => D.lst (xs.map D.int)) x)))) 2 rfl)) (dd_var (emb := D.int) 5 rfl))) (by exact ⟨rfl, rfl, rfl, rfl, rfl, rfl, rfl, rfl, trivial⟩) (fun _ _ _ _ _ c_15 => (dgc_name 11 sc__reduce.nd)) (fun _ _ _ _ _ c_15 => dts_nil) (fun _ _ _ _ _ c_15 => df_of_dd (dd_imm (df_call (ok_mul Tx) (hr.mono (by decide)) Tx.g_mul Tx.F_mul.kp Tx.b_mul takes0 (da_cons (dd_var (emb := D.int) 7 rfl) (da_cons (dd_var (emb := D.int) 11 rfl) da_nil))))))) (dd_var (emb := D.int) 5 rfl) trivial) fun rows_14 => bk_cons (Γ1 := fun s_16 : (List (List Int)) => [.ow (.imm (D.lst ((a_q).map (fun xs : (List Int) => D.lst (xs.map D.int))))), .ow (.imm (D.int width)), .ow (.lst ((s_16).map fun x => .imm ((fun xs : (List Int) => D.lst (xs.map D.int)) x))), .ow (.lst ((s_4.2).map fun x => .imm (D.int x))), .ow (.imm (D.int x_5)), .ow (.imm (D.int top_6)), .ow (.imm (D.int s_10)), .ow (.imm (D.int scale_13)), .un, .un, .un, .un]) (st_forS (Γs := fun s_16 : (List (List Int)) => [.ow (.imm (D.lst ((a_q).map (fun xs : (List Int) => D.lst (xs.map D.int))))), .ow (.imm (D.int width)), .ow (.lst ((s_16).map fun x => .imm ((fun xs : (List Int) => D.lst (xs.map D.int)) x))), .ow (.lst ((s_4.2).map fun x => .imm (D.int x))), .ow (.imm (D.int x_5)), .ow (.imm (D.int top_6)), .ow (.imm (D.int s_10)), .ow (.imm (D.int scale_13)), .un, .un, .un, .un]) (ei := D.int) rows_14 (passes_of rfl) rfl (di_range1 (dd_lenL (ei := (fun xs : (List Int) => D.lst (xs.map D.int))) (dl_own (ei := (fun xs : (List Int) => D.lst (xs.map D.int))) (db_var (emb := (fun xs : (List (List Int)) => T.lst (xs.map fun x => T.imm ((fun xs : (List Int) => D.lst (xs.map D.int)) x)))) 2 rfl)) Tx.b_len) Tx.b_range) (fun s_16 x_17 => (dg_name 8 sc__reduce.nd)) (fun s_16 x_17 => bk_cons (st_set 9 (df_of_dd (dd_ixL (ei := D.int) (dl_imm (ei := D.int) (dd_ixL (ei := (fun xs : (List Int) => D.lst (xs.map D.int))) (dl_own (ei := (fun xs : (List Int) => D.lst (xs.map D.int))) (db_var (emb := (fun xs : (List (List Int)) => T.lst (xs.map fun x => T.imm ((fun xs : (List Int) => D.lst (xs.map D.int)) x)))) 2 rfl)) (dd_var (emb := D.int) 8 rfl))) (dd_var (emb := D.int) 4 rfl))) trivial rfl sc__reduce.nd) fun factor_18 => bk_cons (Γ1 := fun j_19 : (List (List Int)) => [.ow (.imm (D.lst ((a_q).map (fun xs : (List Int) => D.lst (xs.map D.int))))), .ow (.imm (D.int width)), .ow (.lst ((j_19).map fun x => .imm ((fun xs : (List Int) => D.lst (xs.map D.int)) x))), .ow (.lst ((s_4.2).map fun x => .imm (D.int x))), .ow (.imm (D.int x_5)), .ow (.imm (D.int top_6)), .ow (.imm (D.int s_10)), .ow (.imm (D.int scale_13)), .ow (.imm (D.int x_17)), .ow (.imm (D.int factor_18)), .un, .un]) (st_if (dt_dw (dw_and (dt_neI (dd_var (emb := D.int) 8 rfl) (dd_var (emb := D.int) 5 rfl)) (dw_one (dt_int (dd_var (emb := D.int) 9 rfl)) (by first | exact .inl rfl | exact .inr rfl)))) (bk_cons (st_setix (ei := (fun xs : (List Int) => D.lst (xs.map D.int))) 2 rfl (dd_list (ε := D.int) (df_call (ok__without Tx) (hr.mono (by decide)) Tx.g__without Tx.F__without.kp Tx.b__without (takes_of rfl rfl rfl rfl) (da_cons (ea := (fun xs : (List Int) => D.lst (xs.map D.int))) (dd_ixL (ei := (fun xs : (List Int) => D.lst (xs.map D.int))) (dl_own (ei := (fun xs : (List Int) => D.lst (xs.map D.int))) (db_var (emb := (fun xs : (List (List Int)) => T.lst (xs.map fun x => T.imm ((fun xs : (List Int) => D.lst (xs.map D.int)) x)))) 2 rfl)) (dd_var (emb := D.int) 8 rfl)) (da_cons (dd_var (emb := D.int) 9 rfl) (da_cons (ea := (fun xs : (List Int) => D.lst (xs.map D.int))) (dd_ixL (ei := (fun xs : (List Int) => D.lst (xs.map D.int))) (dl_own (ei := (fun xs : (List Int) => D.lst (xs.map D.int))) (db_var (emb := (fun xs : (List (List Int)) => T.lst (xs.map fun x => T.imm ((fun xs : (List Int) => D.lst (xs.map D.int)) x)))) 2 rfl)) (dd_var (emb := D.int) 5 rfl)) da_nil))))) (dd_var (emb := D.int) 8 rfl) trivial) fun rows_20 => bk_nil (o := rows_20) rfl ⟨rfl, rfl, rfl, rfl, rfl, rfl, rfl, rfl, rfl, rfl, trivial⟩) (bk_nil (o := s_16) rfl ⟨rfl, rfl, rfl, rfl, rfl, rfl, rfl, rfl, rfl, rfl, trivial⟩) trivial) fun j_19 => bk_nil (o := j_19) rfl ⟨rfl, rfl, rfl, rfl, rfl, rfl, rfl, rfl, trivial⟩) ⟨rfl, rfl, rfl, rfl, rfl, rfl, rfl, rfl, trivial⟩ trivial) fun s_21 => bk_cons (st_append (ei := D.int) 3 rfl (dd_var (emb := D.int) 4 rfl) trivial) fun pivots_22 => bk_nil (o := (s_21, pivots_22)) rfl ⟨rfl, rfl, rfl, rfl, trivial⟩)) trivial) ⟨rfl, rfl, rfl, rfl, trivial⟩ trivial) fun s_23 => bk_freezeL (ei := (fun xs : (List Int) => D.lst (xs.map D.int))) 2 rfl (bk_freezeL (ei := D.int) 3 rfl (bk_ret (df_of_dd (dd_tup (et := (fun p : ((List (List Int)) × (List Int)) => D.tup [D.lst ((p.1).map (fun xs : (List Int) => D.lst (xs.map D.int))), D.lst ((p.2).map D.int)])) (da_cons (dd_var (emb := (fun xs : (List (List Int)) => D.lst (xs.map (fun xs : (List Int) => D.lst (xs.map D.int))))) 2 rfl) (da_cons (dd_var (emb := (fun xs : (List Int) => D.lst (xs.map D.int))) 3 rfl) da_nil)) (fun p : (List (List Int)) × (List Int) × Unit => ((p.1, p.2.1) : ((List (List Int)) × (List Int)))))) (g := fun r => r) (fun _ => rfl) trivial trivial)))

theorem sc_inverse : FnScope ["a", "size", "unit", "rows", "pivots", "row", "i"] ["a"] (defScope s_inverse) := ⟨rfl, rfl, rfl, by decide +kernel, rfl, by decide +kernel, by decide +kernel⟩
noncomputable def inverse (a_q : (List (List Int))) : R (List (List Int)) :=
  ((R.ok a_q >>= fun xs => .ok (xs.length : Int)) >>= fun size_1 => ((((R.ok a_q >>= fun xs => R.ok (0 : Int) >>= fun i => ofO (atI xs i)) >>= fun xs => .ok (xs.length : Int)) >>= fun x => R.ok size_1 >>= fun y => .ok (!decide (x = y))) >>= fun x => if x then R.err ("ShapeMismatch" : Str) else (((R.ok size_1 >>= fun x => R.ok () >>= fun y => .ok (x, y)) >>= fun p : Int × Unit => (identity p.1)) >>= fun unit_2 => (((((R.ok size_1 >>= fun n => ofO (rangeO 0 n)) >>= fun xs => compR (fun c_4 : Int => R.ok true) (fun c_4 : Int => ((R.ok a_q >>= fun xs => R.ok c_4 >>= fun i => ofO (atI xs i)) >>= fun xs => (R.ok unit_2 >>= fun xs => R.ok c_4 >>= fun i => ofO (atI xs i)) >>= fun ys => ofO (catO xs ys))) xs) >>= fun x => (R.ok size_1 >>= fun x => R.ok () >>= fun y => .ok (x, y)) >>= fun y => .ok (x, y)) >>= fun p : (List (List Int)) × Int × Unit => (_reduce p.1 p.2.1)) >>= fun u_3 => (((R.ok u_3.2 >>= fun xs => .ok (xs.length : Int)) >>= fun x => R.ok size_1 >>= fun y => .ok (decide (x < y))) >>= fun x => if x then R.err ("Singular" : Str) else ((R.ok u_3.1 >>= fun xs => compR (fun c_5 : (List Int) => R.ok true) (fun c_5 : (List Int) => (R.ok c_5 >>= fun xs => (R.ok size_1 >>= fun i => .ok (some i)) >>= fun i => R.ok none >>= fun j => .ok (cutL xs i j))) xs) >>= fun r => .ok (r)))))))
theorem ok_inverse (Tx : Tx K mg) : FnOk P w K mg base (L2.CX P w) 5 Tx.a_inverse Tx.d_inverse ["a"]
    (SpF ⟨K, mg⟩ (fun p : (List (List Int)) × Unit => [D.lst ((p.1).map (fun xs : (List Int) => D.lst (xs.map D.int)))]) (fun r : (List (List Int)) => .lst ((r).map fun x => .imm ((fun xs : (List Int) => D.lst (xs.map D.int)) x))) (fun p => inverse p.1)) := by
  refine fn_pure Tx.F_inverse sc_inverse (fun _ => rfl) fun cdv A outer s H E hr p => ?_
  obtain ⟨a_q, _⟩ := p
  exact bk_cons (st_set 1 (df_of_dd (dd_lenL (ei := (fun xs : (List Int) => D.lst (xs.map D.int))) (dl_imm (ei := (fun xs : (List Int) => D.lst (xs.map D.int))) (dd_var (emb := (fun xs : (List (List Int)) => D.lst (xs.map (fun xs : (List Int) => D.lst (xs.map D.int))))) 0 rfl)) Tx.b_len)) trivial rfl sc_inverse.nd) fun size_1 => bk_ifX (dt_neI (dd_lenL (ei := D.int) (dl_imm (ei := D.int) (dd_ixL (ei := (fun xs : (List Int) => D.lst (xs.map D.int))) (dl_imm (ei := (fun xs : (List Int) => D.lst (xs.map D.int))) (dd_var (emb := (fun xs : (List (List Int)) => D.lst (xs.map (fun xs : (List Int) => D.lst (xs.map D.int))))) 0 rfl)) dd_int)) Tx.b_len) (dd_var (emb := D.int) 1 rfl)) (bk_raise Tx.x_ShapeMismatch rfl (takes_of rfl rfl rfl rfl) trivial) (bk_cons (st_set 2 (df_call (ok_identity Tx) (hr.mono (by decide)) Tx.g_identity Tx.F_identity.kp Tx.b_identity (takes_of rfl rfl rfl rfl) (da_cons (dd_var (emb := D.int) 1 rfl) da_nil)) trivial rfl sc_inverse.nd) fun unit_2 => bk_as [.ow (.imm (D.lst ((a_q).map (fun xs : (List Int) => D.lst (xs.map D.int))))), .ow (.imm (D.int size_1)), .ow (.lst ((unit_2).map fun x => .imm ((fun xs : (List Int) => D.lst (xs.map D.int)) x))), .un, .un, .un, .un] rfl (bk_cons (st_asg (dd_imm (df_call (ok__reduce Tx) (hr.mono (by decide)) Tx.g__reduce Tx.F__reduce.kp Tx.b__reduce (takes_of rfl rfl rfl rfl) (da_cons (ea := (fun xs : (List (List Int)) => D.lst (xs.map (fun xs : (List Int) => D.lst (xs.map D.int))))) (dd_list (ε := (fun xs : (List Int) => D.lst (xs.map D.int))) (df_lc (put := fun c_4 : Int => [.ow (.imm (D.lst ((a_q).map (fun xs : (List Int) => D.lst (xs.map D.int))))), .ow (.imm (D.int size_1)), .ow (.lst ((unit_2).map fun x => .imm ((fun xs : (List Int) => D.lst (xs.map D.int)) x))), .un, .un, .un, .ow (.imm (D.int c_4))]) (N' := ["a", "size", "unit", "rows", "pivots", "row", "i"]) (sc' := defScope s_inverse) (ei := D.int) (et := fun y => .imm ((fun xs : (List Int) => D.lst (xs.map D.int)) y)) [("i", 6)] rfl sc_inverse.nd (di_range1 (dd_var (emb := D.int) 1 rfl) Tx.b_range) (by exact ⟨rfl, rfl, rfl, trivial⟩) (fun _ _ _ _ _ c_4 => (dgc_name 6 sc_inverse.nd)) (fun _ _ _ _ _ c_4 => dts_nil) (fun _ _ _ _ _ c_4 => df_of_dd (dd_list (ε := D.int) (df_cat (ei := D.int) (dlt_imm (ei := D.int) (dd_ixL (ei := (fun xs : (List Int) => D.lst (xs.map D.int))) (dl_imm (ei := (fun xs : (List Int) => D.lst (xs.map D.int))) (dd_var (emb := (fun xs : (List (List Int)) => D.lst (xs.map (fun xs : (List Int) => D.lst (xs.map D.int))))) 0 rfl)) (dd_var (emb := D.int) 6 rfl))) (dlt_imm (ei := D.int) (dd_ixL (ei := (fun xs : (List Int) => D.lst (xs.map D.int))) (dl_own (ei := (fun xs : (List Int) => D.lst (xs.map D.int))) (db_var (emb := (fun xs : (List (List Int)) => T.lst (xs.map fun x => T.imm ((fun xs : (List Int) => D.lst (xs.map D.int)) x)))) 2 rfl)) (dd_var (emb := D.int) 6 rfl)))))))) (da_cons (dd_var (emb := D.int) 1 rfl) da_nil)))) (fun u_3 => (dg_tup rfl (dgs_cons (dg_name 3 sc_inverse.nd) (dgs_cons (dg_name 4 sc_inverse.nd) dgs_nil)))) trivial) fun u_3 => bk_ifX (dt_lt (dd_lenL (ei := D.int) (dl_imm (ei := D.int) (dd_var (emb := (fun xs : (List Int) => D.lst (xs.map D.int))) 4 rfl)) Tx.b_len) (dd_var (emb := D.int) 1 rfl)) (bk_raise Tx.x_Singular rfl (takes_of rfl rfl rfl rfl) trivial) (bk_as [.ow (.imm (D.lst ((a_q).map (fun xs : (List Int) => D.lst (xs.map D.int))))), .ow (.imm (D.int size_1)), .ow (.lst ((unit_2).map fun x => .imm ((fun xs : (List Int) => D.lst (xs.map D.int)) x))), .ow (.imm (D.lst ((u_3.1).map (fun xs : (List Int) => D.lst (xs.map D.int))))), .ow (.imm (D.lst ((u_3.2).map D.int))), .un, .un] rfl (bk_ret (df_lc (put := fun c_5 : (List Int) => [.ow (.imm (D.lst ((a_q).map (fun xs : (List Int) => D.lst (xs.map D.int))))), .ow (.imm (D.int size_1)), .ow (.lst ((unit_2).map fun x => .imm ((fun xs : (List Int) => D.lst (xs.map D.int)) x))), .ow (.imm (D.lst ((u_3.1).map (fun xs : (List Int) => D.lst (xs.map D.int))))), .ow (.imm (D.lst ((u_3.2).map D.int))), .ow (.imm (D.lst ((c_5).map D.int))), .un]) (N' := ["a", "size", "unit", "rows", "pivots", "row", "i"]) (sc' := defScope s_inverse) (ei := (fun xs : (List Int) => D.lst (xs.map D.int))) (et := fun y => .imm ((fun xs : (List Int) => D.lst (xs.map D.int)) y)) [("row", 5)] rfl sc_inverse.nd (di_list (ei := (fun xs : (List Int) => D.lst (xs.map D.int))) (dd_var (emb := (fun xs : (List (List Int)) => D.lst (xs.map (fun xs : (List Int) => D.lst (xs.map D.int))))) 3 rfl)) (by exact ⟨rfl, rfl, rfl, rfl, rfl, trivial⟩) (fun _ _ _ _ _ c_5 => (dgc_name 5 sc_inverse.nd)) (fun _ _ _ _ _ c_5 => dts_nil) (fun _ _ _ _ _ c_5 => df_of_dd (dd_list (ε := D.int) (df_slL (ei := D.int) (dl_imm (ei := D.int) (dd_var (emb := (fun xs : (List Int) => D.lst (xs.map D.int))) 5 rfl)) (do_some (dd_var (emb := D.int) 1 rfl)) do_none)))) (g := fun r => r) (fun _ => rfl) trivial trivial)) trivial)) trivial

theorem sc_Code___check_index : FnScope ["self", "i"] ["self", "i"] (defScope s_Code___check_index) := ⟨rfl, rfl, rfl, by decide +kernel, rfl, by decide +kernel, by decide +kernel⟩
noncomputable def Code___check_index (self : OCode) (i_q : Int) : R Unit :=
  (((R.ok i_q >>= fun x => R.ok (0 : Int) >>= fun y => .ok (decide (x < y))) >>= fun x => if x then .ok true else (R.ok i_q >>= fun x => (R.ok self >>= fun y => .ok ((fun y : OCode => y.2.1) y)) >>= fun y => .ok (decide (y ≤ x)))) >>= fun x => if x then R.err ("BadIndex" : Str) else R.ok ())
theorem ok_Code___check_index (Tx : Tx K mg) : FnOk P w K mg base (L2.CX P w) 1 Tx.a_Code___check_index Tx.d_Code___check_index ["self", "i"]
    (SpL ⟨K, mg⟩ (fun p : OCode × Int × Unit => [.tr (eCode p.1), .dt (D.int p.2.1)]) (fun r : Unit => .imm (D.non)) (fun p => Code___check_index p.1 p.2.1)) := by
  refine fn_lookN Tx.F_Code___check_index sc_Code___check_index (fun _ => rfl) fun cdv A outer s H E hr p => ?_
  obtain ⟨self, i_q, _⟩ := p
  exact bk_ifX (dt_dw (dw_or (dt_lt (dd_var (emb := D.int) 1 rfl) dd_int) (dw_one (dt_ge (dd_var (emb := D.int) 1 rfl) (dd_db (emb := D.int) (db_fld (ec := (fun x : Int => T.imm (D.int x))) 1 (fun y : OCode => y.2.1) (db_see (emb := eCode) (x := self) 0 rfl rfl) ⟨Tx.gc_Code, Tx.cl_Code⟩ Tx.na_Code_total))) (by first | exact .inl rfl | exact .inr rfl)))) (bk_raise Tx.x_BadIndex rfl (takes_of rfl rfl rfl rfl) trivial) (bk_nil (o := ()) rfl trivial) trivial

theorem sc_Code__rebuild : FnScope ["self", "pieces", "indexes", "i", "fragments", "matrix", "row"] ["self", "pieces"] (defScope s_Code__rebuild) := ⟨rfl, rfl, rfl, by decide +kernel, rfl, by decide +kernel, by decide +kernel⟩
noncomputable def Code__rebuild (self : OCode) (pieces : (List (Int × (List Int)))) : R (List (List Int)) :=
  ((R.ok pieces >>= fun kvs => ofO (srtK kvs)) >>= fun indexes_1 => ((R.ok indexes_1 >>= fun xs => forS (fun (x_3 : Int) (s_2 : Unit) => ((R.ok self >>= fun y => (R.ok x_3 >>= fun x => R.ok () >>= fun y => .ok (x, y)) >>= fun z : Int × Unit => (Code___check_index y z.1)) >>= fun _ => R.ok ())) xs ()) >>= fun s_4 : Unit => (((R.ok indexes_1 >>= fun xs => .ok (xs.length : Int)) >>= fun x => (R.ok self >>= fun y => .ok ((fun y : OCode => y.1) y)) >>= fun y => .ok (decide (x < y))) >>= fun x => if x then R.err ("NotEnough" : Str) else ((R.ok indexes_1 >>= fun xs => compR (fun c_6 : Int => R.ok true) (fun c_6 : Int => (R.ok pieces >>= fun kvs => R.ok c_6 >>= fun k => ofO (getD_ kvs k))) xs) >>= fun fragments_5 => (((R.ok fragments_5 >>= fun x => R.ok () >>= fun y => .ok (x, y)) >>= fun p : (List (List Int)) × Unit => (_check_lengths p.1)) >>= fun _ => (((((R.ok indexes_1 >>= fun xs => R.ok none >>= fun i => ((R.ok self >>= fun y => .ok ((fun y : OCode => y.1) y)) >>= fun i => .ok (some i)) >>= fun j => .ok (cutL xs i j)) >>= fun xs => compR (fun c_8 : Int => R.ok true) (fun c_8 : Int => ((R.ok self >>= fun y => .ok ((fun y : OCode => y.2.2) y)) >>= fun xs => R.ok c_8 >>= fun i => ofO (atI xs i))) xs) >>= fun x => R.ok () >>= fun y => .ok (x, y)) >>= fun p : (List (List Int)) × Unit => (inverse p.1)) >>= fun matrix_7 => ((R.ok matrix_7 >>= fun xs => compR (fun c_9 : (List Int) => R.ok true) (fun c_9 : (List Int) => ((R.ok c_9 >>= fun x => ((R.ok fragments_5 >>= fun xs => R.ok none >>= fun i => ((R.ok self >>= fun y => .ok ((fun y : OCode => y.1) y)) >>= fun i => .ok (some i)) >>= fun j => .ok (cutL xs i j)) >>= fun x => R.ok () >>= fun y => .ok (x, y)) >>= fun y => .ok (x, y)) >>= fun p : (List Int) × (List (List Int)) × Unit => (_combine p.1 p.2.1))) xs) >>= fun r => .ok (r))))))))
theorem ok_Code__rebuild (Tx : Tx K mg) : FnOk P w K mg base (L2.CX P w) 6 Tx.a_Code__rebuild Tx.d_Code__rebuild ["self", "pieces"]
    (SpL ⟨K, mg⟩ (fun p : OCode × (List (Int × (List Int))) × Unit => [.tr (eCode p.1), .dt (eDic (fun xs : (List Int) => D.lst (xs.map D.int)) p.2.1)]) (fun r : (List (List Int)) => T.lst ((r).map fun x : (List Int) => T.lst ((x).map fun x => .imm (D.int x)))) (fun p => Code__rebuild p.1 p.2.1)) := by
  refine fn_look Tx.F_Code__rebuild sc_Code__rebuild (fun _ => rfl) fun cdv A outer s H E hr p => ?_
  obtain ⟨self, pieces, _⟩ := p
  exact bk_cons (st_set 2 (df_sortedD (ei := (fun xs : (List Int) => D.lst (xs.map D.int))) rfl (dk_imm (dd_var (emb := (eDic (fun xs : (List Int) => D.lst (xs.map D.int)))) 1 rfl)) Tx.b_sorted) trivial rfl sc_Code__rebuild.nd) fun indexes_1 => bk_freezeL (ei := D.int) 2 rfl (bk_cons (Γ1 := fun s_2 : Unit => [.lk (eCode self), .ow (.imm (eDic (fun xs : (List Int) => D.lst (xs.map D.int)) pieces)), .ow (.imm (D.lst ((indexes_1).map D.int))), .un, .un, .un, .un]) (st_forS (Γs := fun s_2 : Unit => [.lk (eCode self), .ow (.imm (eDic (fun xs : (List Int) => D.lst (xs.map D.int)) pieces)), .ow (.imm (D.lst ((indexes_1).map D.int))), .un, .un, .un, .un]) (ei := D.int) () (passes_of rfl) rfl (di_list (ei := D.int) (dd_var (emb := (fun xs : (List Int) => D.lst (xs.map D.int))) 2 rfl)) (fun s_2 x_3 => (dg_name 3 sc_Code__rebuild.nd)) (fun s_2 x_3 => bk_cons (st_expr (db_of_dd (dd_imm (df_methL (g := fun p : OCode × Int × Unit => Code___check_index p.1 p.2.1) (fun y z => (y, z)) (ok_Code___check_index Tx) (hr.mono (by decide)) ⟨Tx.gc_Code, Tx.cl_Code⟩ Tx.h_Code___check_index Tx.b_Code___check_index (takes_of rfl rfl rfl rfl) (db_see (emb := eCode) (x := self) 0 rfl rfl) (dal_dd (dd_var (emb := D.int) 3 rfl) dal_nil) (fun _ => rfl) (by decide) (fun _ _ => rfl) (by exact star_cons rfl) (by exact star_none rfl) _))) trivial) fun _ => bk_nil (o := ()) rfl ⟨rfl, rfl, rfl, trivial⟩) ⟨rfl, rfl, rfl, trivial⟩ trivial) fun s_4 => bk_ifX (dt_lt (dd_lenL (ei := D.int) (dl_imm (ei := D.int) (dd_var (emb := (fun xs : (List Int) => D.lst (xs.map D.int))) 2 rfl)) Tx.b_len) (dd_db (emb := D.int) (db_fld (ec := (fun x : Int => T.imm (D.int x))) 0 (fun y : OCode => y.1) (db_see (emb := eCode) (x := self) 0 rfl rfl) ⟨Tx.gc_Code, Tx.cl_Code⟩ Tx.na_Code_data))) (bk_raise Tx.x_NotEnough rfl (takes_of rfl rfl rfl rfl) trivial) (bk_as [.lk (eCode self), .ow (.imm (eDic (fun xs : (List Int) => D.lst (xs.map D.int)) pieces)), .ow (.imm (D.lst ((indexes_1).map D.int))), .un, .un, .un, .un] rfl (bk_cons (st_set 4 (df_lc (put := fun c_6 : Int => [.lk (eCode self), .ow (.imm (eDic (fun xs : (List Int) => D.lst (xs.map D.int)) pieces)), .ow (.imm (D.lst ((indexes_1).map D.int))), .ow (.imm (D.int c_6)), .un, .un, .un]) (N' := ["self", "pieces", "indexes", "i", "fragments", "matrix", "row"]) (sc' := defScope s_Code__rebuild) (ei := D.int) (et := fun y => .imm ((fun xs : (List Int) => D.lst (xs.map D.int)) y)) [("i", 3)] rfl sc_Code__rebuild.nd (di_list (ei := D.int) (dd_var (emb := (fun xs : (List Int) => D.lst (xs.map D.int))) 2 rfl)) (by exact ⟨rfl, rfl, rfl, trivial⟩) (fun _ _ _ _ _ c_6 => (dgc_name 3 sc_Code__rebuild.nd)) (fun _ _ _ _ _ c_6 => dts_nil) (fun _ _ _ _ _ c_6 => df_of_dd (dd_dget (ei := (fun xs : (List Int) => D.lst (xs.map D.int))) hr.units (dk_imm (dd_var (emb := (eDic (fun xs : (List Int) => D.lst (xs.map D.int)))) 1 rfl)) (dd_var (emb := D.int) 3 rfl)))) trivial rfl sc_Code__rebuild.nd) fun fragments_5 => bk_freezeL (ei := (fun xs : (List Int) => D.lst (xs.map D.int))) 4 rfl (bk_cons (st_expr (db_of_dd (dd_imm (df_call (ok__check_lengths Tx) (hr.mono (by decide)) Tx.g__check_lengths Tx.F__check_lengths.kp Tx.b__check_lengths (takes_of rfl rfl rfl rfl) (da_cons (ea := (fun xs : (List (List Int)) => D.lst (xs.map (fun xs : (List Int) => D.lst (xs.map D.int))))) (dd_var (emb := (fun xs : (List (List Int)) => D.lst (xs.map (fun xs : (List Int) => D.lst (xs.map D.int))))) 4 rfl) da_nil)))) trivial) fun _ => bk_as [.lk (eCode self), .ow (.imm (eDic (fun xs : (List Int) => D.lst (xs.map D.int)) pieces)), .ow (.imm (D.lst ((indexes_1).map D.int))), .un, .ow (.imm (D.lst ((fragments_5).map (fun xs : (List Int) => D.lst (xs.map D.int))))), .un, .un] rfl (bk_cons (st_set 5 (df_call (ok_inverse Tx) (hr.mono (by decide)) Tx.g_inverse Tx.F_inverse.kp Tx.b_inverse (takes_of rfl rfl rfl rfl) (da_cons (ea := (fun xs : (List (List Int)) => D.lst (xs.map (fun xs : (List Int) => D.lst (xs.map D.int))))) (dd_list (ε := (fun xs : (List Int) => D.lst (xs.map D.int))) (df_lc (put := fun c_8 : Int => [.lk (eCode self), .ow (.imm (eDic (fun xs : (List Int) => D.lst (xs.map D.int)) pieces)), .ow (.imm (D.lst ((indexes_1).map D.int))), .ow (.imm (D.int c_8)), .ow (.imm (D.lst ((fragments_5).map (fun xs : (List Int) => D.lst (xs.map D.int))))), .un, .un]) (N' := ["self", "pieces", "indexes", "i", "fragments", "matrix", "row"]) (sc' := defScope s_Code__rebuild) (ei := D.int) (et := fun y => .imm ((fun xs : (List Int) => D.lst (xs.map D.int)) y)) [("i", 3)] rfl sc_Code__rebuild.nd (di_list (ei := D.int) (dd_list (ε := D.int) (df_slL (ei := D.int) (dl_imm (ei := D.int) (dd_var (emb := (fun xs : (List Int) => D.lst (xs.map D.int))) 2 rfl)) do_none (do_some (dd_db (emb := D.int) (db_fld (ec := (fun x : Int => T.imm (D.int x))) 0 (fun y : OCode => y.1) (db_see (emb := eCode) (x := self) 0 rfl rfl) ⟨Tx.gc_Code, Tx.cl_Code⟩ Tx.na_Code_data)))))) (by exact ⟨rfl, rfl, rfl, rfl, trivial⟩) (fun _ _ _ _ _ c_8 => (dgc_name 3 sc_Code__rebuild.nd)) (fun _ _ _ _ _ c_8 => dts_nil) (fun _ _ _ _ _ c_8 => df_of_dd (dd_ixL (ei := (fun xs : (List Int) => D.lst (xs.map D.int))) (dl_imm (ei := (fun xs : (List Int) => D.lst (xs.map D.int))) (dd_db (emb := (fun xs : (List (List Int)) => D.lst (xs.map (fun xs : (List Int) => D.lst (xs.map D.int))))) (db_fld (ec := (fun x : (List (List Int)) => T.imm (D.lst ((x).map (fun xs : (List Int) => D.lst (xs.map D.int)))))) 2 (fun y : OCode => y.2.2) (db_see (emb := eCode) (x := self) 0 rfl rfl) ⟨Tx.gc_Code, Tx.cl_Code⟩ Tx.na_Code_rows))) (dd_var (emb := D.int) 3 rfl))))) da_nil)) trivial rfl sc_Code__rebuild.nd) fun matrix_7 => bk_freezeL (ei := (fun xs : (List Int) => D.lst (xs.map D.int))) 5 rfl (bk_as [.lk (eCode self), .ow (.imm (eDic (fun xs : (List Int) => D.lst (xs.map D.int)) pieces)), .ow (.imm (D.lst ((indexes_1).map D.int))), .un, .ow (.imm (D.lst ((fragments_5).map (fun xs : (List Int) => D.lst (xs.map D.int))))), .ow (.imm (D.lst ((matrix_7).map (fun xs : (List Int) => D.lst (xs.map D.int))))), .un] rfl (bk_ret (df_lc (put := fun c_9 : (List Int) => [.lk (eCode self), .ow (.imm (eDic (fun xs : (List Int) => D.lst (xs.map D.int)) pieces)), .ow (.imm (D.lst ((indexes_1).map D.int))), .un, .ow (.imm (D.lst ((fragments_5).map (fun xs : (List Int) => D.lst (xs.map D.int))))), .ow (.imm (D.lst ((matrix_7).map (fun xs : (List Int) => D.lst (xs.map D.int))))), .ow (.imm (D.lst ((c_9).map D.int)))]) (N' := ["self", "pieces", "indexes", "i", "fragments", "matrix", "row"]) (sc' := defScope s_Code__rebuild) (ei := (fun xs : (List Int) => D.lst (xs.map D.int))) (et := (fun xs : (List Int) => T.lst (xs.map fun x => T.imm (D.int x)))) [("row", 6)] rfl sc_Code__rebuild.nd (di_list (ei := (fun xs : (List Int) => D.lst (xs.map D.int))) (dd_var (emb := (fun xs : (List (List Int)) => D.lst (xs.map (fun xs : (List Int) => D.lst (xs.map D.int))))) 5 rfl)) (by exact ⟨rfl, rfl, rfl, rfl, rfl, trivial⟩) (fun _ _ _ _ _ c_9 => (dgc_name 6 sc_Code__rebuild.nd)) (fun _ _ _ _ _ c_9 => dts_nil) (fun _ _ _ _ _ c_9 => (df_call (ok__combine Tx) (hr.mono (by decide)) Tx.g__combine Tx.F__combine.kp Tx.b__combine takes0 (da_cons (ea := (fun xs : (List Int) => D.lst (xs.map D.int))) (dd_var (emb := (fun xs : (List Int) => D.lst (xs.map D.int))) 6 rfl) (da_cons (ea := (fun xs : (List (List Int)) => D.lst (xs.map (fun xs : (List Int) => D.lst (xs.map D.int))))) (dd_list (ε := (fun xs : (List Int) => D.lst (xs.map D.int))) (df_slL (ei := (fun xs : (List Int) => D.lst (xs.map D.int))) (dl_imm (ei := (fun xs : (List Int) => D.lst (xs.map D.int))) (dd_var (emb := (fun xs : (List (List Int)) => D.lst (xs.map (fun xs : (List Int) => D.lst (xs.map D.int))))) 4 rfl)) do_none (do_some (dd_db (emb := D.int) (db_fld (ec := (fun x : Int => T.imm (D.int x))) 0 (fun y : OCode => y.1) (db_see (emb := eCode) (x := self) 0 rfl rfl) ⟨Tx.gc_Code, Tx.cl_Code⟩ Tx.na_Code_data))))) da_nil))))) (g := fun r => r) (fun _ => rfl) trivial trivial)))))) trivial)

theorem sc_whole_blob : FnScope ["config", "pieces", "size", "code", "lists", "index"] ["config", "pieces", "size"] (defScope s_whole_blob) := ⟨rfl, rfl, rfl, by decide +kernel, rfl, by decide +kernel, by decide +kernel⟩
noncomputable def whole_blob (config : OConfig) (pieces : (List (Int × (List Int)))) (size : Int) : R (List Int) :=
  ((((R.ok config >>= fun y => .ok ((fun y : OConfig => y.2.2.1) y)) >>= fun x => ((R.ok config >>= fun y => .ok ((fun y : OConfig => y.2.1) y)) >>= fun x => R.ok () >>= fun y => .ok (x, y)) >>= fun y => .ok (x, y)) >>= fun y : Int × Int × Unit => Code____init__ y.1 y.2.1 >>= fun r => .ok (y, r)) >>= fun code_1 => ((if List.length pieces < 16777216 then R.ok (cpD pieces [] pieces) else .bad) >>= fun lists_2 => ((R.ok code_1.2 >>= fun y => ((R.ok code_1.2 >>= fun y => (R.ok lists_2 >>= fun x => R.ok () >>= fun y => .ok (x, y)) >>= fun z : (List (Int × (List Int))) × Unit => (Code__rebuild y z.1)) >>= fun x => (R.ok size >>= fun x => R.ok () >>= fun y => .ok (x, y)) >>= fun y => .ok (x, y)) >>= fun z : (List (List Int)) × Int × Unit => (Code__merge y z.1 z.2.1)) >>= fun r => .ok (r))))
theorem ok_whole_blob (Tx : Tx K mg) : FnOk P w K mg base (L2.CX P w) 8 Tx.a_whole_blob Tx.d_whole_blob ["config", "pieces", "size"]
    (SpL ⟨K, mg⟩ (fun p : OConfig × (List (Int × (List Int))) × Int × Unit => [.tr (eConfig p.1), .dt (eDic (fun xs : (List Int) => D.lst (xs.map D.int)) p.2.1), .dt (D.int p.2.2.1)]) (fun r : (List Int) => .lst ((r).map fun x => .imm (D.int x))) (fun p => whole_blob p.1 p.2.1 p.2.2.1)) := by
  refine fn_look Tx.F_whole_blob sc_whole_blob (fun _ => rfl) fun cdv A outer s H E hr p => ?_
  obtain ⟨config, pieces, size, _⟩ := p
  exact bk_cons (st_setX 3 (dx_make (g := fun p : Int × Int × Unit => Code____init__ p.1 p.2.1) (eb := eCode) (pr := fun _ => []) (fun r : OCode => r) (fun z : Int × Int × Unit => z) (fun _ => [.lk (eConfig config), .ow (.imm (eDic (fun xs : (List Int) => D.lst (xs.map D.int)) pieces)), .ow (.imm (D.int size)), .un, .un, .un]) Tx.mk_Code (ok_Code____init__ Tx) (hr.mono (by decide)) ⟨Tx.gc_Code, Tx.cl_Code⟩ Tx.b_Code____init__ (takes_of rfl rfl rfl rfl) (dam_dd (ec := D.int) (dd_db (emb := D.int) (db_fld (ec := (fun x : Int => T.imm (D.int x))) 2 (fun y : OConfig => y.2.2.1) (db_see (emb := eConfig) (x := config) 0 rfl rfl) ⟨Tx.gc_Config, Tx.cl_Config⟩ Tx.na_Config_data)) (dam_dd (ec := D.int) (dd_db (emb := D.int) (db_fld (ec := (fun x : Int => T.imm (D.int x))) 1 (fun y : OConfig => y.2.1) (db_see (emb := eConfig) (x := config) 0 rfl rfl) ⟨Tx.gc_Config, Tx.cl_Config⟩ Tx.na_Config_shelves)) dam_nil)) (fun _ _ => trivial) (fun _ => List.nodup_nil) (fun _ => rfl) (fun _ => rfl) (fun _ _ _ => rfl)) trivial (fun _ => rfl) sc_whole_blob.nd) fun code_1 => bk_as [.lk (eConfig config), .ow (.imm (eDic (fun xs : (List Int) => D.lst (xs.map D.int)) pieces)), .ow (.imm (D.int size)), .ow (eCode code_1.2), .un, .un] rfl (bk_cons (st_setDcopyL (ei := D.int) hr.units 1 5 4 rfl rfl sc_whole_blob.nd Tx.b_list trivial ["config", "pieces", "size", "code", "lists", "index"] (defScope s_whole_blob)) fun lists_2 => bk_freeze (d := eDic (fun xs : (List Int) => D.lst (xs.map D.int)) lists_2) 4 rfl ((fun x => fz_dic x) lists_2) (bk_ret (df_methL (g := fun p : OCode × (List (List Int)) × Int × Unit => Code__merge p.1 p.2.1 p.2.2.1) (fun y z => (y, z)) (ok_Code__merge Tx) (hr.mono (by decide)) ⟨Tx.gc_Code, Tx.cl_Code⟩ Tx.h_Code__merge Tx.b_Code__merge (takes_of rfl rfl rfl rfl) (db_see (emb := eCode) (x := code_1.2) 3 rfl rfl) (dal_dd (dd_of_df (emb' := (fun xs : (List (List Int)) => D.lst (xs.map (fun xs : (List Int) => D.lst (xs.map D.int))))) (df_methL (g := fun p : OCode × (List (Int × (List Int))) × Unit => Code__rebuild p.1 p.2.1) (fun y z => (y, z)) (ok_Code__rebuild Tx) (hr.mono (by decide)) ⟨Tx.gc_Code, Tx.cl_Code⟩ Tx.h_Code__rebuild Tx.b_Code__rebuild (takes_of rfl rfl rfl rfl) (db_see (emb := eCode) (x := code_1.2) 3 rfl rfl) (dal_dd (dd_var (emb := (eDic (fun xs : (List Int) => D.lst (xs.map D.int)))) 4 rfl) dal_nil) (fun _ => rfl) (by decide) (fun _ _ => rfl) (by exact star_cons rfl) (by exact star_none rfl) _) (fun x => fz_lists x)) (dal_dd (dd_var (emb := D.int) 2 rfl) dal_nil)) (fun _ => rfl) (by decide) (fun _ _ => rfl) (by exact star_cons rfl) (by exact star_none rfl) _) (g := fun r => r) (fun _ => rfl) trivial trivial))

theorem sc__law_error : FnScope ["config", "pieces", "size", "e", "told"] ["config", "pieces", "size"] (defScope s__law_error) := ⟨rfl, rfl, rfl, by decide +kernel, rfl, by decide +kernel, by decide +kernel⟩
noncomputable def _law_error (config : OConfig) (pieces : (List (Int × (List Int)))) (size : Int) : R Str :=
  ((catchL [("BadCode", true, (((((R.ok ("" : Str) >>= fun x => (R.ok ("index" : Str) >>= fun x => R.ok () >>= fun y => .ok (x, y)) >>= fun y => .ok (x, y)) >>= fun p => .ok ((fun p : Str × Str × Unit => ([p.1, p.2.1] : List Str)) p)) >>= fun xs => (R.ok false >>= fun b => .ok (if b then 1 else 0)) >>= fun i => ofO (atI xs i)) >>= fun x => (((R.ok ("" : Str) >>= fun x => (R.ok ("few" : Str) >>= fun x => R.ok () >>= fun y => .ok (x, y)) >>= fun y => .ok (x, y)) >>= fun p => .ok ((fun p : Str × Str × Unit => ([p.1, p.2.1] : List Str)) p)) >>= fun xs => (R.ok false >>= fun b => .ok (if b then 1 else 0)) >>= fun i => ofO (atI xs i)) >>= fun y => ofO (catS x y)) >>= fun told_2 => ((R.ok told_2 >>= fun x => (((R.ok ("" : Str) >>= fun x => (R.ok ("unequal" : Str) >>= fun x => R.ok () >>= fun y => .ok (x, y)) >>= fun y => .ok (x, y)) >>= fun p => .ok ((fun p : Str × Str × Unit => ([p.1, p.2.1] : List Str)) p)) >>= fun xs => (R.ok false >>= fun b => .ok (if b then 1 else 0)) >>= fun i => ofO (atI xs i)) >>= fun y => ofO (catS x y)) >>= fun r => .ok (Sum.inr (r))))), ("BadIndex", true, (((((R.ok ("" : Str) >>= fun x => (R.ok ("index" : Str) >>= fun x => R.ok () >>= fun y => .ok (x, y)) >>= fun y => .ok (x, y)) >>= fun p => .ok ((fun p : Str × Str × Unit => ([p.1, p.2.1] : List Str)) p)) >>= fun xs => (R.ok true >>= fun b => .ok (if b then 1 else 0)) >>= fun i => ofO (atI xs i)) >>= fun x => (((R.ok ("" : Str) >>= fun x => (R.ok ("few" : Str) >>= fun x => R.ok () >>= fun y => .ok (x, y)) >>= fun y => .ok (x, y)) >>= fun p => .ok ((fun p : Str × Str × Unit => ([p.1, p.2.1] : List Str)) p)) >>= fun xs => (R.ok false >>= fun b => .ok (if b then 1 else 0)) >>= fun i => ofO (atI xs i)) >>= fun y => ofO (catS x y)) >>= fun told_3 => ((R.ok told_3 >>= fun x => (((R.ok ("" : Str) >>= fun x => (R.ok ("unequal" : Str) >>= fun x => R.ok () >>= fun y => .ok (x, y)) >>= fun y => .ok (x, y)) >>= fun p => .ok ((fun p : Str × Str × Unit => ([p.1, p.2.1] : List Str)) p)) >>= fun xs => (R.ok false >>= fun b => .ok (if b then 1 else 0)) >>= fun i => ofO (atI xs i)) >>= fun y => ofO (catS x y)) >>= fun r => .ok (Sum.inr (r))))), ("NotEnough", true, (((((R.ok ("" : Str) >>= fun x => (R.ok ("index" : Str) >>= fun x => R.ok () >>= fun y => .ok (x, y)) >>= fun y => .ok (x, y)) >>= fun p => .ok ((fun p : Str × Str × Unit => ([p.1, p.2.1] : List Str)) p)) >>= fun xs => (R.ok false >>= fun b => .ok (if b then 1 else 0)) >>= fun i => ofO (atI xs i)) >>= fun x => (((R.ok ("" : Str) >>= fun x => (R.ok ("few" : Str) >>= fun x => R.ok () >>= fun y => .ok (x, y)) >>= fun y => .ok (x, y)) >>= fun p => .ok ((fun p : Str × Str × Unit => ([p.1, p.2.1] : List Str)) p)) >>= fun xs => (R.ok true >>= fun b => .ok (if b then 1 else 0)) >>= fun i => ofO (atI xs i)) >>= fun y => ofO (catS x y)) >>= fun told_4 => ((R.ok told_4 >>= fun x => (((R.ok ("" : Str) >>= fun x => (R.ok ("unequal" : Str) >>= fun x => R.ok () >>= fun y => .ok (x, y)) >>= fun y => .ok (x, y)) >>= fun p => .ok ((fun p : Str × Str × Unit => ([p.1, p.2.1] : List Str)) p)) >>= fun xs => (R.ok false >>= fun b => .ok (if b then 1 else 0)) >>= fun i => ofO (atI xs i)) >>= fun y => ofO (catS x y)) >>= fun r => .ok (Sum.inr (r))))), ("ShapeMismatch", true, (((((R.ok ("" : Str) >>= fun x => (R.ok ("index" : Str) >>= fun x => R.ok () >>= fun y => .ok (x, y)) >>= fun y => .ok (x, y)) >>= fun p => .ok ((fun p : Str × Str × Unit => ([p.1, p.2.1] : List Str)) p)) >>= fun xs => (R.ok false >>= fun b => .ok (if b then 1 else 0)) >>= fun i => ofO (atI xs i)) >>= fun x => (((R.ok ("" : Str) >>= fun x => (R.ok ("few" : Str) >>= fun x => R.ok () >>= fun y => .ok (x, y)) >>= fun y => .ok (x, y)) >>= fun p => .ok ((fun p : Str × Str × Unit => ([p.1, p.2.1] : List Str)) p)) >>= fun xs => (R.ok false >>= fun b => .ok (if b then 1 else 0)) >>= fun i => ofO (atI xs i)) >>= fun y => ofO (catS x y)) >>= fun told_5 => ((R.ok told_5 >>= fun x => (((R.ok ("" : Str) >>= fun x => (R.ok ("unequal" : Str) >>= fun x => R.ok () >>= fun y => .ok (x, y)) >>= fun y => .ok (x, y)) >>= fun p => .ok ((fun p : Str × Str × Unit => ([p.1, p.2.1] : List Str)) p)) >>= fun xs => (R.ok false >>= fun b => .ok (if b then 1 else 0)) >>= fun i => ofO (atI xs i)) >>= fun y => ofO (catS x y)) >>= fun r => .ok (Sum.inr (r))))), ("Singular", true, (((((R.ok ("" : Str) >>= fun x => (R.ok ("index" : Str) >>= fun x => R.ok () >>= fun y => .ok (x, y)) >>= fun y => .ok (x, y)) >>= fun p => .ok ((fun p : Str × Str × Unit => ([p.1, p.2.1] : List Str)) p)) >>= fun xs => (R.ok false >>= fun b => .ok (if b then 1 else 0)) >>= fun i => ofO (atI xs i)) >>= fun x => (((R.ok ("" : Str) >>= fun x => (R.ok ("few" : Str) >>= fun x => R.ok () >>= fun y => .ok (x, y)) >>= fun y => .ok (x, y)) >>= fun p => .ok ((fun p : Str × Str × Unit => ([p.1, p.2.1] : List Str)) p)) >>= fun xs => (R.ok false >>= fun b => .ok (if b then 1 else 0)) >>= fun i => ofO (atI xs i)) >>= fun y => ofO (catS x y)) >>= fun told_6 => ((R.ok told_6 >>= fun x => (((R.ok ("" : Str) >>= fun x => (R.ok ("unequal" : Str) >>= fun x => R.ok () >>= fun y => .ok (x, y)) >>= fun y => .ok (x, y)) >>= fun p => .ok ((fun p : Str × Str × Unit => ([p.1, p.2.1] : List Str)) p)) >>= fun xs => (R.ok false >>= fun b => .ok (if b then 1 else 0)) >>= fun i => ofO (atI xs i)) >>= fun y => ofO (catS x y)) >>= fun r => .ok (Sum.inr (r))))), ("UnequalBlocks", true, (((((R.ok ("" : Str) >>= fun x => (R.ok ("index" : Str) >>= fun x => R.ok () >>= fun y => .ok (x, y)) >>= fun y => .ok (x, y)) >>= fun p => .ok ((fun p : Str × Str × Unit => ([p.1, p.2.1] : List Str)) p)) >>= fun xs => (R.ok false >>= fun b => .ok (if b then 1 else 0)) >>= fun i => ofO (atI xs i)) >>= fun x => (((R.ok ("" : Str) >>= fun x => (R.ok ("few" : Str) >>= fun x => R.ok () >>= fun y => .ok (x, y)) >>= fun y => .ok (x, y)) >>= fun p => .ok ((fun p : Str × Str × Unit => ([p.1, p.2.1] : List Str)) p)) >>= fun xs => (R.ok false >>= fun b => .ok (if b then 1 else 0)) >>= fun i => ofO (atI xs i)) >>= fun y => ofO (catS x y)) >>= fun told_7 => ((R.ok told_7 >>= fun x => (((R.ok ("" : Str) >>= fun x => (R.ok ("unequal" : Str) >>= fun x => R.ok () >>= fun y => .ok (x, y)) >>= fun y => .ok (x, y)) >>= fun p => .ok ((fun p : Str × Str × Unit => ([p.1, p.2.1] : List Str)) p)) >>= fun xs => (R.ok true >>= fun b => .ok (if b then 1 else 0)) >>= fun i => ofO (atI xs i)) >>= fun y => ofO (catS x y)) >>= fun r => .ok (Sum.inr (r))))), ("ZeroElement", true, (((((R.ok ("" : Str) >>= fun x => (R.ok ("index" : Str) >>= fun x => R.ok () >>= fun y => .ok (x, y)) >>= fun y => .ok (x, y)) >>= fun p => .ok ((fun p : Str × Str × Unit => ([p.1, p.2.1] : List Str)) p)) >>= fun xs => (R.ok false >>= fun b => .ok (if b then 1 else 0)) >>= fun i => ofO (atI xs i)) >>= fun x => (((R.ok ("" : Str) >>= fun x => (R.ok ("few" : Str) >>= fun x => R.ok () >>= fun y => .ok (x, y)) >>= fun y => .ok (x, y)) >>= fun p => .ok ((fun p : Str × Str × Unit => ([p.1, p.2.1] : List Str)) p)) >>= fun xs => (R.ok false >>= fun b => .ok (if b then 1 else 0)) >>= fun i => ofO (atI xs i)) >>= fun y => ofO (catS x y)) >>= fun told_8 => ((R.ok told_8 >>= fun x => (((R.ok ("" : Str) >>= fun x => (R.ok ("unequal" : Str) >>= fun x => R.ok () >>= fun y => .ok (x, y)) >>= fun y => .ok (x, y)) >>= fun p => .ok ((fun p : Str × Str × Unit => ([p.1, p.2.1] : List Str)) p)) >>= fun xs => (R.ok false >>= fun b => .ok (if b then 1 else 0)) >>= fun i => ofO (atI xs i)) >>= fun y => ofO (catS x y)) >>= fun r => .ok (Sum.inr (r)))))] (((R.ok config >>= fun x => (R.ok pieces >>= fun x => (R.ok size >>= fun x => R.ok () >>= fun y => .ok (x, y)) >>= fun y => .ok (x, y)) >>= fun y => .ok (x, y)) >>= fun p : OConfig × (List (Int × (List Int))) × Int × Unit => (whole_blob p.1 p.2.1 p.2.2.1)) >>= fun _ => R.ok (Sum.inl ()))) >>= sumK (fun j_1 : Unit => (R.ok ("none" : Str) >>= fun r => .ok (r))) .ok)
theorem ok__law_error (Tx : Tx K mg) : FnOk P w K mg base (L2.CX P w) 9 Tx.a__law_error Tx.d__law_error ["config", "pieces", "size"]
    (SpL ⟨K, mg⟩ (fun p : OConfig × (List (Int × (List Int))) × Int × Unit => [.tr (eConfig p.1), .dt (eDic (fun xs : (List Int) => D.lst (xs.map D.int)) p.2.1), .dt (D.int p.2.2.1)]) (fun r : Str => .imm (D.str r)) (fun p => _law_error p.1 p.2.1 p.2.2.1)) := by
  refine fn_look Tx.F__law_error sc__law_error (fun _ => rfl) fun cdv A outer s H E hr p => ?_
  obtain ⟨config, pieces, size, _⟩ := p
  exact bk_consX (Γ1 := fun j_1 : Unit => [.lk (eConfig config), .ow (.imm (eDic (fun xs : (List Int) => D.lst (xs.map D.int)) pieces)), .ow (.imm (D.int size)), .un, .un]) (st_rr (st_tryAsL (Γt := [.lk (eConfig config), .ow (.imm (eDic (fun xs : (List Int) => D.lst (xs.map D.int)) pieces)), .ow (.imm (D.int size)), .un, .un]) 3 sc__law_error.nd (show Names _ "CairnError" _ from ⟨rfl, by decide, .inl Tx.gc_CairnError⟩) (takes_of rfl rfl rfl rfl) (fun W' pn xe tk' po' => bk_cons (st_expr (db_of_df (df_callL (ok_whole_blob Tx) (hr.mono (by decide)) Tx.g_whole_blob Tx.F_whole_blob.kp Tx.b_whole_blob tk' (dal_db (db_see (emb := eConfig) (x := config) 0 rfl rfl) (dal_dd (dd_var (emb := (eDic (fun xs : (List Int) => D.lst (xs.map D.int)))) 1 rfl) (dal_dd (dd_var (emb := D.int) 2 rfl) dal_nil))))) ⟨rfl, rfl, rfl, trivial⟩) fun _ => bk_nil (o := (Sum.inl ())) rfl ⟨rfl, rfl, rfl, trivial⟩) (List.forall_mem_cons.mpr ⟨xm_at Tx.x_BadCode.g Tx.xm_BadCode_CairnError, (List.forall_mem_cons.mpr ⟨xm_at Tx.x_BadIndex.g Tx.xm_BadIndex_CairnError, (List.forall_mem_cons.mpr ⟨xm_at Tx.x_NotEnough.g Tx.xm_NotEnough_CairnError, (List.forall_mem_cons.mpr ⟨xm_at Tx.x_ShapeMismatch.g Tx.xm_ShapeMismatch_CairnError, (List.forall_mem_cons.mpr ⟨xm_at Tx.x_Singular.g Tx.xm_Singular_CairnError, (List.forall_mem_cons.mpr ⟨xm_at Tx.x_UnequalBlocks.g Tx.xm_UnequalBlocks_CairnError, (List.forall_mem_cons.mpr ⟨xm_at Tx.x_ZeroElement.g Tx.xm_ZeroElement_CairnError, (List.forall_mem_nil _)⟩)⟩)⟩)⟩)⟩)⟩)⟩) (List.forall_mem_cons.mpr ⟨(fun _ D g a oe pn hz hv => by obtain rfl : Tx.e_BadCode = D := Value.ref.inj (Option.some.inj (Tx.x_BadCode.g.symm.trans g)); exact bk_cons (st_set 4 (df_of_dd (dd_catS (dd_ixL (ei := D.str) (dl_own (ei := D.str) (db_of_df (df_disp (ei := D.str) (da_cons dd_str (da_cons dd_str da_nil)) (fun p : Str × Str × Unit => ([p.1, p.2.1] : List Str))))) (dd_intB (dd_isE (cV := .ref Tx.e_BadIndex) 3 rfl Tx.xc_BadCode hz hv Tx.b_isinstance (pe_glob rfl Tx.gc_BadIndex rfl) (fun _ h => h) Tx.ki_BadCode_BadIndex) Tx.b_int)) (dd_ixL (ei := D.str) (dl_own (ei := D.str) (db_of_df (df_disp (ei := D.str) (da_cons dd_str (da_cons dd_str da_nil)) (fun p : Str × Str × Unit => ([p.1, p.2.1] : List Str))))) (dd_intB (dd_isE (cV := .ref Tx.e_NotEnough) 3 rfl Tx.xc_BadCode hz hv Tx.b_isinstance (pe_glob rfl Tx.gc_NotEnough rfl) (fun _ h => h) Tx.ki_BadCode_NotEnough) Tx.b_int)))) trivial rfl sc__law_error.nd) fun told_2 => bk_ret (df_of_dd (dd_catS (dd_var (emb := D.str) 4 rfl) (dd_ixL (ei := D.str) (dl_own (ei := D.str) (db_of_df (df_disp (ei := D.str) (da_cons dd_str (da_cons dd_str da_nil)) (fun p : Str × Str × Unit => ([p.1, p.2.1] : List Str))))) (dd_intB (dd_isE (cV := .ref Tx.e_UnequalBlocks) 3 rfl Tx.xc_BadCode hz hv Tx.b_isinstance (pe_glob rfl Tx.gc_UnequalBlocks rfl) (fun _ h => h) Tx.ki_BadCode_UnequalBlocks) Tx.b_int)))) (g := fun r => Sum.inr (r)) (fun _ => rfl) trivial trivial), (List.forall_mem_cons.mpr ⟨(fun _ D g a oe pn hz hv => by obtain rfl : Tx.e_BadIndex = D := Value.ref.inj (Option.some.inj (Tx.x_BadIndex.g.symm.trans g)); exact bk_cons (st_set 4 (df_of_dd (dd_catS (dd_ixL (ei := D.str) (dl_own (ei := D.str) (db_of_df (df_disp (ei := D.str) (da_cons dd_str (da_cons dd_str da_nil)) (fun p : Str × Str × Unit => ([p.1, p.2.1] : List Str))))) (dd_intB (dd_isE (cV := .ref Tx.e_BadIndex) 3 rfl Tx.xc_BadIndex hz hv Tx.b_isinstance (pe_glob rfl Tx.gc_BadIndex rfl) (fun _ h => h) Tx.ki_BadIndex_BadIndex) Tx.b_int)) (dd_ixL (ei := D.str) (dl_own (ei := D.str) (db_of_df (df_disp (ei := D.str) (da_cons dd_str (da_cons dd_str da_nil)) (fun p : Str × Str × Unit => ([p.1, p.2.1] : List Str))))) (dd_intB (dd_isE (cV := .ref Tx.e_NotEnough) 3 rfl Tx.xc_BadIndex hz hv Tx.b_isinstance (pe_glob rfl Tx.gc_NotEnough rfl) (fun _ h => h) Tx.ki_BadIndex_NotEnough) Tx.b_int)))) trivial rfl sc__law_error.nd) fun told_3 => bk_ret (df_of_dd (dd_catS (dd_var (emb := D.str) 4 rfl) (dd_ixL (ei := D.str) (dl_own (ei := D.str) (db_of_df (df_disp (ei := D.str) (da_cons dd_str (da_cons dd_str da_nil)) (fun p : Str × Str × Unit => ([p.1, p.2.1] : List Str))))) (dd_intB (dd_isE (cV := .ref Tx.e_UnequalBlocks) 3 rfl Tx.xc_BadIndex hz hv Tx.b_isinstance (pe_glob rfl Tx.gc_UnequalBlocks rfl) (fun _ h => h) Tx.ki_BadIndex_UnequalBlocks) Tx.b_int)))) (g := fun r => Sum.inr (r)) (fun _ => rfl) trivial trivial), (List.forall_mem_cons.mpr ⟨(fun _ D g a oe pn hz hv => by obtain rfl : Tx.e_NotEnough = D := Value.ref.inj (Option.some.inj (Tx.x_NotEnough.g.symm.trans g)); exact bk_cons (st_set 4 (df_of_dd (dd_catS (dd_ixL (ei := D.str) (dl_own (ei := D.str) (db_of_df (df_disp (ei := D.str) (da_cons dd_str (da_cons dd_str da_nil)) (fun p : Str × Str × Unit => ([p.1, p.2.1] : List Str))))) (dd_intB (dd_isE (cV := .ref Tx.e_BadIndex) 3 rfl Tx.xc_NotEnough hz hv Tx.b_isinstance (pe_glob rfl Tx.gc_BadIndex rfl) (fun _ h => h) Tx.ki_NotEnough_BadIndex) Tx.b_int)) (dd_ixL (ei := D.str) (dl_own (ei := D.str) (db_of_df (df_disp (ei := D.str) (da_cons dd_str (da_cons dd_str da_nil)) (fun p : Str × Str × Unit => ([p.1, p.2.1] : List Str))))) (dd_intB (dd_isE (cV := .ref Tx.e_NotEnough) 3 rfl Tx.xc_NotEnough hz hv Tx.b_isinstance (pe_glob rfl Tx.gc_NotEnough rfl) (fun _ h => h) Tx.ki_NotEnough_NotEnough) Tx.b_int)))) trivial rfl sc__law_error.nd) fun told_4 => bk_ret (df_of_dd (dd_catS (dd_var (emb := D.str) 4 rfl) (dd_ixL (ei := D.str) (dl_own (ei := D.str) (db_of_df (df_disp (ei := D.str) (da_cons dd_str (da_cons dd_str da_nil)) (fun p : Str × Str × Unit => ([p.1, p.2.1] : List Str))))) (dd_intB (dd_isE (cV := .ref Tx.e_UnequalBlocks) 3 rfl Tx.xc_NotEnough hz hv Tx.b_isinstance (pe_glob rfl Tx.gc_UnequalBlocks rfl) (fun _ h => h) Tx.ki_NotEnough_UnequalBlocks) Tx.b_int)))) (g := fun r => Sum.inr (r)) (fun _ => rfl) trivial trivial), (List.forall_mem_cons.mpr ⟨(fun _ D g a oe pn hz hv => by obtain rfl : Tx.e_ShapeMismatch = D := Value.ref.inj (Option.some.inj (Tx.x_ShapeMismatch.g.symm.trans g)); exact bk_cons (st_set 4 (df_of_dd (dd_catS (dd_ixL (ei := D.str) (dl_own (ei := D.str) (db_of_df (df_disp (ei := D.str) (da_cons dd_str (da_cons dd_str da_nil)) (fun p : Str × Str × Unit => ([p.1, p.2.1] : List Str))))) (dd_intB (dd_isE (cV := .ref Tx.e_BadIndex) 3 rfl Tx.xc_ShapeMismatch hz hv Tx.b_isinstance (pe_glob rfl Tx.gc_BadIndex rfl) (fun _ h => h) Tx.ki_ShapeMismatch_BadIndex) Tx.b_int)) (dd_ixL (ei := D.str) (dl_own (ei := D.str) (db_of_df (df_disp (ei := D.str) (da_cons dd_str (da_cons dd_str da_nil)) (fun p : Str × Str × Unit => ([p.1, p.2.1] : List Str))))) (dd_intB (dd_isE (cV := .ref Tx.e_NotEnough) 3 rfl Tx.xc_ShapeMismatch hz hv Tx.b_isinstance (pe_glob rfl Tx.gc_NotEnough rfl) (fun _ h => h) Tx.ki_ShapeMismatch_NotEnough) Tx.b_int)))) trivial rfl sc__law_error.nd) fun told_5 => bk_ret (df_of_dd (dd_catS (dd_var (emb := D.str) 4 rfl) (dd_ixL (ei := D.str) (dl_own (ei := D.str) (db_of_df (df_disp (ei := D.str) (da_cons dd_str (da_cons dd_str da_nil)) (fun p : Str × Str × Unit => ([p.1, p.2.1] : List Str))))) (dd_intB (dd_isE (cV := .ref Tx.e_UnequalBlocks) 3 rfl Tx.xc_ShapeMismatch hz hv Tx.b_isinstance (pe_glob rfl Tx.gc_UnequalBlocks rfl) (fun _ h => h) Tx.ki_ShapeMismatch_UnequalBlocks) Tx.b_int)))) (g := fun r => Sum.inr (r)) (fun _ => rfl) trivial trivial), (List.forall_mem_cons.mpr ⟨(fun _ D g a oe pn hz hv => by obtain rfl : Tx.e_Singular = D := Value.ref.inj (Option.some.inj (Tx.x_Singular.g.symm.trans g)); exact bk_cons (st_set 4 (df_of_dd (dd_catS (dd_ixL (ei := D.str) (dl_own (ei := D.str) (db_of_df (df_disp (ei := D.str) (da_cons dd_str (da_cons dd_str da_nil)) (fun p : Str × Str × Unit => ([p.1, p.2.1] : List Str))))) (dd_intB (dd_isE (cV := .ref Tx.e_BadIndex) 3 rfl Tx.xc_Singular hz hv Tx.b_isinstance (pe_glob rfl Tx.gc_BadIndex rfl) (fun _ h => h) Tx.ki_Singular_BadIndex) Tx.b_int)) (dd_ixL (ei := D.str) (dl_own (ei := D.str) (db_of_df (df_disp (ei := D.str) (da_cons dd_str (da_cons dd_str da_nil)) (fun p : Str × Str × Unit => ([p.1, p.2.1] : List Str))))) (dd_intB (dd_isE (cV := .ref Tx.e_NotEnough) 3 rfl Tx.xc_Singular hz hv Tx.b_isinstance (pe_glob rfl Tx.gc_NotEnough rfl) (fun _ h => h) Tx.ki_Singular_NotEnough) Tx.b_int)))) trivial rfl sc__law_error.nd) fun told_6 => bk_ret (df_of_dd (dd_catS (dd_var (emb := D.str) 4 rfl) (dd_ixL (ei := D.str) (dl_own (ei := D.str) (db_of_df (df_disp (ei := D.str) (da_cons dd_str (da_cons dd_str da_nil)) (fun p : Str × Str × Unit => ([p.1, p.2.1] : List Str))))) (dd_intB (dd_isE (cV := .ref Tx.e_UnequalBlocks) 3 rfl Tx.xc_Singular hz hv Tx.b_isinstance (pe_glob rfl Tx.gc_UnequalBlocks rfl) (fun _ h => h) Tx.ki_Singular_UnequalBlocks) Tx.b_int)))) (g := fun r => Sum.inr (r)) (fun _ => rfl) trivial trivial), (List.forall_mem_cons.mpr ⟨(fun _ D g a oe pn hz hv => by obtain rfl : Tx.e_UnequalBlocks = D := Value.ref.inj (Option.some.inj (Tx.x_UnequalBlocks.g.symm.trans g)); exact bk_cons (st_set 4 (df_of_dd (dd_catS (dd_ixL (ei := D.str) (dl_own (ei := D.str) (db_of_df (df_disp (ei := D.str) (da_cons dd_str (da_cons dd_str da_nil)) (fun p : Str × Str × Unit => ([p.1, p.2.1] : List Str))))) (dd_intB (dd_isE (cV := .ref Tx.e_BadIndex) 3 rfl Tx.xc_UnequalBlocks hz hv Tx.b_isinstance (pe_glob rfl Tx.gc_BadIndex rfl) (fun _ h => h) Tx.ki_UnequalBlocks_BadIndex) Tx.b_int)) (dd_ixL (ei := D.str) (dl_own (ei := D.str) (db_of_df (df_disp (ei := D.str) (da_cons dd_str (da_cons dd_str da_nil)) (fun p : Str × Str × Unit => ([p.1, p.2.1] : List Str))))) (dd_intB (dd_isE (cV := .ref Tx.e_NotEnough) 3 rfl Tx.xc_UnequalBlocks hz hv Tx.b_isinstance (pe_glob rfl Tx.gc_NotEnough rfl) (fun _ h => h) Tx.ki_UnequalBlocks_NotEnough) Tx.b_int)))) trivial rfl sc__law_error.nd) fun told_7 => bk_ret (df_of_dd (dd_catS (dd_var (emb := D.str) 4 rfl) (dd_ixL (ei := D.str) (dl_own (ei := D.str) (db_of_df (df_disp (ei := D.str) (da_cons dd_str (da_cons dd_str da_nil)) (fun p : Str × Str × Unit => ([p.1, p.2.1] : List Str))))) (dd_intB (dd_isE (cV := .ref Tx.e_UnequalBlocks) 3 rfl Tx.xc_UnequalBlocks hz hv Tx.b_isinstance (pe_glob rfl Tx.gc_UnequalBlocks rfl) (fun _ h => h) Tx.ki_UnequalBlocks_UnequalBlocks) Tx.b_int)))) (g := fun r => Sum.inr (r)) (fun _ => rfl) trivial trivial), (List.forall_mem_cons.mpr ⟨(fun _ D g a oe pn hz hv => by obtain rfl : Tx.e_ZeroElement = D := Value.ref.inj (Option.some.inj (Tx.x_ZeroElement.g.symm.trans g)); exact bk_cons (st_set 4 (df_of_dd (dd_catS (dd_ixL (ei := D.str) (dl_own (ei := D.str) (db_of_df (df_disp (ei := D.str) (da_cons dd_str (da_cons dd_str da_nil)) (fun p : Str × Str × Unit => ([p.1, p.2.1] : List Str))))) (dd_intB (dd_isE (cV := .ref Tx.e_BadIndex) 3 rfl Tx.xc_ZeroElement hz hv Tx.b_isinstance (pe_glob rfl Tx.gc_BadIndex rfl) (fun _ h => h) Tx.ki_ZeroElement_BadIndex) Tx.b_int)) (dd_ixL (ei := D.str) (dl_own (ei := D.str) (db_of_df (df_disp (ei := D.str) (da_cons dd_str (da_cons dd_str da_nil)) (fun p : Str × Str × Unit => ([p.1, p.2.1] : List Str))))) (dd_intB (dd_isE (cV := .ref Tx.e_NotEnough) 3 rfl Tx.xc_ZeroElement hz hv Tx.b_isinstance (pe_glob rfl Tx.gc_NotEnough rfl) (fun _ h => h) Tx.ki_ZeroElement_NotEnough) Tx.b_int)))) trivial rfl sc__law_error.nd) fun told_8 => bk_ret (df_of_dd (dd_catS (dd_var (emb := D.str) 4 rfl) (dd_ixL (ei := D.str) (dl_own (ei := D.str) (db_of_df (df_disp (ei := D.str) (da_cons dd_str (da_cons dd_str da_nil)) (fun p : Str × Str × Unit => ([p.1, p.2.1] : List Str))))) (dd_intB (dd_isE (cV := .ref Tx.e_UnequalBlocks) 3 rfl Tx.xc_ZeroElement hz hv Tx.b_isinstance (pe_glob rfl Tx.gc_UnequalBlocks rfl) (fun _ h => h) Tx.ki_ZeroElement_UnequalBlocks) Tx.b_int)))) (g := fun r => Sum.inr (r)) (fun _ => rfl) trivial trivial), (List.forall_mem_nil _)⟩)⟩)⟩)⟩)⟩)⟩)⟩) trivial)) fun j_1 => bk_ret (df_of_dd dd_str) (g := fun r => r) (fun _ => rfl) trivial trivial

theorem sc__law_mul : FnScope ["a", "b", "product", "k"] ["a", "b"] (defScope s__law_mul) := ⟨rfl, rfl, rfl, by decide +kernel, rfl, by decide +kernel, by decide +kernel⟩
noncomputable def _law_mul (a_q : Int) (b_q : Int) : R Int :=
  (R.ok (0 : Int) >>= fun product_1 => (((R.ok (8 : Int) >>= fun n => ofO (rangeO 0 n)) >>= fun xs => forS (fun (x_3 : Int) (s_2 : Int × Int) => (((((R.ok b_q >>= fun x => (((R.ok (1 : Int) >>= fun x => (R.ok (2 : Int) >>= fun x => (R.ok (4 : Int) >>= fun x => (R.ok (8 : Int) >>= fun x => (R.ok (16 : Int) >>= fun x => (R.ok (32 : Int) >>= fun x => (R.ok (64 : Int) >>= fun x => (R.ok (128 : Int) >>= fun x => R.ok () >>= fun y => .ok (x, y)) >>= fun y => .ok (x, y)) >>= fun y => .ok (x, y)) >>= fun y => .ok (x, y)) >>= fun y => .ok (x, y)) >>= fun y => .ok (x, y)) >>= fun y => .ok (x, y)) >>= fun y => .ok (x, y)) >>= fun p => .ok ((fun p : Int × Int × Int × Int × Int × Int × Int × Int × Unit => ([p.1, p.2.1, p.2.2.1, p.2.2.2.1, p.2.2.2.2.1, p.2.2.2.2.2.1, p.2.2.2.2.2.2.1, p.2.2.2.2.2.2.2.1] : (List Int))) p)) >>= fun xs => R.ok x_3 >>= fun i => ofO (atI xs i)) >>= fun y => ofO (divO x y)) >>= fun x => .ok (x % 2)) >>= fun x => R.ok (1 : Int) >>= fun y => .ok (decide (x = y))) >>= fun x => if x then ((R.ok s_2.2 >>= fun x => R.ok s_2.1 >>= fun y => .ok (Builtin.bitXor x y)) >>= fun product_5 => R.ok product_5) else R.ok s_2.2) >>= fun j_4 : Int => ((R.ok s_2.1 >>= fun x => .ok (x * 2)) >>= fun a_6 => (((R.ok a_6 >>= fun x => R.ok (255 : Int) >>= fun y => .ok (decide (y < x))) >>= fun x => if x then ((R.ok a_6 >>= fun x => R.ok (285 : Int) >>= fun y => .ok (Builtin.bitXor x y)) >>= fun a_8 => R.ok a_8) else R.ok a_6) >>= fun j_7 : Int => R.ok (j_7, j_4))))) xs (a_q, product_1)) >>= fun s_9 : Int × Int => (R.ok s_9.2 >>= fun r => .ok (r))))
theorem ok__law_mul (Tx : Tx K mg) : FnOk P w K mg base (L2.CX P w) 1 Tx.a__law_mul Tx.d__law_mul ["a", "b"]
    (SpF ⟨K, mg⟩ (fun p : Int × Int × Unit => [D.int p.1, D.int p.2.1]) (fun r : Int => .imm (D.int r)) (fun p => _law_mul p.1 p.2.1)) := by
  refine fn_pure Tx.F__law_mul sc__law_mul (fun _ => rfl) fun cdv A outer s H E hr p => ?_
  obtain ⟨a_q, b_q, _⟩ := p
  exact bk_cons (st_set 2 (df_of_dd dd_int) trivial rfl sc__law_mul.nd) fun product_1 => bk_cons (Γ1 := fun s_2 : Int × Int => [.ow (.imm (D.int s_2.1)), .ow (.imm (D.int b_q)), .ow (.imm (D.int s_2.2)), .un]) (st_forS (Γs := fun s_2 : Int × Int => [.ow (.imm (D.int s_2.1)), .ow (.imm (D.int b_q)), .ow (.imm (D.int s_2.2)), .un]) (ei := D.int) (a_q, product_1) (passes_of rfl) rfl (di_range1 dd_int Tx.b_range) (fun s_2 x_3 => (dg_name 3 sc__law_mul.nd)) (fun s_2 x_3 => bk_cons (Γ1 := fun j_4 : Int => [.ow (.imm (D.int s_2.1)), .ow (.imm (D.int b_q)), .ow (.imm (D.int j_4)), .ow (.imm (D.int x_3))]) (st_if (dt_eqI (dd_modC (dd_div (dd_var (emb := D.int) 1 rfl) (dd_ixT (ei := D.int) (dd_tup (et := (fun xs : (List Int) => D.tup (xs.map D.int))) (da_cons dd_int (da_cons dd_int (da_cons dd_int (da_cons dd_int (da_cons dd_int (da_cons dd_int (da_cons dd_int (da_cons dd_int da_nil)))))))) (fun p : Int × Int × Int × Int × Int × Int × Int × Int × Unit => ([p.1, p.2.1, p.2.2.1, p.2.2.2.1, p.2.2.2.2.1, p.2.2.2.2.2.1, p.2.2.2.2.2.2.1, p.2.2.2.2.2.2.2.1] : (List Int)))) (dd_var (emb := D.int) 3 rfl))) dd_int (by decide)) dd_int) (bk_cons (st_set 2 (df_of_dd (dd_xor (dd_var (emb := D.int) 2 rfl) (dd_var (emb := D.int) 0 rfl))) trivial rfl sc__law_mul.nd) fun product_5 => bk_nil (o := product_5) rfl ⟨rfl, rfl, rfl, rfl, trivial⟩) (bk_nil (o := s_2.2) rfl ⟨rfl, rfl, rfl, rfl, trivial⟩) trivial) fun j_4 => bk_cons (st_set 0 (df_of_dd (dd_mulC (dd_var (emb := D.int) 0 rfl) dd_int (by decide))) trivial rfl sc__law_mul.nd) fun a_6 => bk_cons (Γ1 := fun j_7 : Int => [.ow (.imm (D.int j_7)), .ow (.imm (D.int b_q)), .ow (.imm (D.int j_4)), .ow (.imm (D.int x_3))]) (st_if (dt_gt (dd_var (emb := D.int) 0 rfl) dd_int) (bk_cons (st_set 0 (df_of_dd (dd_xor (dd_var (emb := D.int) 0 rfl) dd_int)) trivial rfl sc__law_mul.nd) fun a_8 => bk_nil (o := a_8) rfl ⟨rfl, rfl, rfl, rfl, trivial⟩) (bk_nil (o := a_6) rfl ⟨rfl, rfl, rfl, rfl, trivial⟩) trivial) fun j_7 => bk_nil (o := (j_7, j_4)) rfl ⟨rfl, rfl, rfl, trivial⟩) ⟨rfl, rfl, rfl, trivial⟩ trivial) fun s_9 => bk_ret (df_of_dd (dd_var (emb := D.int) 2 rfl)) (g := fun r => r) (fun _ => rfl) trivial trivial

theorem sc__law_inverse_octet : FnScope ["a", "product", "k"] ["a"] (defScope s__law_inverse_octet) := ⟨rfl, rfl, rfl, by decide +kernel, rfl, by decide +kernel, by decide +kernel⟩
noncomputable def _law_inverse_octet (a_q : Int) : R Int :=
  (R.ok (1 : Int) >>= fun product_1 => (((R.ok (7 : Int) >>= fun n => ofO (rangeO 0 n)) >>= fun xs => forS (fun (x_3 : Int) (s_2 : Int × Int) => (((R.ok s_2.1 >>= fun x => (R.ok s_2.1 >>= fun x => R.ok () >>= fun y => .ok (x, y)) >>= fun y => .ok (x, y)) >>= fun p : Int × Int × Unit => (_law_mul p.1 p.2.1)) >>= fun a_4 => (((R.ok s_2.2 >>= fun x => (R.ok a_4 >>= fun x => R.ok () >>= fun y => .ok (x, y)) >>= fun y => .ok (x, y)) >>= fun p : Int × Int × Unit => (_law_mul p.1 p.2.1)) >>= fun product_5 => R.ok (a_4, product_5)))) xs (a_q, product_1)) >>= fun s_6 : Int × Int => (R.ok s_6.2 >>= fun r => .ok (r))))
theorem ok__law_inverse_octet (Tx : Tx K mg) : FnOk P w K mg base (L2.CX P w) 2 Tx.a__law_inverse_octet Tx.d__law_inverse_octet ["a"]
    (SpF ⟨K, mg⟩ (fun p : Int × Unit => [D.int p.1]) (fun r : Int => .imm (D.int r)) (fun p => _law_inverse_octet p.1)) := by
  refine fn_pure Tx.F__law_inverse_octet sc__law_inverse_octet (fun _ => rfl) fun cdv A outer s H E hr p => ?_
  obtain ⟨a_q, _⟩ := p
  exact bk_cons (st_set 1 (df_of_dd dd_int) trivial rfl sc__law_inverse_octet.nd) fun product_1 => bk_cons (Γ1 := fun s_2 : Int × Int => [.ow (.imm (D.int s_2.1)), .ow (.imm (D.int s_2.2)), .un]) (st_forS (Γs := fun s_2 : Int × Int => [.ow (.imm (D.int s_2.1)), .ow (.imm (D.int s_2.2)), .un]) (ei := D.int) (a_q, product_1) (passes_of rfl) rfl (di_range1 dd_int Tx.b_range) (fun s_2 x_3 => (dg_name 2 sc__law_inverse_octet.nd)) (fun s_2 x_3 => bk_cons (st_set 0 (df_of_dd (dd_imm (df_call (ok__law_mul Tx) (hr.mono (by decide)) Tx.g__law_mul Tx.F__law_mul.kp Tx.b__law_mul (takes_of rfl rfl rfl rfl) (da_cons (dd_var (emb := D.int) 0 rfl) (da_cons (dd_var (emb := D.int) 0 rfl) da_nil))))) trivial rfl sc__law_inverse_octet.nd) fun a_4 => bk_cons (st_set 1 (df_of_dd (dd_imm (df_call (ok__law_mul Tx) (hr.mono (by decide)) Tx.g__law_mul Tx.F__law_mul.kp Tx.b__law_mul (takes_of rfl rfl rfl rfl) (da_cons (dd_var (emb := D.int) 1 rfl) (da_cons (dd_var (emb := D.int) 0 rfl) da_nil))))) trivial rfl sc__law_inverse_octet.nd) fun product_5 => bk_nil (o := (a_4, product_5)) rfl ⟨rfl, rfl, trivial⟩) ⟨rfl, rfl, trivial⟩ trivial) fun s_6 => bk_ret (df_of_dd (dd_var (emb := D.int) 1 rfl)) (g := fun r => r) (fun _ => rfl) trivial trivial

theorem sc__law_spare : FnScope ["rows", "i", "data", "total", "j", "k", "factor", "over", "under", "at"] ["rows", "i", "data"] (defScope s__law_spare) := ⟨rfl, rfl, rfl, by decide +kernel, rfl, by decide +kernel, by decide +kernel⟩
noncomputable def _law_spare (rows : (List (List Int))) (i_q : Int) (data : Int) : R (List Int) :=
  ((((R.ok (0 : Int) >>= fun x => R.ok () >>= fun y => .ok (x, y)) >>= fun p => .ok ((fun p : Int × Unit => ([p.1] : List Int)) p)) >>= fun xs => ((R.ok rows >>= fun xs => R.ok (0 : Int) >>= fun i => ofO (atI xs i)) >>= fun xs => .ok (xs.length : Int)) >>= fun k => ofO (repO xs k)) >>= fun total_1 => (((R.ok data >>= fun n => ofO (rangeO 0 n)) >>= fun xs => forS (fun (x_3 : Int) (s_2 : (List Int)) => ((R.ok (1 : Int) >>= fun x => (R.ok (1 : Int) >>= fun x => R.ok () >>= fun y => .ok (x, y)) >>= fun y => .ok (x, y)) >>= fun u_4 => (((R.ok data >>= fun n => ofO (rangeO 0 n)) >>= fun xs => forS (fun (x_6 : Int) (s_5 : Int × Int) => (((R.ok x_6 >>= fun x => R.ok x_3 >>= fun y => .ok (!decide (x = y))) >>= fun x => if x then ((((R.ok s_5.1 >>= fun x => ((R.ok i_q >>= fun x => R.ok x_6 >>= fun y => .ok (Builtin.bitXor x y)) >>= fun x => R.ok () >>= fun y => .ok (x, y)) >>= fun y => .ok (x, y)) >>= fun p : Int × Int × Unit => (_law_mul p.1 p.2.1)) >>= fun p => (((R.ok s_5.2 >>= fun x => ((R.ok x_3 >>= fun x => R.ok x_6 >>= fun y => .ok (Builtin.bitXor x y)) >>= fun x => R.ok () >>= fun y => .ok (x, y)) >>= fun y => .ok (x, y)) >>= fun p : Int × Int × Unit => (_law_mul p.1 p.2.1)) >>= fun q => .ok (p, q))) >>= fun u_8 => R.ok (u_8.1, u_8.2)) else R.ok (s_5.1, s_5.2)) >>= fun j_7 : Int × Int => R.ok (j_7.1, j_7.2))) xs (u_4.1, u_4.2.1)) >>= fun s_9 : Int × Int => (((R.ok s_9.1 >>= fun x => (((R.ok s_9.2 >>= fun x => R.ok () >>= fun y => .ok (x, y)) >>= fun p : Int × Unit => (_law_inverse_octet p.1)) >>= fun x => R.ok () >>= fun y => .ok (x, y)) >>= fun y => .ok (x, y)) >>= fun p : Int × Int × Unit => (_law_mul p.1 p.2.1)) >>= fun factor_10 => ((((R.ok s_2 >>= fun xs => .ok (xs.length : Int)) >>= fun n => ofO (rangeO 0 n)) >>= fun xs => compR (fun c_12 : Int => R.ok true) (fun c_12 : Int => ((R.ok s_2 >>= fun xs => R.ok c_12 >>= fun i => ofO (atI xs i)) >>= fun x => ((R.ok factor_10 >>= fun x => (((R.ok rows >>= fun xs => R.ok x_3 >>= fun i => ofO (atI xs i)) >>= fun xs => R.ok c_12 >>= fun i => ofO (atI xs i)) >>= fun x => R.ok () >>= fun y => .ok (x, y)) >>= fun y => .ok (x, y)) >>= fun p : Int × Int × Unit => (_law_mul p.1 p.2.1)) >>= fun y => .ok (Builtin.bitXor x y))) xs) >>= fun total_11 => R.ok total_11))))) xs total_1) >>= fun s_13 : (List Int) => R.ok (s_13)))
theorem ok__law_spare (Tx : Tx K mg) : FnOk P w K mg base (L2.CX P w) 3 Tx.a__law_spare Tx.d__law_spare ["rows", "i", "data"]
    (SpF ⟨K, mg⟩ (fun p : (List (List Int)) × Int × Int × Unit => [D.lst ((p.1).map (fun xs : (List Int) => D.lst (xs.map D.int))), D.int p.2.1, D.int p.2.2.1]) (fun r : (List Int) => .lst ((r).map fun x => .imm (D.int x))) (fun p => _law_spare p.1 p.2.1 p.2.2.1)) := by
  refine fn_pure Tx.F__law_spare sc__law_spare (fun _ => rfl) fun cdv A outer s H E hr p => ?_
  obtain ⟨rows, i_q, data, _⟩ := p
  exact bk_cons (st_set 3 (df_rep (ei := D.int) (dlt_own (ei := D.int) (db_of_df (df_disp (ei := D.int) (da_cons dd_int da_nil) (fun p : Int × Unit => ([p.1] : List Int))))) (dd_lenL (ei := D.int) (dl_imm (ei := D.int) (dd_ixL (ei := (fun xs : (List Int) => D.lst (xs.map D.int))) (dl_imm (ei := (fun xs : (List Int) => D.lst (xs.map D.int))) (dd_var (emb := (fun xs : (List (List Int)) => D.lst (xs.map (fun xs : (List Int) => D.lst (xs.map D.int))))) 0 rfl)) dd_int)) Tx.b_len)) trivial rfl sc__law_spare.nd) fun total_1 => bk_cons (Γ1 := fun s_2 : (List Int) => [.ow (.imm (D.lst ((rows).map (fun xs : (List Int) => D.lst (xs.map D.int))))), .ow (.imm (D.int i_q)), .ow (.imm (D.int data)), .ow (.lst ((s_2).map fun x => .imm (D.int x))), .un, .un, .un, .un, .un, .un]) (st_forS (Γs := fun s_2 : (List Int) => [.ow (.imm (D.lst ((rows).map (fun xs : (List Int) => D.lst (xs.map D.int))))), .ow (.imm (D.int i_q)), .ow (.imm (D.int data)), .ow (.lst ((s_2).map fun x => .imm (D.int x))), .un, .un, .un, .un, .un, .un]) (ei := D.int) total_1 (passes_of rfl) rfl (di_range1 (dd_var (emb := D.int) 2 rfl) Tx.b_range) (fun s_2 x_3 => (dg_name 4 sc__law_spare.nd)) (fun s_2 x_3 => bk_cons (st_tupX rfl (daf_cons (df_of_dd dd_int) (daf_cons (df_of_dd dd_int) daf_nil)) (fun u_4 => (dgxs_cons (dgx_name 7 sc__law_spare.nd) (dgxs_cons (dgx_name 8 sc__law_spare.nd) dgxs_nil))) trivial) fun u_4 => bk_cons (Γ1 := fun s_5 : Int × Int => [.ow (.imm (D.lst ((rows).map (fun xs : (List Int) => D.lst (xs.map D.int))))), .ow (.imm (D.int i_q)), .ow (.imm (D.int data)), .ow (.lst ((s_2).map fun x => .imm (D.int x))), .ow (.imm (D.int x_3)), .un, .un, .ow (.imm (D.int s_5.1)), .ow (.imm (D.int s_5.2)), .un]) (st_forS (Γs := fun s_5 : Int × Int => [.ow (.imm (D.lst ((rows).map (fun xs : (List Int) => D.lst (xs.map D.int))))), .ow (.imm (D.int i_q)), .ow (.imm (D.int data)), .ow (.lst ((s_2).map fun x => .imm (D.int x))), .ow (.imm (D.int x_3)), .un, .un, .ow (.imm (D.int s_5.1)), .ow (.imm (D.int s_5.2)), .un]) (ei := D.int) (u_4.1, u_4.2.1) (passes_of rfl) rfl (di_range1 (dd_var (emb := D.int) 2 rfl) Tx.b_range) (fun s_5 x_6 => (dg_name 5 sc__law_spare.nd)) (fun s_5 x_6 => bk_cons (Γ1 := fun j_7 : Int × Int => [.ow (.imm (D.lst ((rows).map (fun xs : (List Int) => D.lst (xs.map D.int))))), .ow (.imm (D.int i_q)), .ow (.imm (D.int data)), .ow (.lst ((s_2).map fun x => .imm (D.int x))), .ow (.imm (D.int x_3)), .ow (.imm (D.int x_6)), .un, .ow (.imm (D.int j_7.1)), .ow (.imm (D.int j_7.2)), .un]) (st_if (dt_neI (dd_var (emb := D.int) 5 rfl) (dd_var (emb := D.int) 4 rfl)) (bk_cons (st_par2 7 8 (by decide) rfl sc__law_spare.nd (df_of_dd (dd_imm (df_call (ok__law_mul Tx) (hr.mono (by decide)) Tx.g__law_mul Tx.F__law_mul.kp Tx.b__law_mul (takes_of rfl rfl rfl rfl) (da_cons (dd_var (emb := D.int) 7 rfl) (da_cons (dd_xor (dd_var (emb := D.int) 1 rfl) (dd_var (emb := D.int) 5 rfl)) da_nil))))) (df_of_dd (dd_imm (df_call (ok__law_mul Tx) (hr.mono (by decide)) Tx.g__law_mul Tx.F__law_mul.kp Tx.b__law_mul (takes_of rfl rfl rfl rfl) (da_cons (dd_var (emb := D.int) 8 rfl) (da_cons (dd_xor (dd_var (emb := D.int) 4 rfl) (dd_var (emb := D.int) 5 rfl)) da_nil))))) trivial) fun u_8 => bk_nil (o := (u_8.1, u_8.2)) rfl ⟨rfl, rfl, rfl, rfl, rfl, rfl, rfl, rfl, trivial⟩) (bk_nil (o := (s_5.1, s_5.2)) rfl ⟨rfl, rfl, rfl, rfl, rfl, rfl, rfl, rfl, trivial⟩) trivial) fun j_7 => bk_nil (o := (j_7.1, j_7.2)) rfl ⟨rfl, rfl, rfl, rfl, rfl, rfl, rfl, trivial⟩) ⟨rfl, rfl, rfl, rfl, rfl, rfl, rfl, trivial⟩ trivial) fun s_9 => bk_cons (st_set 6 (df_of_dd (dd_imm (df_call (ok__law_mul Tx) (hr.mono (by decide)) Tx.g__law_mul Tx.F__law_mul.kp Tx.b__law_mul (takes_of rfl rfl rfl rfl) (da_cons (dd_var (emb := D.int) 7 rfl) (da_cons (dd_imm (df_call (ok__law_inverse_octet Tx) (hr.mono (by decide)) Tx.g__law_inverse_octet Tx.F__law_inverse_octet.kp Tx.b__law_inverse_octet (takes_of rfl rfl rfl rfl) (da_cons (dd_var (emb := D.int) 8 rfl) da_nil))) da_nil))))) trivial rfl sc__law_spare.nd) fun factor_10 => bk_as [.ow (.imm (D.lst ((rows).map (fun xs : (List Int) => D.lst (xs.map D.int))))), .ow (.imm (D.int i_q)), .ow (.imm (D.int data)), .ow (.lst ((s_2).map fun x => .imm (D.int x))), .ow (.imm (D.int x_3)), .un, .ow (.imm (D.int factor_10)), .ow (.imm (D.int s_9.1)), .ow (.imm (D.int s_9.2)), .un] rfl (bk_cons (st_set 3 (df_lc (put := fun c_12 : Int => [.ow (.imm (D.lst ((rows).map (fun xs : (List Int) => D.lst (xs.map D.int))))), .ow (.imm (D.int i_q)), .ow (.imm (D.int data)), .ow (.lst ((s_2).map fun x => .imm (D.int x))), .ow (.imm (D.int x_3)), .un, .ow (.imm (D.int factor_10)), .ow (.imm (D.int s_9.1)), .ow (.imm (D.int s_9.2)), .ow (.imm (D.int c_12))]) (N' := ["rows", "i", "data", "total", "j", "k", "factor", "over", "under", "at"]) (sc' := defScope s__law_spare) (ei := D.int) (et := fun y => .imm (D.int y)) [("at", 9)] rfl sc__law_spare.nd (di_range1 (dd_lenL (ei := D.int) (dl_own (ei := D.int) (db_var (emb := (fun xs : (List Int) => T.lst (xs.map fun x => T.imm (D.int x)))) 3 rfl)) Tx.b_len) Tx.b_range) (by exact ⟨rfl, rfl, rfl, rfl, rfl, rfl, rfl, rfl, trivial⟩) (fun _ _ _ _ _ c_12 => (dgc_name 9 sc__law_spare.nd)) (fun _ _ _ _ _ c_12 => dts_nil) (fun _ _ _ _ _ c_12 => df_of_dd (dd_xor (dd_ixL (ei := D.int) (dl_own (ei := D.int) (db_var (emb := (fun xs : (List Int) => T.lst (xs.map fun x => T.imm (D.int x)))) 3 rfl)) (dd_var (emb := D.int) 9 rfl)) (dd_imm (df_call (ok__law_mul Tx) (hr.mono (by decide)) Tx.g__law_mul Tx.F__law_mul.kp Tx.b__law_mul takes0 (da_cons (dd_var (emb := D.int) 6 rfl) (da_cons (dd_ixL (ei := D.int) (dl_imm (ei := D.int) (dd_ixL (ei := (fun xs : (List Int) => D.lst (xs.map D.int))) (dl_imm (ei := (fun xs : (List Int) => D.lst (xs.map D.int))) (dd_var (emb := (fun xs : (List (List Int)) => D.lst (xs.map (fun xs : (List Int) => D.lst (xs.map D.int))))) 0 rfl)) (dd_var (emb := D.int) 4 rfl))) (dd_var (emb := D.int) 9 rfl)) da_nil))))))) trivial rfl sc__law_spare.nd) fun total_11 => bk_nil (o := total_11) rfl ⟨rfl, rfl, rfl, rfl, trivial⟩)) ⟨rfl, rfl, rfl, rfl, trivial⟩ trivial) fun s_13 => bk_retV (o := s_13) 3 rfl rfl trivial

theorem sc__law_is_number : FnScope ["value"] ["value"] (defScope s__law_is_number) := ⟨rfl, rfl, rfl, by decide +kernel, rfl, by decide +kernel, by decide +kernel⟩
noncomputable def _law_is_number (value : Int) : R Bool :=
  (((R.ok value >>= fun _ => .ok true) >>= fun x => if x then ((R.ok value >>= fun _ => .ok false) >>= fun x => .ok !x) else .ok false) >>= fun r => .ok (r))
theorem ok__law_is_number (Tx : Tx K mg) : FnOk P w K mg base (L2.CX P w) 1 Tx.a__law_is_number Tx.d__law_is_number ["value"]
    (SpF ⟨K, mg⟩ (fun p : Int × Unit => [D.int p.1]) (fun r : Bool => .imm (D.bl r)) (fun p => _law_is_number p.1)) := by
  refine fn_pure Tx.F__law_is_number sc__law_is_number (fun _ => rfl) fun cdv A outer s H E hr p => ?_
  obtain ⟨value, _⟩ := p
  exact bk_ret (df_of_dd (dd_andB (dd_isi (emb := D.int) (t := "int") (u := "int") (dd_var (emb := D.int) 0 rfl) Tx.b_isinstance Tx.b_int (by decide +kernel) (fun _ => rfl) (by decide +kernel)) (dd_one (dd_notB (dd_isi (emb := D.int) (t := "int") (u := "bool") (dd_var (emb := D.int) 0 rfl) Tx.b_isinstance Tx.b_bool (by decide +kernel) (fun _ => rfl) (by decide +kernel)))))) (g := fun r => r) (fun _ => rfl) trivial trivial

theorem sc__law_is_row : FnScope ["row", "length", "octet"] ["row", "length"] (defScope s__law_is_row) := ⟨rfl, rfl, rfl, by decide +kernel, rfl, by decide +kernel, by decide +kernel⟩
noncomputable def _law_is_row (row : (List Int)) (length : Int) : R Bool :=
  ((((R.ok row >>= fun _ => .ok true) >>= fun x => .ok !x) >>= fun x => if x then .ok true else ((R.ok row >>= fun xs => .ok (xs.length : Int)) >>= fun x => R.ok length >>= fun y => .ok (!decide (x = y)))) >>= fun x => if x then (R.ok false >>= fun r => .ok (r)) else (((R.ok row >>= fun xs => compR (fun c_1 : Int => R.ok true) (fun c_1 : Int => (((R.ok c_1 >>= fun x => R.ok () >>= fun y => .ok (x, y)) >>= fun p : Int × Unit => (_law_is_number p.1)) >>= fun x => if x then ((R.ok (0 : Int) >>= fun x => R.ok c_1 >>= fun y => .ok (decide (x ≤ y))) >>= fun x => if x then (R.ok c_1 >>= fun x => R.ok (255 : Int) >>= fun y => .ok (decide (x ≤ y))) else .ok false) else .ok false)) xs) >>= fun xs => .ok (xs.all id)) >>= fun r => .ok (r)))
theorem ok__law_is_row (Tx : Tx K mg) : FnOk P w K mg base (L2.CX P w) 2 Tx.a__law_is_row Tx.d__law_is_row ["row", "length"]
    (SpF ⟨K, mg⟩ (fun p : (List Int) × Int × Unit => [D.lst ((p.1).map D.int), D.int p.2.1]) (fun r : Bool => .imm (D.bl r)) (fun p => _law_is_row p.1 p.2.1)) := by
  refine fn_pure Tx.F__law_is_row sc__law_is_row (fun _ => rfl) fun cdv A outer s H E hr p => ?_
  obtain ⟨row, length, _⟩ := p
  exact bk_ifX (dt_dw (dw_or (dt_not (dt_bl (dd_isi (emb := (fun xs : (List Int) => D.lst (xs.map D.int))) (t := "list") (u := "list") (dd_var (emb := (fun xs : (List Int) => D.lst (xs.map D.int))) 0 rfl) Tx.b_isinstance Tx.b_list (by decide +kernel) (fun _ => rfl) (by decide +kernel)))) (dw_one (dt_neI (dd_lenL (ei := D.int) (dl_imm (ei := D.int) (dd_var (emb := (fun xs : (List Int) => D.lst (xs.map D.int))) 0 rfl)) Tx.b_len) (dd_var (emb := D.int) 1 rfl)) (by first | exact .inl rfl | exact .inr rfl)))) (bk_ret (df_of_dd dd_bl) (g := fun r => r) (fun _ => rfl) trivial trivial) (bk_as [.ow (.imm (D.lst ((row).map D.int))), .ow (.imm (D.int length)), .un] rfl (bk_ret (df_of_dd (dd_all rfl (dl_own (ei := D.bl) (db_of_df (df_lc (put := fun c_1 : Int => [.ow (.imm (D.lst ((row).map D.int))), .ow (.imm (D.int length)), .ow (.imm (D.int c_1))]) (N' := ["row", "length", "octet"]) (sc' := defScope s__law_is_row) (ei := D.int) (et := fun y => .imm (D.bl y)) [("octet", 2)] rfl sc__law_is_row.nd (di_list (ei := D.int) (dd_var (emb := (fun xs : (List Int) => D.lst (xs.map D.int))) 0 rfl)) (by exact ⟨rfl, rfl, trivial⟩) (fun _ _ _ _ _ c_1 => (dgc_name 2 sc__law_is_row.nd)) (fun _ _ _ _ _ c_1 => dts_nil) (fun _ _ _ _ _ c_1 => df_of_dd (dd_andB (dd_imm (df_call (ok__law_is_number Tx) (hr.mono (by decide)) Tx.g__law_is_number Tx.F__law_is_number.kp Tx.b__law_is_number takes0 (da_cons (dd_var (emb := D.int) 2 rfl) da_nil))) (dd_andB (dd_le dd_int (dd_var (emb := D.int) 2 rfl)) (dd_one (dd_le (dd_var (emb := D.int) 2 rfl) dd_int)))))))) Tx.b_all)) (g := fun r => r) (fun _ => rfl) trivial trivial)) trivial

theorem sc_Config____init__ : FnScope ["self", "keepers", "shelves", "data", "spare", "sectors", "fits"] ["self", "keepers", "shelves", "data", "spare", "sectors"] (defScope s_Config____init__) := ⟨rfl, rfl, rfl, by decide +kernel, rfl, by decide +kernel, by decide +kernel⟩
noncomputable def Config____init___b (keepers : Int) (shelves : Int) (data : Int) (spare : Int) (sectors : Int) : R OConfig :=
  (((R.ok keepers >>= fun i => ((R.ok (1 : Int) >>= fun x => (R.ok (3 : Int) >>= fun x => (R.ok (5 : Int) >>= fun x => (R.ok (7 : Int) >>= fun x => R.ok () >>= fun y => .ok (x, y)) >>= fun y => .ok (x, y)) >>= fun y => .ok (x, y)) >>= fun y => .ok (x, y)) >>= fun p => .ok ((fun p : Int × Int × Int × Int × Unit => ([p.1, p.2.1, p.2.2.1, p.2.2.2.1] : (List Int))) p)) >>= fun xs => .ok (decide (i ∈ xs))) >>= fun x => if x then ((R.ok (1 : Int) >>= fun x => R.ok shelves >>= fun y => if (fun x y : Int => decide (x ≤ y)) x y then R.ok (24 : Int) >>= fun z => .ok ((fun x y : Int => decide (x ≤ y)) y z) else .ok false) >>= fun x => if x then (R.ok (1 : Int) >>= fun x => R.ok data >>= fun y => if (fun x y : Int => decide (x ≤ y)) x y then R.ok (16 : Int) >>= fun z => .ok ((fun x y : Int => decide (x ≤ y)) y z) else .ok false) else .ok false) else .ok false) >>= fun fits_1 => (((R.ok fits_1 >>= fun x => .ok !x) >>= fun x => if x then .ok true else ((R.ok spare >>= fun x => R.ok (0 : Int) >>= fun y => .ok (decide (x < y))) >>= fun x => if x then .ok true else (R.ok shelves >>= fun x => (R.ok data >>= fun x => (R.ok (2 : Int) >>= fun x => R.ok spare >>= fun y => ofO (mulO x y)) >>= fun y => .ok (x + y)) >>= fun y => .ok (decide (x < y))))) >>= fun x => if x then R.err ("BadConfig" : Str) else (((R.ok sectors >>= fun x => R.ok (4 : Int) >>= fun y => .ok (decide (x < y))) >>= fun x => if x then .ok true else (R.ok sectors >>= fun x => R.ok (4096 : Int) >>= fun y => .ok (decide (y < x)))) >>= fun x => if x then R.err ("BadConfig" : Str) else (R.ok keepers >>= fun f_2 => (R.ok shelves >>= fun f_3 => (R.ok data >>= fun f_4 => (R.ok spare >>= fun f_5 => (R.ok sectors >>= fun f_6 => R.ok (f_2, f_3, f_4, f_5, f_6)))))))))
noncomputable def Config____init__ (keepers : Int) (shelves : Int) (data : Int) (spare : Int) (sectors : Int) : R OConfig := noErr (Config____init___b keepers shelves data spare sectors)
theorem ok_Config____init__ (Tx : Tx K mg) : FnOk P w K mg base (L2.CX P w) 1 Tx.a_Config____init__ Tx.d_Config____init__ ["self", "keepers", "shelves", "data", "spare", "sectors"]
    (SpG ⟨K, mg⟩ (fun p : Int × Int × Int × Int × Int × Unit => [.tr (.obj "Config" [] []), .dt (D.int p.1), .dt (D.int p.2.1), .dt (D.int p.2.2.1), .dt (D.int p.2.2.2.1), .dt (D.int p.2.2.2.2.1)]) (fun _ => .imm .non) (fun r : OConfig => [eConfig r]) (fun p => Config____init__ p.1 p.2.1 p.2.2.1 p.2.2.2.1 p.2.2.2.2.1)) := by
  refine fn_genN (fun (p : Int × Int × Int × Int × Int × Unit) vs (r : OConfig) => { nx := some (slotsR [.tr (.obj "Config" [] []), .dt (D.int p.1), .dt (D.int p.2.1), .dt (D.int p.2.2.1), .dt (D.int p.2.2.2.1), .dt (D.int p.2.2.2.2.1)] vs ((fun r : OConfig => [eConfig r]) r) ++ List.replicate 1 .un), rt := some ((fun _ => .imm .non) r, slotsR [.tr (.obj "Config" [] []), .dt (D.int p.1), .dt (D.int p.2.1), .dt (D.int p.2.2.1), .dt (D.int p.2.2.2.1), .dt (D.int p.2.2.2.2.1)] vs ((fun r : OConfig => [eConfig r]) r) ++ List.replicate 1 .un) }) Tx.F_Config____init__ sc_Config____init__ (fun _ => rfl) (fun cdv A outer s H E hr p vs hv => ?_) (fun p vs r => ⟨.inr ⟨rfl, rfl⟩, .inr rfl, rfl, rfl⟩)
  obtain ⟨keepers, shelves, data, spare, sectors, _⟩ := p
  match vs, hv with
  | [v0, v1, v2, v3, v4, v5], _ =>
  exact bk_cons (st_set 6 (df_of_dd (dd_andB (dd_inT (dd_var (emb := D.int) 1 rfl) (dd_tup (et := (fun xs : (List Int) => D.tup (xs.map D.int))) (da_cons dd_int (da_cons dd_int (da_cons dd_int (da_cons dd_int da_nil)))) (fun p : Int × Int × Int × Int × Unit => ([p.1, p.2.1, p.2.2.1, p.2.2.2.1] : (List Int))))) (dd_andB (dd_chain (f := (fun x y : Int => decide (x ≤ y))) (g := (fun x y : Int => decide (x ≤ y))) op_le op_le dd_int (dd_var (emb := D.int) 2 rfl) dd_int) (dd_one (dd_chain (f := (fun x y : Int => decide (x ≤ y))) (g := (fun x y : Int => decide (x ≤ y))) op_le op_le dd_int (dd_var (emb := D.int) 3 rfl) dd_int))))) trivial rfl sc_Config____init__.nd) fun fits_1 => bk_ifX (dt_dw (dw_or (dt_not (dt_bl (dd_var (emb := D.bl) 6 rfl))) (dw_or (dt_lt (dd_var (emb := D.int) 4 rfl) dd_int) (dw_one (dt_lt (dd_var (emb := D.int) 2 rfl) (dd_add (dd_var (emb := D.int) 3 rfl) (dd_mul dd_int (dd_var (emb := D.int) 4 rfl)))) (by first | exact .inl rfl | exact .inr rfl))))) (bk_raise Tx.x_BadConfig rfl (takes_of rfl rfl rfl rfl) trivial) (bk_ifX (dt_dw (dw_or (dt_lt (dd_var (emb := D.int) 5 rfl) dd_int) (dw_one (dt_gt (dd_var (emb := D.int) 5 rfl) dd_int) (by first | exact .inl rfl | exact .inr rfl)))) (bk_raise Tx.x_BadConfig rfl (takes_of rfl rfl rfl rfl) trivial) (bk_cons (st_fldN 0 (dx_df (df_of_dd (dd_var (emb := D.int) 1 rfl))) (fun _ => rfl) (fun _ => rfl) ⟨Tx.gc_Config, Tx.cl_Config⟩ Tx.na_Config_keepers trivial) fun f_2 => bk_as [.pn v0 (.obj "Config" ["keepers"] [.imm (D.int f_2)]), .ow (.imm (D.int keepers)), .ow (.imm (D.int shelves)), .ow (.imm (D.int data)), .ow (.imm (D.int spare)), .ow (.imm (D.int sectors)), .ow (.imm (D.bl fits_1))] rfl (bk_cons (st_fldN 0 (dx_df (df_of_dd (dd_var (emb := D.int) 2 rfl))) (fun _ => rfl) (fun _ => rfl) ⟨Tx.gc_Config, Tx.cl_Config⟩ Tx.na_Config_shelves trivial) fun f_3 => bk_as [.pn v0 (.obj "Config" ["keepers", "shelves"] [.imm (D.int f_2), .imm (D.int f_3)]), .ow (.imm (D.int keepers)), .ow (.imm (D.int shelves)), .ow (.imm (D.int data)), .ow (.imm (D.int spare)), .ow (.imm (D.int sectors)), .ow (.imm (D.bl fits_1))] rfl (bk_cons (st_fldN 0 (dx_df (df_of_dd (dd_var (emb := D.int) 3 rfl))) (fun _ => rfl) (fun _ => rfl) ⟨Tx.gc_Config, Tx.cl_Config⟩ Tx.na_Config_data trivial) fun f_4 => bk_as [.pn v0 (.obj "Config" ["keepers", "shelves", "data"] [.imm (D.int f_2), .imm (D.int f_3), .imm (D.int f_4)]), .ow (.imm (D.int keepers)), .ow (.imm (D.int shelves)), .ow (.imm (D.int data)), .ow (.imm (D.int spare)), .ow (.imm (D.int sectors)), .ow (.imm (D.bl fits_1))] rfl (bk_cons (st_fldN 0 (dx_df (df_of_dd (dd_var (emb := D.int) 4 rfl))) (fun _ => rfl) (fun _ => rfl) ⟨Tx.gc_Config, Tx.cl_Config⟩ Tx.na_Config_spare trivial) fun f_5 => bk_as [.pn v0 (.obj "Config" ["keepers", "shelves", "data", "spare"] [.imm (D.int f_2), .imm (D.int f_3), .imm (D.int f_4), .imm (D.int f_5)]), .ow (.imm (D.int keepers)), .ow (.imm (D.int shelves)), .ow (.imm (D.int data)), .ow (.imm (D.int spare)), .ow (.imm (D.int sectors)), .ow (.imm (D.bl fits_1))] rfl (bk_cons (st_fldN 0 (dx_df (df_of_dd (dd_var (emb := D.int) 5 rfl))) (fun _ => rfl) (fun _ => rfl) ⟨Tx.gc_Config, Tx.cl_Config⟩ Tx.na_Config_sectors trivial) fun f_6 => bk_as [.pn v0 (eConfig (f_2, f_3, f_4, f_5, f_6)), .ow (.imm (D.int keepers)), .ow (.imm (D.int shelves)), .ow (.imm (D.int data)), .ow (.imm (D.int spare)), .ow (.imm (D.int sectors)), .ow (.imm (D.bl fits_1))] rfl (bk_nil (o := (f_2, f_3, f_4, f_5, f_6)) rfl ⟨rfl, rfl, trivial⟩)))))) trivial) trivial

theorem sc_law : FnScope ["script", "draws", "data", "spare", "shelves", "config", "size", "octets", "kept", "rows", "length", "plain", "row", "order", "pieces", "index", "count", "found", "few", "outside", "i"] ["script"] (defScope s_law) := ⟨rfl, rfl, rfl, by decide +kernel, rfl, by decide +kernel, by decide +kernel⟩
noncomputable def law (script : (List Int)) : R Bool :=
  (((R.ok script >>= fun x => (R.ok (46 : Int) >>= fun x => R.ok () >>= fun y => .ok (x, y)) >>= fun y => .ok (x, y)) >>= fun p : (List Int) × Int × Unit => (_law_draws p.1 p.2.1)) >>= fun draws_1 => ((R.ok (1 : Int) >>= fun x => ((R.ok draws_1 >>= fun xs => R.ok (42 : Int) >>= fun i => ofO (atI xs i)) >>= fun x => (((R.ok (5 : Int) >>= fun x => (R.ok (16 : Int) >>= fun x => R.ok () >>= fun y => .ok (x, y)) >>= fun y => .ok (x, y)) >>= fun p => .ok ((fun p : Int × Int × Unit => ([p.1, p.2.1] : List Int)) p)) >>= fun xs => ((((R.ok draws_1 >>= fun xs => R.ok (39 : Int) >>= fun i => ofO (atI xs i)) >>= fun x => .ok (x % 4)) >>= fun x => R.ok (1 : Int) >>= fun y => .ok (decide (x = y))) >>= fun b => .ok (if b then 1 else 0)) >>= fun i => ofO (atI xs i)) >>= fun y => ofO (modO x y)) >>= fun y => .ok (x + y)) >>= fun data_2 => (((R.ok draws_1 >>= fun xs => R.ok (43 : Int) >>= fun i => ofO (atI xs i)) >>= fun x => .ok (x % 3)) >>= fun spare_3 => (((R.ok data_2 >>= fun x => (R.ok (2 : Int) >>= fun x => R.ok spare_3 >>= fun y => ofO (mulO x y)) >>= fun y => .ok (x + y)) >>= fun x => ((R.ok draws_1 >>= fun xs => R.ok (44 : Int) >>= fun i => ofO (atI xs i)) >>= fun x => .ok (x % 3)) >>= fun y => .ok (x + y)) >>= fun shelves_4 => (((R.ok (1 : Int) >>= fun x => (R.ok shelves_4 >>= fun x => (R.ok data_2 >>= fun x => (R.ok spare_3 >>= fun x => (R.ok (64 : Int) >>= fun x => R.ok () >>= fun y => .ok (x, y)) >>= fun y => .ok (x, y)) >>= fun y => .ok (x, y)) >>= fun y => .ok (x, y)) >>= fun y => .ok (x, y)) >>= fun y : Int × Int × Int × Int × Int × Unit => Config____init__ y.1 y.2.1 y.2.2.1 y.2.2.2.1 y.2.2.2.2.1 >>= fun r => .ok (y, r)) >>= fun config_5 => ((((R.ok (1 : Int) >>= fun x => (R.ok (2 : Int) >>= fun x => (R.ok data_2 >>= fun x => ((R.ok data_2 >>= fun x => R.ok (1 : Int) >>= fun y => .ok (x + y)) >>= fun x => (R.ok (63 : Int) >>= fun x => (R.ok (64 : Int) >>= fun x => ((R.ok (1 : Int) >>= fun x => ((R.ok draws_1 >>= fun xs => R.ok (45 : Int) >>= fun i => ofO (atI xs i)) >>= fun x => .ok (x % 64)) >>= fun y => .ok (x + y)) >>= fun x => R.ok () >>= fun y => .ok (x, y)) >>= fun y => .ok (x, y)) >>= fun y => .ok (x, y)) >>= fun y => .ok (x, y)) >>= fun y => .ok (x, y)) >>= fun y => .ok (x, y)) >>= fun y => .ok (x, y)) >>= fun p => .ok ((fun p : Int × Int × Int × Int × Int × Int × Int × Unit => ([p.1, p.2.1, p.2.2.1, p.2.2.2.1, p.2.2.2.2.1, p.2.2.2.2.2.1, p.2.2.2.2.2.2.1] : List Int)) p)) >>= fun xs => ((R.ok draws_1 >>= fun xs => R.ok (41 : Int) >>= fun i => ofO (atI xs i)) >>= fun x => .ok (x % 7)) >>= fun i => ofO (atI xs i)) >>= fun size_6 => (((R.ok draws_1 >>= fun x => (R.ok size_6 >>= fun x => R.ok () >>= fun y => .ok (x, y)) >>= fun y => .ok (x, y)) >>= fun p : (List Int) × Int × Unit => (_law_octets p.1 p.2.1)) >>= fun octets_8 => (R.ok octets_8 >>= fun kept_9 => (((R.ok config_5.2 >>= fun x => (R.ok octets_8 >>= fun x => R.ok () >>= fun y => .ok (x, y)) >>= fun y => .ok (x, y)) >>= fun p : OConfig × (List Int) × Unit => (fragments p.1 p.2.1)) >>= fun rows_11 => ((((R.ok size_6 >>= fun x => R.ok data_2 >>= fun y => .ok (x + y)) >>= fun x => R.ok (1 : Int) >>= fun y => .ok (x - y)) >>= fun x => R.ok data_2 >>= fun y => ofO (divO x y)) >>= fun length_12 => ((((R.ok rows_11 >>= fun _ => .ok true) >>= fun x => .ok !x) >>= fun x => if x then .ok true else (((R.ok rows_11 >>= fun xs => .ok (xs.length : Int)) >>= fun x => R.ok shelves_4 >>= fun y => .ok (!decide (x = y))) >>= fun x => if x then .ok true else (R.ok octets_8 >>= fun x => R.ok kept_9 >>= fun y => ofO ((eqO (D.lst ((x).map D.int)) (D.lst ((y).map D.int))).map (true != ·))))) >>= fun x => if x then (R.ok false >>= fun r => .ok (r)) else ((((R.ok rows_11 >>= fun xs => compR (fun c_13 : (List Int) => R.ok true) (fun c_13 : (List Int) => ((R.ok c_13 >>= fun x => (R.ok length_12 >>= fun x => R.ok () >>= fun y => .ok (x, y)) >>= fun y => .ok (x, y)) >>= fun p : (List Int) × Int × Unit => (_law_is_row p.1 p.2.1))) xs) >>= fun xs => .ok (xs.all id)) >>= fun x => .ok !x) >>= fun x => if x then (R.ok false >>= fun r => .ok (r)) else ((R.ok () >>= fun p => .ok ((fun p : Unit => ([] : List Int)) p)) >>= fun plain_14 => (((R.ok rows_11 >>= fun xs => R.ok none >>= fun i => (R.ok data_2 >>= fun i => .ok (some i)) >>= fun j => .ok (cutL xs i j)) >>= fun xs => forS (fun (x_16 : (List Int)) (s_15 : (List Int)) => ((R.ok s_15 >>= fun xs => R.ok x_16 >>= fun ys => ofO (catO xs ys)) >>= fun plain_17 => R.ok plain_17)) xs plain_14) >>= fun s_18 : (List Int) => ((R.ok s_18 >>= fun x => (R.ok kept_9 >>= fun xs => (((R.ok (0 : Int) >>= fun x => R.ok () >>= fun y => .ok (x, y)) >>= fun p => .ok ((fun p : Int × Unit => ([p.1] : List Int)) p)) >>= fun xs => ((R.ok data_2 >>= fun x => R.ok length_12 >>= fun y => ofO (mulO x y)) >>= fun x => R.ok size_6 >>= fun y => .ok (x - y)) >>= fun k => ofO (repO xs k)) >>= fun ys => ofO (catO xs ys)) >>= fun y => ofO ((eqO (D.lst ((x).map D.int)) (D.lst ((y).map D.int))).map (true != ·))) >>= fun x => if x then (R.ok false >>= fun r => .ok (r)) else ((((R.ok data_2 >>= fun lo => R.ok shelves_4 >>= fun hi => ofO (rangeO lo hi)) >>= fun xs => compR (fun c_19 : Int => R.ok true) (fun c_19 : Int => ((R.ok rows_11 >>= fun x => (R.ok c_19 >>= fun x => (R.ok data_2 >>= fun x => R.ok () >>= fun y => .ok (x, y)) >>= fun y => .ok (x, y)) >>= fun y => .ok (x, y)) >>= fun p : (List (List Int)) × Int × Int × Unit => (_law_spare p.1 p.2.1 p.2.2.1))) xs) >>= fun x => (R.ok rows_11 >>= fun xs => (R.ok data_2 >>= fun i => .ok (some i)) >>= fun i => R.ok none >>= fun j => .ok (cutL xs i j)) >>= fun y => ofO ((eqO (D.lst ((x).map (fun xs : (List Int) => D.lst (xs.map D.int)))) (D.lst ((y).map (fun xs : (List Int) => D.lst (xs.map D.int))))).map (true != ·))) >>= fun x => if x then (R.ok false >>= fun r => .ok (r)) else (((R.ok draws_1 >>= fun x => (R.ok shelves_4 >>= fun x => R.ok () >>= fun y => .ok (x, y)) >>= fun y => .ok (x, y)) >>= fun p : (List Int) × Int × Unit => (_law_order p.1 p.2.1)) >>= fun order_20 => (R.ok ([] : (List (Int × (List Int)))) >>= fun pieces_21 => (((R.ok order_20 >>= fun xs => R.ok none >>= fun i => ((R.ok data_2 >>= fun x => (((R.ok draws_1 >>= fun xs => R.ok (40 : Int) >>= fun i => ofO (atI xs i)) >>= fun x => .ok (x % 2)) >>= fun x => (R.ok shelves_4 >>= fun x => R.ok data_2 >>= fun y => .ok (x - y)) >>= fun y => ofO (mulO x y)) >>= fun y => .ok (x + y)) >>= fun i => .ok (some i)) >>= fun j => .ok (cutL xs i j)) >>= fun xs => forS (fun (x_23 : Int) (s_22 : (List (Int × (List Int)))) => (((R.ok rows_11 >>= fun xs => R.ok x_23 >>= fun i => ofO (atI xs i)) >>= fun x => R.ok x_23 >>= fun k => ofO (putDO s_22 k x)) >>= fun pieces_24 => R.ok pieces_24)) xs pieces_21) >>= fun s_25 : (List (Int × (List Int))) => ((R.ok s_25 >>= fun xs => .ok (xs.length : Int)) >>= fun count_26 => (((R.ok config_5.2 >>= fun x => (R.ok s_25 >>= fun x => (R.ok size_6 >>= fun x => R.ok () >>= fun y => .ok (x, y)) >>= fun y => .ok (x, y)) >>= fun y => .ok (x, y)) >>= fun p : OConfig × (List (Int × (List Int))) × Int × Unit => (whole_blob p.1 p.2.1 p.2.2.1)) >>= fun found_27 => ((((R.ok found_27 >>= fun _ => .ok true) >>= fun x => .ok !x) >>= fun x => if x then .ok true else ((R.ok found_27 >>= fun x => R.ok kept_9 >>= fun y => ofO ((eqO (D.lst ((x).map D.int)) (D.lst ((y).map D.int))).map (true != ·))) >>= fun x => if x then .ok true else ((R.ok s_25 >>= fun xs => .ok (xs.length : Int)) >>= fun x => R.ok count_26 >>= fun y => .ok (!decide (x = y))))) >>= fun x => if x then (R.ok false >>= fun r => .ok (r)) else (R.ok ([] : (List (Int × (List Int)))) >>= fun few_28 => (((R.ok order_20 >>= fun xs => R.ok none >>= fun i => ((R.ok data_2 >>= fun x => R.ok (1 : Int) >>= fun y => .ok (x - y)) >>= fun i => .ok (some i)) >>= fun j => .ok (cutL xs i j)) >>= fun xs => forS (fun (x_30 : Int) (s_29 : (List (Int × (List Int)))) => (((R.ok rows_11 >>= fun xs => R.ok x_30 >>= fun i => ofO (atI xs i)) >>= fun x => R.ok x_30 >>= fun k => ofO (putDO s_29 k x)) >>= fun few_31 => R.ok few_31)) xs few_28) >>= fun s_32 : (List (Int × (List Int))) => ((((R.ok config_5.2 >>= fun x => (R.ok s_32 >>= fun x => (R.ok size_6 >>= fun x => R.ok () >>= fun y => .ok (x, y)) >>= fun y => .ok (x, y)) >>= fun y => .ok (x, y)) >>= fun p : OConfig × (List (Int × (List Int))) × Int × Unit => (_law_error p.1 p.2.1 p.2.2.1)) >>= fun x => R.ok ("few" : Str) >>= fun y => .ok (!decide (x = y))) >>= fun x => if x then (R.ok false >>= fun r => .ok (r)) else ((((R.ok shelves_4 >>= fun x => ((R.ok (1 : Int) >>= fun x => .ok (-x)) >>= fun x => ((R.ok shelves_4 >>= fun x => R.ok (7 : Int) >>= fun y => .ok (x + y)) >>= fun x => R.ok () >>= fun y => .ok (x, y)) >>= fun y => .ok (x, y)) >>= fun y => .ok (x, y)) >>= fun p => .ok ((fun p : Int × Int × Int × Unit => ([p.1, p.2.1, p.2.2.1] : List Int)) p)) >>= fun xs => ((R.ok draws_1 >>= fun xs => R.ok (38 : Int) >>= fun i => ofO (atI xs i)) >>= fun x => .ok (x % 3)) >>= fun i => ofO (atI xs i)) >>= fun outside_33 => (((((R.ok (1 : Int) >>= fun x => R.ok () >>= fun y => .ok (x, y)) >>= fun p => .ok ((fun p : Int × Unit => ([p.1] : List Int)) p)) >>= fun x => ((((((R.ok rows_11 >>= fun xs => (R.ok order_20 >>= fun xs => R.ok (0 : Int) >>= fun i => ofO (atI xs i)) >>= fun i => ofO (atI xs i)) >>= fun xs => ((R.ok (0 : Int) >>= fun x => R.ok () >>= fun y => .ok (x, y)) >>= fun p => .ok ((fun p : Int × Unit => ([p.1] : List Int)) p)) >>= fun ys => ofO (catO xs ys)) >>= fun x => ((R.ok () >>= fun p => .ok ((fun p : Unit => ([] : List Int)) p)) >>= fun x => R.ok () >>= fun y => .ok (x, y)) >>= fun y => .ok (x, y)) >>= fun p => .ok ((fun p : (List Int) × (List Int) × Unit => ([p.1, p.2.1] : List (List Int))) p)) >>= fun xs => ((R.ok draws_1 >>= fun xs => R.ok (37 : Int) >>= fun i => ofO (atI xs i)) >>= fun x => .ok (x % 2)) >>= fun i => ofO (atI xs i)) >>= fun x => R.ok () >>= fun y => .ok (x, y)) >>= fun y => .ok (x, y)) >>= fun x : (List Int) × (List Int) × Unit => ofO ((okO (R.ok outside_33 : R Int)).bind fun k0 => (putDO s_32 k0 x.1).bind fun z0 => (okO ((R.ok order_20 >>= fun xs => R.ok (0 : Int) >>= fun i => ofO (atI xs i)) : R Int)).bind fun k1 => (putDO s_25 k1 x.2.1).bind fun z1 => some (z0, z1))) >>= fun d_34 : (List (Int × (List Int))) × (List (Int × (List Int))) => ((((R.ok config_5.2 >>= fun x => (R.ok d_34.1 >>= fun x => (R.ok size_6 >>= fun x => R.ok () >>= fun y => .ok (x, y)) >>= fun y => .ok (x, y)) >>= fun y => .ok (x, y)) >>= fun p : OConfig × (List (Int × (List Int))) × Int × Unit => (_law_error p.1 p.2.1 p.2.2.1)) >>= fun x => R.ok ("index" : Str) >>= fun y => .ok (!decide (x = y))) >>= fun x => if x then (R.ok false >>= fun r => .ok (r)) else (((((R.ok d_34.2 >>= fun xs => .ok (xs.length : Int)) >>= fun x => R.ok (1 : Int) >>= fun y => .ok (decide (y < x))) >>= fun x => if x then .ok true else ((R.ok d_34.2 >>= fun kvs => (R.ok order_20 >>= fun xs => R.ok (0 : Int) >>= fun i => ofO (atI xs i)) >>= fun k => ofO (getD_ kvs k)) >>= fun x => (R.ok () >>= fun p => .ok ((fun p : Unit => ([] : List Int)) p)) >>= fun y => ofO ((eqO (D.lst ((x).map D.int)) (D.lst ((y).map D.int))).map (false != ·)))) >>= fun x => if x then ((((R.ok config_5.2 >>= fun x => (R.ok d_34.2 >>= fun x => (R.ok size_6 >>= fun x => R.ok () >>= fun y => .ok (x, y)) >>= fun y => .ok (x, y)) >>= fun y => .ok (x, y)) >>= fun p : OConfig × (List (Int × (List Int))) × Int × Unit => (_law_error p.1 p.2.1 p.2.2.1)) >>= fun x => R.ok ("unequal" : Str) >>= fun y => .ok (!decide (x = y))) >>= fun x => if x then (R.ok false >>= fun r => .ok (Sum.inr (r))) else R.ok (Sum.inl ())) else R.ok (Sum.inl ())) >>= sumK (fun j_35 : Unit => ((((R.ok (1 : Int) >>= fun x => R.ok () >>= fun y => .ok (x, y)) >>= fun p => .ok ((fun p : Int × Unit => ([p.1] : List Int)) p)) >>= fun x => R.ok outside_33 >>= fun k => ofO (putDO d_34.2 k x)) >>= fun pieces_36 => ((((R.ok config_5.2 >>= fun x => (R.ok pieces_36 >>= fun x => (R.ok size_6 >>= fun x => R.ok () >>= fun y => .ok (x, y)) >>= fun y => .ok (x, y)) >>= fun y => .ok (x, y)) >>= fun p : OConfig × (List (Int × (List Int))) × Int × Unit => (_law_error p.1 p.2.1 p.2.2.1)) >>= fun x => R.ok ("index" : Str) >>= fun y => .ok (decide (x = y))) >>= fun r => .ok (r)))) .ok)))))))))))))))))))))))))))))
theorem ok_law (Tx : Tx K mg) : FnOk P w K mg base (L2.CX P w) 10 Tx.a_law Tx.d_law ["script"]
    (SpF ⟨K, mg⟩ (fun p : (List Int) × Unit => [D.frl ((p.1).map D.int)]) (fun r : Bool => .imm (D.bl r)) (fun p => law p.1)) := by
  refine fn_pure Tx.F_law sc_law (fun _ => rfl) fun cdv A outer s H E hr p => ?_
  obtain ⟨script, _⟩ := p
  exact bk_cons (st_set 1 (df_call (ok__law_draws Tx) (hr.mono (by decide)) Tx.g__law_draws Tx.F__law_draws.kp Tx.b__law_draws (takes_of rfl rfl rfl rfl) (da_cons (ea := (fun xs : (List Int) => D.frl (xs.map D.int))) (dd_var (emb := (fun xs : (List Int) => D.frl (xs.map D.int))) 0 rfl) (da_cons dd_int da_nil))) trivial rfl sc_law.nd) fun draws_1 => bk_cons (st_set 2 (df_of_dd (dd_add dd_int (dd_mod (dd_intI (dd_ixL (ei := D.int) (dl_own (ei := D.int) (db_var (emb := (fun xs : (List Int) => T.lst (xs.map fun x => T.imm (D.int x)))) 1 rfl)) dd_int) Tx.b_int) (dd_ixL (ei := D.int) (dl_own (ei := D.int) (db_of_df (df_disp (ei := D.int) (da_cons dd_int (da_cons dd_int da_nil)) (fun p : Int × Int × Unit => ([p.1, p.2.1] : List Int))))) (dd_intB (dd_eqI (dd_modC (dd_intI (dd_ixL (ei := D.int) (dl_own (ei := D.int) (db_var (emb := (fun xs : (List Int) => T.lst (xs.map fun x => T.imm (D.int x)))) 1 rfl)) dd_int) Tx.b_int) dd_int (by decide)) dd_int) Tx.b_int))))) trivial rfl sc_law.nd) fun data_2 => bk_cons (st_set 3 (df_of_dd (dd_modC (dd_intI (dd_ixL (ei := D.int) (dl_own (ei := D.int) (db_var (emb := (fun xs : (List Int) => T.lst (xs.map fun x => T.imm (D.int x)))) 1 rfl)) dd_int) Tx.b_int) dd_int (by decide))) trivial rfl sc_law.nd) fun spare_3 => bk_cons (st_set 4 (df_of_dd (dd_add (dd_add (dd_var (emb := D.int) 2 rfl) (dd_mul dd_int (dd_var (emb := D.int) 3 rfl))) (dd_modC (dd_intI (dd_ixL (ei := D.int) (dl_own (ei := D.int) (db_var (emb := (fun xs : (List Int) => T.lst (xs.map fun x => T.imm (D.int x)))) 1 rfl)) dd_int) Tx.b_int) dd_int (by decide)))) trivial rfl sc_law.nd) fun shelves_4 => bk_cons (st_setX 5 (dx_make (g := fun p : Int × Int × Int × Int × Int × Unit => Config____init__ p.1 p.2.1 p.2.2.1 p.2.2.2.1 p.2.2.2.2.1) (eb := eConfig) (pr := fun _ => []) (fun r : OConfig => r) (fun z : Int × Int × Int × Int × Int × Unit => z) (fun _ => [.ow (.imm (D.frl ((script).map D.int))), .ow (.lst ((draws_1).map fun x => .imm (D.int x))), .ow (.imm (D.int data_2)), .ow (.imm (D.int spare_3)), .ow (.imm (D.int shelves_4)), .un, .un, .un, .un, .un, .un, .un, .un, .un, .un, .un, .un, .un, .un, .un, .un]) Tx.mk_Config (ok_Config____init__ Tx) (hr.mono (by decide)) ⟨Tx.gc_Config, Tx.cl_Config⟩ Tx.b_Config____init__ (takes_of rfl rfl rfl rfl) (dam_dd (ec := D.int) dd_int (dam_dd (ec := D.int) (dd_var (emb := D.int) 4 rfl) (dam_dd (ec := D.int) (dd_var (emb := D.int) 2 rfl) (dam_dd (ec := D.int) (dd_var (emb := D.int) 3 rfl) (dam_dd (ec := D.int) dd_int dam_nil))))) (fun _ _ => trivial) (fun _ => List.nodup_nil) (fun _ => rfl) (fun _ => rfl) (fun _ _ _ => rfl)) trivial (fun _ => rfl) sc_law.nd) fun config_5 => bk_as [.ow (.imm (D.frl ((script).map D.int))), .ow (.lst ((draws_1).map fun x => .imm (D.int x))), .ow (.imm (D.int data_2)), .ow (.imm (D.int spare_3)), .ow (.imm (D.int shelves_4)), .ow (eConfig config_5.2), .un, .un, .un, .un, .un, .un, .un, .un, .un, .un, .un, .un, .un, .un, .un] rfl (bk_cons (st_set 6 (df_of_dd (dd_ixL (ei := D.int) (dl_own (ei := D.int) (db_of_df (df_disp (ei := D.int) (da_cons dd_int (da_cons dd_int (da_cons (dd_var (emb := D.int) 2 rfl) (da_cons (dd_add (dd_var (emb := D.int) 2 rfl) dd_int) (da_cons dd_int (da_cons dd_int (da_cons (dd_add dd_int (dd_modC (dd_intI (dd_ixL (ei := D.int) (dl_own (ei := D.int) (db_var (emb := (fun xs : (List Int) => T.lst (xs.map fun x => T.imm (D.int x)))) 1 rfl)) dd_int) Tx.b_int) dd_int (by decide))) da_nil))))))) (fun p : Int × Int × Int × Int × Int × Int × Int × Unit => ([p.1, p.2.1, p.2.2.1, p.2.2.2.1, p.2.2.2.2.1, p.2.2.2.2.2.1, p.2.2.2.2.2.2.1] : List Int))))) (dd_modC (dd_intI (dd_ixL (ei := D.int) (dl_own (ei := D.int) (db_var (emb := (fun xs : (List Int) => T.lst (xs.map fun x => T.imm (D.int x)))) 1 rfl)) dd_int) Tx.b_int) dd_int (by decide)))) trivial rfl sc_law.nd) fun size_6 => bk_freezeL (ei := D.int) 1 rfl (bk_cons (st_set 7 (df_call (ok__law_octets Tx) (hr.mono (by decide)) Tx.g__law_octets Tx.F__law_octets.kp Tx.b__law_octets (takes_of rfl rfl rfl rfl) (da_cons (ea := (fun xs : (List Int) => D.lst (xs.map D.int))) (dd_var (emb := (fun xs : (List Int) => D.lst (xs.map D.int))) 1 rfl) (da_cons (dd_var (emb := D.int) 6 rfl) da_nil))) trivial rfl sc_law.nd) fun octets_8 => bk_cons (st_set 8 (df_listL (ei := D.int) (dl_own (ei := D.int) (db_var (emb := (fun xs : (List Int) => T.lst (xs.map fun x => T.imm (D.int x)))) 7 rfl)) Tx.b_list) trivial rfl sc_law.nd) fun kept_9 => bk_freezeL (ei := D.int) 7 rfl (bk_cons (st_set 9 (df_of_dd (dd_imm (df_callL (ok_fragments Tx) (hr.mono (by decide)) Tx.g_fragments Tx.F_fragments.kp Tx.b_fragments (takes_of rfl rfl rfl rfl) (dal_db (db_see (emb := eConfig) (x := config_5.2) 5 rfl rfl) (dal_dd (dd_var (emb := (fun xs : (List Int) => D.lst (xs.map D.int))) 7 rfl) dal_nil))))) trivial rfl sc_law.nd) fun rows_11 => bk_cons (st_set 10 (df_of_dd (dd_div (dd_sub (dd_add (dd_var (emb := D.int) 6 rfl) (dd_var (emb := D.int) 2 rfl)) dd_int) (dd_var (emb := D.int) 2 rfl))) trivial rfl sc_law.nd) fun length_12 => bk_ifX (dt_dw (dw_or (dt_not (dt_bl (dd_isi (emb := (fun xs : (List (List Int)) => D.lst (xs.map (fun xs : (List Int) => D.lst (xs.map D.int))))) (t := "list") (u := "list") (dd_var (emb := (fun xs : (List (List Int)) => D.lst (xs.map (fun xs : (List Int) => D.lst (xs.map D.int))))) 9 rfl) Tx.b_isinstance Tx.b_list (by decide +kernel) (fun _ => rfl) (by decide +kernel)))) (dw_or (dt_neI (dd_lenL (ei := (fun xs : (List Int) => D.lst (xs.map D.int))) (dl_imm (ei := (fun xs : (List Int) => D.lst (xs.map D.int))) (dd_var (emb := (fun xs : (List (List Int)) => D.lst (xs.map (fun xs : (List Int) => D.lst (xs.map D.int))))) 9 rfl)) Tx.b_len) (dd_var (emb := D.int) 4 rfl)) (dw_one (dt_ne (ea := (fun xs : (List Int) => D.lst (xs.map D.int))) (eb := (fun xs : (List Int) => D.lst (xs.map D.int))) hr.units (de_dl (ei := D.int) (dl_imm (ei := D.int) (dd_var (emb := (fun xs : (List Int) => D.lst (xs.map D.int))) 7 rfl))) (de_dl (ei := D.int) (dl_own (ei := D.int) (db_var (emb := (fun xs : (List Int) => T.lst (xs.map fun x => T.imm (D.int x)))) 8 rfl)))) (by first | exact .inl rfl | exact .inr rfl))))) (bk_ret (df_of_dd dd_bl) (g := fun r => r) (fun _ => rfl) trivial trivial) (bk_as [.ow (.imm (D.frl ((script).map D.int))), .ow (.imm (D.lst ((draws_1).map D.int))), .ow (.imm (D.int data_2)), .ow (.imm (D.int spare_3)), .ow (.imm (D.int shelves_4)), .ow (eConfig config_5.2), .ow (.imm (D.int size_6)), .ow (.imm (D.lst ((octets_8).map D.int))), .ow (.lst ((kept_9).map fun x => .imm (D.int x))), .ow (.imm (D.lst ((rows_11).map (fun xs : (List Int) => D.lst (xs.map D.int))))), .ow (.imm (D.int length_12)), .un, .un, .un, .un, .un, .un, .un, .un, .un, .un] rfl (bk_ifX (dt_not (dt_bl (dd_all rfl (dl_own (ei := D.bl) (db_of_df (df_lc (put := fun c_13 : (List Int) => [.ow (.imm (D.frl ((script).map D.int))), .ow (.imm (D.lst ((draws_1).map D.int))), .ow (.imm (D.int data_2)), .ow (.imm (D.int spare_3)), .ow (.imm (D.int shelves_4)), .ow (eConfig config_5.2), .ow (.imm (D.int size_6)), .ow (.imm (D.lst ((octets_8).map D.int))), .ow (.lst ((kept_9).map fun x => .imm (D.int x))), .ow (.imm (D.lst ((rows_11).map (fun xs : (List Int) => D.lst (xs.map D.int))))), .ow (.imm (D.int length_12)), .un, .ow (.imm (D.lst ((c_13).map D.int))), .un, .un, .un, .un, .un, .un, .un, .un]) (N' := ["script", "draws", "data", "spare", "shelves", "config", "size", "octets", "kept", "rows", "length", "plain", "row", "order", "pieces", "index", "count", "found", "few", "outside", "i"]) (sc' := defScope s_law) (ei := (fun xs : (List Int) => D.lst (xs.map D.int))) (et := fun y => .imm (D.bl y)) [("row", 12)] rfl sc_law.nd (di_list (ei := (fun xs : (List Int) => D.lst (xs.map D.int))) (dd_var (emb := (fun xs : (List (List Int)) => D.lst (xs.map (fun xs : (List Int) => D.lst (xs.map D.int))))) 9 rfl)) (by exact ⟨rfl, rfl, rfl, rfl, rfl, rfl, rfl, rfl, rfl, rfl, rfl, trivial⟩) (fun _ _ _ _ _ c_13 => (dgc_name 12 sc_law.nd)) (fun _ _ _ _ _ c_13 => dts_nil) (fun _ _ _ _ _ c_13 => df_of_dd (dd_imm (df_call (ok__law_is_row Tx) (hr.mono (by decide)) Tx.g__law_is_row Tx.F__law_is_row.kp Tx.b__law_is_row takes0 (da_cons (ea := (fun xs : (List Int) => D.lst (xs.map D.int))) (dd_var (emb := (fun xs : (List Int) => D.lst (xs.map D.int))) 12 rfl) (da_cons (dd_var (emb := D.int) 10 rfl) da_nil)))))))) Tx.b_all))) (bk_ret (df_of_dd dd_bl) (g := fun r => r) (fun _ => rfl) trivial trivial) (bk_cons (st_set 11 (df_disp (ei := D.int) da_nil (fun p : Unit => ([] : List Int))) trivial rfl sc_law.nd) fun plain_14 => bk_cons (Γ1 := fun s_15 : (List Int) => [.ow (.imm (D.frl ((script).map D.int))), .ow (.imm (D.lst ((draws_1).map D.int))), .ow (.imm (D.int data_2)), .ow (.imm (D.int spare_3)), .ow (.imm (D.int shelves_4)), .ow (eConfig config_5.2), .ow (.imm (D.int size_6)), .ow (.imm (D.lst ((octets_8).map D.int))), .ow (.lst ((kept_9).map fun x => .imm (D.int x))), .ow (.imm (D.lst ((rows_11).map (fun xs : (List Int) => D.lst (xs.map D.int))))), .ow (.imm (D.int length_12)), .ow (.lst ((s_15).map fun x => .imm (D.int x))), .un, .un, .un, .un, .un, .un, .un, .un, .un]) (st_forS (Γs := fun s_15 : (List Int) => [.ow (.imm (D.frl ((script).map D.int))), .ow (.imm (D.lst ((draws_1).map D.int))), .ow (.imm (D.int data_2)), .ow (.imm (D.int spare_3)), .ow (.imm (D.int shelves_4)), .ow (eConfig config_5.2), .ow (.imm (D.int size_6)), .ow (.imm (D.lst ((octets_8).map D.int))), .ow (.lst ((kept_9).map fun x => .imm (D.int x))), .ow (.imm (D.lst ((rows_11).map (fun xs : (List Int) => D.lst (xs.map D.int))))), .ow (.imm (D.int length_12)), .ow (.lst ((s_15).map fun x => .imm (D.int x))), .un, .un, .un, .un, .un, .un, .un, .un, .un]) (ei := (fun xs : (List Int) => D.lst (xs.map D.int))) plain_14 (passes_of rfl) rfl (di_list (ei := (fun xs : (List Int) => D.lst (xs.map D.int))) (dd_list (ε := (fun xs : (List Int) => D.lst (xs.map D.int))) (df_slL (ei := (fun xs : (List Int) => D.lst (xs.map D.int))) (dl_imm (ei := (fun xs : (List Int) => D.lst (xs.map D.int))) (dd_var (emb := (fun xs : (List (List Int)) => D.lst (xs.map (fun xs : (List Int) => D.lst (xs.map D.int))))) 9 rfl)) do_none (do_some (dd_var (emb := D.int) 2 rfl))))) (fun s_15 x_16 => (dg_name 12 sc_law.nd)) (fun s_15 x_16 => bk_cons (st_set 11 (df_cat (ei := D.int) (dlt_own (ei := D.int) (db_var (emb := (fun xs : (List Int) => T.lst (xs.map fun x => T.imm (D.int x)))) 11 rfl)) (dlt_imm (ei := D.int) (dd_var (emb := (fun xs : (List Int) => D.lst (xs.map D.int))) 12 rfl))) trivial rfl sc_law.nd) fun plain_17 => bk_nil (o := plain_17) rfl ⟨rfl, rfl, rfl, rfl, rfl, rfl, rfl, rfl, rfl, rfl, rfl, rfl, trivial⟩) ⟨rfl, rfl, rfl, rfl, rfl, rfl, rfl, rfl, rfl, rfl, rfl, rfl, trivial⟩ trivial) fun s_18 => bk_ifX (dt_ne (ea := (fun xs : (List Int) => D.lst (xs.map D.int))) (eb := (fun xs : (List Int) => D.lst (xs.map D.int))) hr.units (de_dl (ei := D.int) (dl_own (ei := D.int) (db_var (emb := (fun xs : (List Int) => T.lst (xs.map fun x => T.imm (D.int x)))) 11 rfl))) (de_dl (ei := D.int) (dl_own (ei := D.int) (db_of_df (df_cat (ei := D.int) (dlt_own (ei := D.int) (db_var (emb := (fun xs : (List Int) => T.lst (xs.map fun x => T.imm (D.int x)))) 8 rfl)) (dlt_own (ei := D.int) (db_of_df (df_rep (ei := D.int) (dlt_own (ei := D.int) (db_of_df (df_disp (ei := D.int) (da_cons dd_int da_nil) (fun p : Int × Unit => ([p.1] : List Int))))) (dd_sub (dd_mul (dd_var (emb := D.int) 2 rfl) (dd_var (emb := D.int) 10 rfl)) (dd_var (emb := D.int) 6 rfl)))))))))) (bk_ret (df_of_dd dd_bl) (g := fun r => r) (fun _ => rfl) trivial trivial) (bk_as [.ow (.imm (D.frl ((script).map D.int))), .ow (.imm (D.lst ((draws_1).map D.int))), .ow (.imm (D.int data_2)), .ow (.imm (D.int spare_3)), .ow (.imm (D.int shelves_4)), .ow (eConfig config_5.2), .ow (.imm (D.int size_6)), .ow (.imm (D.lst ((octets_8).map D.int))), .ow (.lst ((kept_9).map fun x => .imm (D.int x))), .ow (.imm (D.lst ((rows_11).map (fun xs : (List Int) => D.lst (xs.map D.int))))), .ow (.imm (D.int length_12)), .ow (.lst ((s_18).map fun x => .imm (D.int x))), .un, .un, .un, .un, .un, .un, .un, .un, .un] rfl (bk_ifX (dt_ne (ea := (fun xs : (List (List Int)) => D.lst (xs.map (fun xs : (List Int) => D.lst (xs.map D.int))))) (eb := (fun xs : (List (List Int)) => D.lst (xs.map (fun xs : (List Int) => D.lst (xs.map D.int))))) hr.units (de_dl (ei := (fun xs : (List Int) => D.lst (xs.map D.int))) (dl_own (ei := (fun xs : (List Int) => D.lst (xs.map D.int))) (db_of_df (df_lc (put := fun c_19 : Int => [.ow (.imm (D.frl ((script).map D.int))), .ow (.imm (D.lst ((draws_1).map D.int))), .ow (.imm (D.int data_2)), .ow (.imm (D.int spare_3)), .ow (.imm (D.int shelves_4)), .ow (eConfig config_5.2), .ow (.imm (D.int size_6)), .ow (.imm (D.lst ((octets_8).map D.int))), .ow (.lst ((kept_9).map fun x => .imm (D.int x))), .ow (.imm (D.lst ((rows_11).map (fun xs : (List Int) => D.lst (xs.map D.int))))), .ow (.imm (D.int length_12)), .ow (.lst ((s_18).map fun x => .imm (D.int x))), .un, .un, .un, .un, .un, .un, .un, .un, .ow (.imm (D.int c_19))]) (N' := ["script", "draws", "data", "spare", "shelves", "config", "size", "octets", "kept", "rows", "length", "plain", "row", "order", "pieces", "index", "count", "found", "few", "outside", "i"]) (sc' := defScope s_law) (ei := D.int) (et := fun y => .imm ((fun xs : (List Int) => D.lst (xs.map D.int)) y)) [("i", 20)] rfl sc_law.nd (di_range2 (dd_var (emb := D.int) 2 rfl) (dd_var (emb := D.int) 4 rfl) Tx.b_range) (by exact ⟨rfl, rfl, rfl, rfl, rfl, rfl, rfl, rfl, rfl, rfl, rfl, rfl, trivial⟩) (fun _ _ _ _ _ c_19 => (dgc_name 20 sc_law.nd)) (fun _ _ _ _ _ c_19 => dts_nil) (fun _ _ _ _ _ c_19 => df_of_dd (dd_list (ε := D.int) (df_call (ok__law_spare Tx) (hr.mono (by decide)) Tx.g__law_spare Tx.F__law_spare.kp Tx.b__law_spare takes0 (da_cons (ea := (fun xs : (List (List Int)) => D.lst (xs.map (fun xs : (List Int) => D.lst (xs.map D.int))))) (dd_var (emb := (fun xs : (List (List Int)) => D.lst (xs.map (fun xs : (List Int) => D.lst (xs.map D.int))))) 9 rfl) (da_cons (dd_var (emb := D.int) 20 rfl) (da_cons (dd_var (emb := D.int) 2 rfl) da_nil)))))))))) (de_dl (ei := (fun xs : (List Int) => D.lst (xs.map D.int))) (dl_own (ei := (fun xs : (List Int) => D.lst (xs.map D.int))) (db_of_df (df_slL (ei := (fun xs : (List Int) => D.lst (xs.map D.int))) (dl_imm (ei := (fun xs : (List Int) => D.lst (xs.map D.int))) (dd_var (emb := (fun xs : (List (List Int)) => D.lst (xs.map (fun xs : (List Int) => D.lst (xs.map D.int))))) 9 rfl)) (do_some (dd_var (emb := D.int) 2 rfl)) do_none))))) (bk_ret (df_of_dd dd_bl) (g := fun r => r) (fun _ => rfl) trivial trivial) (bk_cons (st_set 13 (df_call (ok__law_order Tx) (hr.mono (by decide)) Tx.g__law_order Tx.F__law_order.kp Tx.b__law_order (takes_of rfl rfl rfl rfl) (da_cons (ea := (fun xs : (List Int) => D.lst (xs.map D.int))) (dd_var (emb := (fun xs : (List Int) => D.lst (xs.map D.int))) 1 rfl) (da_cons (dd_var (emb := D.int) 4 rfl) da_nil))) trivial rfl sc_law.nd) fun order_20 => bk_cons (st_set 14 (df_dict0 (ei := (fun xs : (List Int) => D.lst (xs.map D.int)))) trivial rfl sc_law.nd) fun pieces_21 => bk_cons (Γ1 := fun s_22 : (List (Int × (List Int))) => [.ow (.imm (D.frl ((script).map D.int))), .ow (.imm (D.lst ((draws_1).map D.int))), .ow (.imm (D.int data_2)), .ow (.imm (D.int spare_3)), .ow (.imm (D.int shelves_4)), .ow (eConfig config_5.2), .ow (.imm (D.int size_6)), .ow (.imm (D.lst ((octets_8).map D.int))), .ow (.lst ((kept_9).map fun x => .imm (D.int x))), .ow (.imm (D.lst ((rows_11).map (fun xs : (List Int) => D.lst (xs.map D.int))))), .ow (.imm (D.int length_12)), .ow (.lst ((s_18).map fun x => .imm (D.int x))), .un, .ow (.lst ((order_20).map fun x => .imm (D.int x))), .ow (tDic (fun xs : (List Int) => D.lst (xs.map D.int)) s_22), .un, .un, .un, .un, .un, .un]) (st_forS (Γs := fun s_22 : (List (Int × (List Int))) => [.ow (.imm (D.frl ((script).map D.int))), .ow (.imm (D.lst ((draws_1).map D.int))), .ow (.imm (D.int data_2)), .ow (.imm (D.int spare_3)), .ow (.imm (D.int shelves_4)), .ow (eConfig config_5.2), .ow (.imm (D.int size_6)), .ow (.imm (D.lst ((octets_8).map D.int))), .ow (.lst ((kept_9).map fun x => .imm (D.int x))), .ow (.imm (D.lst ((rows_11).map (fun xs : (List Int) => D.lst (xs.map D.int))))), .ow (.imm (D.int length_12)), .ow (.lst ((s_18).map fun x => .imm (D.int x))), .un, .ow (.lst ((order_20).map fun x => .imm (D.int x))), .ow (tDic (fun xs : (List Int) => D.lst (xs.map D.int)) s_22), .un, .un, .un, .un, .un, .un]) (ei := D.int) pieces_21 (passes_of rfl) rfl (di_list (ei := D.int) (dd_list (ε := D.int) (df_slL (ei := D.int) (dl_own (ei := D.int) (db_var (emb := (fun xs : (List Int) => T.lst (xs.map fun x => T.imm (D.int x)))) 13 rfl)) do_none (do_some (dd_add (dd_var (emb := D.int) 2 rfl) (dd_mul (dd_modC (dd_intI (dd_ixL (ei := D.int) (dl_imm (ei := D.int) (dd_var (emb := (fun xs : (List Int) => D.lst (xs.map D.int))) 1 rfl)) dd_int) Tx.b_int) dd_int (by decide)) (dd_sub (dd_var (emb := D.int) 4 rfl) (dd_var (emb := D.int) 2 rfl)))))))) (fun s_22 x_23 => (dg_name 15 sc_law.nd)) (fun s_22 x_23 => bk_cons (st_dput (ei := (fun xs : (List Int) => D.lst (xs.map D.int))) hr.units 14 rfl (dd_list (ε := D.int) (df_listL (ei := D.int) (dl_imm (ei := D.int) (dd_ixL (ei := (fun xs : (List Int) => D.lst (xs.map D.int))) (dl_imm (ei := (fun xs : (List Int) => D.lst (xs.map D.int))) (dd_var (emb := (fun xs : (List (List Int)) => D.lst (xs.map (fun xs : (List Int) => D.lst (xs.map D.int))))) 9 rfl)) (dd_var (emb := D.int) 15 rfl))) Tx.b_list)) (dd_var (emb := D.int) 15 rfl) trivial) fun pieces_24 => bk_nil (o := pieces_24) rfl ⟨rfl, rfl, rfl, rfl, rfl, rfl, rfl, rfl, rfl, rfl, rfl, rfl, rfl, rfl, trivial⟩) ⟨rfl, rfl, rfl, rfl, rfl, rfl, rfl, rfl, rfl, rfl, rfl, rfl, rfl, rfl, trivial⟩ trivial) fun s_25 => bk_cons (st_set 16 (df_of_dd (dd_lenD (ei := (fun xs : (List Int) => D.lst (xs.map D.int))) (dk_own (db_see (emb := (tDic (fun xs : (List Int) => D.lst (xs.map D.int)))) (x := s_25) 14 rfl rfl)) Tx.b_len)) trivial rfl sc_law.nd) fun count_26 => bk_cons (st_set 17 (df_borrow (d := eDic (fun xs : (List Int) => D.lst (xs.map D.int)) s_25) 14 rfl ((fun x => fz_dic x) s_25) (df_callL (ok_whole_blob Tx) (hr.mono (by decide)) Tx.g_whole_blob Tx.F_whole_blob.kp Tx.b_whole_blob (takes_of rfl rfl rfl rfl) (dal_db (db_see (emb := eConfig) (x := config_5.2) 5 rfl rfl) (dal_dd (dd_var (emb := (eDic (fun xs : (List Int) => D.lst (xs.map D.int)))) 14 rfl) (dal_dd (dd_var (emb := D.int) 6 rfl) dal_nil)))) own_ints) trivial rfl sc_law.nd) fun found_27 => bk_freezeL (ei := D.int) 17 rfl (bk_ifX (dt_dw (dw_or (dt_not (dt_bl (dd_isi (emb := (fun xs : (List Int) => D.lst (xs.map D.int))) (t := "list") (u := "list") (dd_var (emb := (fun xs : (List Int) => D.lst (xs.map D.int))) 17 rfl) Tx.b_isinstance Tx.b_list (by decide +kernel) (fun _ => rfl) (by decide +kernel)))) (dw_or (dt_ne (ea := (fun xs : (List Int) => D.lst (xs.map D.int))) (eb := (fun xs : (List Int) => D.lst (xs.map D.int))) hr.units (de_dl (ei := D.int) (dl_imm (ei := D.int) (dd_var (emb := (fun xs : (List Int) => D.lst (xs.map D.int))) 17 rfl))) (de_dl (ei := D.int) (dl_own (ei := D.int) (db_var (emb := (fun xs : (List Int) => T.lst (xs.map fun x => T.imm (D.int x)))) 8 rfl)))) (dw_one (dt_neI (dd_lenD (ei := (fun xs : (List Int) => D.lst (xs.map D.int))) (dk_own (db_see (emb := (tDic (fun xs : (List Int) => D.lst (xs.map D.int)))) (x := s_25) 14 rfl rfl)) Tx.b_len) (dd_var (emb := D.int) 16 rfl)) (by first | exact .inl rfl | exact .inr rfl))))) (bk_ret (df_of_dd dd_bl) (g := fun r => r) (fun _ => rfl) trivial trivial) (bk_cons (st_set 18 (df_dict0 (ei := (fun xs : (List Int) => D.lst (xs.map D.int)))) trivial rfl sc_law.nd) fun few_28 => bk_cons (Γ1 := fun s_29 : (List (Int × (List Int))) => [.ow (.imm (D.frl ((script).map D.int))), .ow (.imm (D.lst ((draws_1).map D.int))), .ow (.imm (D.int data_2)), .ow (.imm (D.int spare_3)), .ow (.imm (D.int shelves_4)), .ow (eConfig config_5.2), .ow (.imm (D.int size_6)), .ow (.imm (D.lst ((octets_8).map D.int))), .ow (.lst ((kept_9).map fun x => .imm (D.int x))), .ow (.imm (D.lst ((rows_11).map (fun xs : (List Int) => D.lst (xs.map D.int))))), .ow (.imm (D.int length_12)), .ow (.lst ((s_18).map fun x => .imm (D.int x))), .un, .ow (.lst ((order_20).map fun x => .imm (D.int x))), .ow (tDic (fun xs : (List Int) => D.lst (xs.map D.int)) s_25), .un, .ow (.imm (D.int count_26)), .ow (.imm (D.lst ((found_27).map D.int))), .ow (tDic (fun xs : (List Int) => D.lst (xs.map D.int)) s_29), .un, .un]) (st_forS (Γs := fun s_29 : (List (Int × (List Int))) => [.ow (.imm (D.frl ((script).map D.int))), .ow (.imm (D.lst ((draws_1).map D.int))), .ow (.imm (D.int data_2)), .ow (.imm (D.int spare_3)), .ow (.imm (D.int shelves_4)), .ow (eConfig config_5.2), .ow (.imm (D.int size_6)), .ow (.imm (D.lst ((octets_8).map D.int))), .ow (.lst ((kept_9).map fun x => .imm (D.int x))), .ow (.imm (D.lst ((rows_11).map (fun xs : (List Int) => D.lst (xs.map D.int))))), .ow (.imm (D.int length_12)), .ow (.lst ((s_18).map fun x => .imm (D.int x))), .un, .ow (.lst ((order_20).map fun x => .imm (D.int x))), .ow (tDic (fun xs : (List Int) => D.lst (xs.map D.int)) s_25), .un, .ow (.imm (D.int count_26)), .ow (.imm (D.lst ((found_27).map D.int))), .ow (tDic (fun xs : (List Int) => D.lst (xs.map D.int)) s_29), .un, .un]) (ei := D.int) few_28 (passes_of rfl) rfl (di_list (ei := D.int) (dd_list (ε := D.int) (df_slL (ei := D.int) (dl_own (ei := D.int) (db_var (emb := (fun xs : (List Int) => T.lst (xs.map fun x => T.imm (D.int x)))) 13 rfl)) do_none (do_some (dd_sub (dd_var (emb := D.int) 2 rfl) dd_int))))) (fun s_29 x_30 => (dg_name 15 sc_law.nd)) (fun s_29 x_30 => bk_cons (st_dput (ei := (fun xs : (List Int) => D.lst (xs.map D.int))) hr.units 18 rfl (dd_list (ε := D.int) (df_listL (ei := D.int) (dl_imm (ei := D.int) (dd_ixL (ei := (fun xs : (List Int) => D.lst (xs.map D.int))) (dl_imm (ei := (fun xs : (List Int) => D.lst (xs.map D.int))) (dd_var (emb := (fun xs : (List (List Int)) => D.lst (xs.map (fun xs : (List Int) => D.lst (xs.map D.int))))) 9 rfl)) (dd_var (emb := D.int) 15 rfl))) Tx.b_list)) (dd_var (emb := D.int) 15 rfl) trivial) fun few_31 => bk_nil (o := few_31) rfl ⟨rfl, rfl, rfl, rfl, rfl, rfl, rfl, rfl, rfl, rfl, rfl, rfl, rfl, rfl, rfl, rfl, rfl, trivial⟩) ⟨rfl, rfl, rfl, rfl, rfl, rfl, rfl, rfl, rfl, rfl, rfl, rfl, rfl, rfl, rfl, rfl, rfl, trivial⟩ trivial) fun s_32 => bk_ifX (dt_borrow (d := eDic (fun xs : (List Int) => D.lst (xs.map D.int)) s_32) 18 rfl ((fun x => fz_dic x) s_32) (dt_neS (dd_imm (df_callL (ok__law_error Tx) (hr.mono (by decide)) Tx.g__law_error Tx.F__law_error.kp Tx.b__law_error (takes_of rfl rfl rfl rfl) (dal_db (db_see (emb := eConfig) (x := config_5.2) 5 rfl rfl) (dal_dd (dd_var (emb := (eDic (fun xs : (List Int) => D.lst (xs.map D.int)))) 18 rfl) (dal_dd (dd_var (emb := D.int) 6 rfl) dal_nil))))) dd_str)) (bk_ret (df_of_dd dd_bl) (g := fun r => r) (fun _ => rfl) trivial trivial) (bk_cons (st_set 19 (df_of_dd (dd_ixL (ei := D.int) (dl_own (ei := D.int) (db_of_df (df_disp (ei := D.int) (da_cons (dd_var (emb := D.int) 4 rfl) (da_cons (dd_neg dd_int) (da_cons (dd_add (dd_var (emb := D.int) 4 rfl) dd_int) da_nil))) (fun p : Int × Int × Int × Unit => ([p.1, p.2.1, p.2.2.1] : List Int))))) (dd_modC (dd_intI (dd_ixL (ei := D.int) (dl_imm (ei := D.int) (dd_var (emb := (fun xs : (List Int) => D.lst (xs.map D.int))) 1 rfl)) dd_int) Tx.b_int) dd_int (by decide)))) trivial rfl sc_law.nd) fun outside_33 => bk_cons (st_tupC (put := fun d_34 : (List (Int × (List Int))) × (List (Int × (List Int))) => [.ow (.imm (D.frl ((script).map D.int))), .ow (.imm (D.lst ((draws_1).map D.int))), .ow (.imm (D.int data_2)), .ow (.imm (D.int spare_3)), .ow (.imm (D.int shelves_4)), .ow (eConfig config_5.2), .ow (.imm (D.int size_6)), .ow (.imm (D.lst ((octets_8).map D.int))), .ow (.lst ((kept_9).map fun x => .imm (D.int x))), .ow (.imm (D.lst ((rows_11).map (fun xs : (List Int) => D.lst (xs.map D.int))))), .ow (.imm (D.int length_12)), .ow (.lst ((s_18).map fun x => .imm (D.int x))), .un, .ow (.lst ((order_20).map fun x => .imm (D.int x))), .ow (tDic (fun xs : (List Int) => D.lst (xs.map D.int)) d_34.2), .un, .ow (.imm (D.int count_26)), .ow (.imm (D.lst ((found_27).map D.int))), .ow (tDic (fun xs : (List Int) => D.lst (xs.map D.int)) d_34.1), .ow (.imm (D.int outside_33)), .un]) (ets := fun x : (List Int) × (List Int) × Unit => [.imm (D.lst ((x.1).map D.int)), .imm (D.lst ((x.2.1).map D.int))]) (ck := fun x : (List Int) × (List Int) × Unit => (okO (R.ok outside_33 : R Int)).bind fun k0 => (putDO s_32 k0 x.1).bind fun z0 => (okO ((R.ok order_20 >>= fun xs => R.ok (0 : Int) >>= fun i => ofO (atI xs i)) : R Int)).bind fun k1 => (putDO s_25 k1 x.2.1).bind fun z1 => some (z0, z1)) rfl (daf_cons (df_of_dd (dd_list (ε := D.int) (df_disp (ei := D.int) (da_cons dd_int da_nil) (fun p : Int × Unit => ([p.1] : List Int))))) (daf_cons (df_of_dd (dd_ixL (ei := (fun xs : (List Int) => D.lst (xs.map D.int))) (dl_own (ei := (fun xs : (List Int) => D.lst (xs.map D.int))) (db_of_df (df_disp (ei := (fun xs : (List Int) => D.lst (xs.map D.int))) (da_cons (dd_list (ε := D.int) (df_cat (ei := D.int) (dlt_imm (ei := D.int) (dd_ixL (ei := (fun xs : (List Int) => D.lst (xs.map D.int))) (dl_imm (ei := (fun xs : (List Int) => D.lst (xs.map D.int))) (dd_var (emb := (fun xs : (List (List Int)) => D.lst (xs.map (fun xs : (List Int) => D.lst (xs.map D.int))))) 9 rfl)) (dd_ixL (ei := D.int) (dl_own (ei := D.int) (db_var (emb := (fun xs : (List Int) => T.lst (xs.map fun x => T.imm (D.int x)))) 13 rfl)) dd_int))) (dlt_own (ei := D.int) (db_of_df (df_disp (ei := D.int) (da_cons dd_int da_nil) (fun p : Int × Unit => ([p.1] : List Int))))))) (da_cons (dd_list (ε := D.int) (df_disp (ei := D.int) da_nil (fun p : Unit => ([] : List Int)))) da_nil)) (fun p : (List Int) × (List Int) × Unit => ([p.1, p.2.1] : List (List Int)))))) (dd_modC (dd_intI (dd_ixL (ei := D.int) (dl_imm (ei := D.int) (dd_var (emb := (fun xs : (List Int) => D.lst (xs.map D.int))) 1 rfl)) dd_int) Tx.b_int) dd_int (by decide)))) daf_nil)) (fun x z hz => by obtain ⟨k0, hk0, hq0⟩ := Option.bind_eq_some_iff.mp hz; obtain ⟨z0, hp0, hn0⟩ := Option.bind_eq_some_iff.mp hq0; obtain ⟨k1, hk1, hq1⟩ := Option.bind_eq_some_iff.mp hn0; obtain ⟨z1, hp1, hn1⟩ := Option.bind_eq_some_iff.mp hq1; cases hn1; exact (dgxs_cons (dgx_dic (W := wNo) (ei := (fun xs : (List Int) => D.lst (xs.map D.int))) hr.units 18 rfl (dd_var (emb := D.int) 19 rfl) hk0 hp0) (dgxs_cons (dgx_dic (W := wNo) (ei := (fun xs : (List Int) => D.lst (xs.map D.int))) hr.units 14 rfl (dd_ixL (ei := D.int) (dl_own (ei := D.int) (db_var (emb := (fun xs : (List Int) => T.lst (xs.map fun x => T.imm (D.int x)))) 13 rfl)) dd_int) hk1 hp1) dgxs_nil))) trivial) fun d_34 : (List (Int × (List Int))) × (List (Int × (List Int))) => bk_as [.ow (.imm (D.frl ((script).map D.int))), .ow (.imm (D.lst ((draws_1).map D.int))), .ow (.imm (D.int data_2)), .ow (.imm (D.int spare_3)), .ow (.imm (D.int shelves_4)), .ow (eConfig config_5.2), .ow (.imm (D.int size_6)), .ow (.imm (D.lst ((octets_8).map D.int))), .ow (.lst ((kept_9).map fun x => .imm (D.int x))), .ow (.imm (D.lst ((rows_11).map (fun xs : (List Int) => D.lst (xs.map D.int))))), .ow (.imm (D.int length_12)), .ow (.lst ((s_18).map fun x => .imm (D.int x))), .un, .ow (.lst ((order_20).map fun x => .imm (D.int x))), .ow (tDic (fun xs : (List Int) => D.lst (xs.map D.int)) d_34.2), .un, .ow (.imm (D.int count_26)), .ow (.imm (D.lst ((found_27).map D.int))), .ow (tDic (fun xs : (List Int) => D.lst (xs.map D.int)) d_34.1), .ow (.imm (D.int outside_33)), .un] rfl (bk_ifX (dt_borrow (d := eDic (fun xs : (List Int) => D.lst (xs.map D.int)) d_34.1) 18 rfl ((fun x => fz_dic x) d_34.1) (dt_neS (dd_imm (df_callL (ok__law_error Tx) (hr.mono (by decide)) Tx.g__law_error Tx.F__law_error.kp Tx.b__law_error (takes_of rfl rfl rfl rfl) (dal_db (db_see (emb := eConfig) (x := config_5.2) 5 rfl rfl) (dal_dd (dd_var (emb := (eDic (fun xs : (List Int) => D.lst (xs.map D.int)))) 18 rfl) (dal_dd (dd_var (emb := D.int) 6 rfl) dal_nil))))) dd_str)) (bk_ret (df_of_dd dd_bl) (g := fun r => r) (fun _ => rfl) trivial trivial) (bk_consX (Γ1 := fun j_35 : Unit => [.ow (.imm (D.frl ((script).map D.int))), .ow (.imm (D.lst ((draws_1).map D.int))), .ow (.imm (D.int data_2)), .ow (.imm (D.int spare_3)), .ow (.imm (D.int shelves_4)), .ow (eConfig config_5.2), .ow (.imm (D.int size_6)), .ow (.imm (D.lst ((octets_8).map D.int))), .ow (.lst ((kept_9).map fun x => .imm (D.int x))), .ow (.imm (D.lst ((rows_11).map (fun xs : (List Int) => D.lst (xs.map D.int))))), .ow (.imm (D.int length_12)), .ow (.lst ((s_18).map fun x => .imm (D.int x))), .un, .ow (.lst ((order_20).map fun x => .imm (D.int x))), .ow (tDic (fun xs : (List Int) => D.lst (xs.map D.int)) d_34.2), .un, .ow (.imm (D.int count_26)), .ow (.imm (D.lst ((found_27).map D.int))), .ow (tDic (fun xs : (List Int) => D.lst (xs.map D.int)) d_34.1), .ow (.imm (D.int outside_33)), .un]) (st_if (dt_dw (dw_or (dt_gt (dd_lenD (ei := (fun xs : (List Int) => D.lst (xs.map D.int))) (dk_own (db_see (emb := (tDic (fun xs : (List Int) => D.lst (xs.map D.int)))) (x := d_34.2) 14 rfl rfl)) Tx.b_len) dd_int) (dw_one (dt_eq (ea := (fun xs : (List Int) => D.lst (xs.map D.int))) (eb := (fun xs : (List Int) => D.lst (xs.map D.int))) hr.units (de_dl (ei := D.int) (dl_imm (ei := D.int) (dd_dget (ei := (fun xs : (List Int) => D.lst (xs.map D.int))) hr.units (dk_own (db_see (emb := (tDic (fun xs : (List Int) => D.lst (xs.map D.int)))) (x := d_34.2) 14 rfl rfl)) (dd_ixL (ei := D.int) (dl_own (ei := D.int) (db_var (emb := (fun xs : (List Int) => T.lst (xs.map fun x => T.imm (D.int x)))) 13 rfl)) dd_int)))) (de_dl (ei := D.int) (dl_own (ei := D.int) (db_of_df (df_disp (ei := D.int) da_nil (fun p : Unit => ([] : List Int))))))) (by first | exact .inl rfl | exact .inr rfl)))) (bk_ifX (dt_borrow (d := eDic (fun xs : (List Int) => D.lst (xs.map D.int)) d_34.2) 14 rfl ((fun x => fz_dic x) d_34.2) (dt_neS (dd_imm (df_callL (ok__law_error Tx) (hr.mono (by decide)) Tx.g__law_error Tx.F__law_error.kp Tx.b__law_error (takes_of rfl rfl rfl rfl) (dal_db (db_see (emb := eConfig) (x := config_5.2) 5 rfl rfl) (dal_dd (dd_var (emb := (eDic (fun xs : (List Int) => D.lst (xs.map D.int)))) 14 rfl) (dal_dd (dd_var (emb := D.int) 6 rfl) dal_nil))))) dd_str)) (bk_ret (df_of_dd dd_bl) (g := fun r => Sum.inr (r)) (fun _ => rfl) trivial trivial) (bk_nil (o := (Sum.inl ())) rfl ⟨rfl, rfl, rfl, rfl, rfl, rfl, rfl, rfl, rfl, rfl, rfl, rfl, rfl, rfl, rfl, rfl, rfl, rfl, trivial⟩) trivial) (bk_nil (o := (Sum.inl ())) rfl ⟨rfl, rfl, rfl, rfl, rfl, rfl, rfl, rfl, rfl, rfl, rfl, rfl, rfl, rfl, rfl, rfl, rfl, rfl, trivial⟩) trivial) fun j_35 => bk_cons (st_dput (ei := (fun xs : (List Int) => D.lst (xs.map D.int))) hr.units 14 rfl (dd_list (ε := D.int) (df_disp (ei := D.int) (da_cons dd_int da_nil) (fun p : Int × Unit => ([p.1] : List Int)))) (dd_var (emb := D.int) 19 rfl) trivial) fun pieces_36 => bk_freeze (d := eDic (fun xs : (List Int) => D.lst (xs.map D.int)) pieces_36) 14 rfl ((fun x => fz_dic x) pieces_36) (bk_ret (df_of_dd (dd_eqS (dd_imm (df_callL (ok__law_error Tx) (hr.mono (by decide)) Tx.g__law_error Tx.F__law_error.kp Tx.b__law_error (takes_of rfl rfl rfl rfl) (dal_db (db_see (emb := eConfig) (x := config_5.2) 5 rfl rfl) (dal_dd (dd_var (emb := (eDic (fun xs : (List Int) => D.lst (xs.map D.int)))) 14 rfl) (dal_dd (dd_var (emb := D.int) 6 rfl) dal_nil))))) dd_str)) (g := fun r => r) (fun _ => rfl) trivial trivial)) trivial)) trivial) trivial)) trivial)) trivial) trivial)) trivial)))

theorem band1 (b : Nat) : Builtin.bitAnd (b : Int) 1 = ((b % 2 : Nat) : Int) := by rw [PyProof.Rows.bitAnd_m1]; omega
theorem odd_b (b : Nat) : (((b % 2 : Nat) : Int) != 0) = (b % 2 == 1) := by rcases Nat.mod_two_eq_zero_or_one b with y | y <;> rw [y] <;> rfl
theorem half_b (b : Nat) : (b : Int) / 2 ^ (1 : Int).toNat = ((b / 2 : Nat) : Int) := by show (b : Int) / (2 ^ 1) = _; omega
theorem dbl_b {a : Nat} (h : a < 256) : shlO (a : Int) 1 = some ((2 * a : Nat) : Int) := by
  rw [show (1 : Int) = ((1 : Nat) : Int) from rfl, shlO_ok (i := (a : Int)) (by omega) (by omega) (by decide)]
  rw [show (a : Int) * 2 ^ 1 = ((2 * a : Nat) : Int) by omega]
theorem bx285 (a : Nat) : Builtin.bitXor (a : Int) 285 = ((a ^^^ 285 : Nat) : Int) := bx a 285
theorem xt_big {a : Nat} (h : a < 256) : (Builtin.bitAnd ((2 * a : Nat) : Int) 256 != 0) = Nat.ble 128 a := by
  rw [show (256 : Int) = ((256 : Nat) : Int) from rfl, band_nat]
  have := allB_of (p := fun a => (((2 * a) &&& 256 != 0) == Nat.ble 128 a)) (n := 256) (by decide +kernel) a h
  have e := eq_of_beq this
  rw [← e]
  show (!(((2 * a &&& 256 : Nat) : Int) == ((0 : Nat) : Int))) = !(_ == _)
  congr 1
  rw [Bool.eq_iff_iff, beq_iff_eq, beq_iff_eq]
  omega
theorem xt_if (a : Nat) : (if Nat.ble 128 a = true then R.ok (((2 * a ^^^ 285 : Nat)) : Int) else R.ok ((2 * a : Nat) : Int)) = R.ok ((xt a : Nat) : Int) := by
  unfold xt
  cases Nat.ble 128 a <;> rfl
theorem pr_if (b p a : Nat) : (if (b % 2 == 1) = true then R.ok ((p ^^^ a : Nat) : Int) else R.ok (p : Int)) = R.ok (((bif b % 2 == 1 then p ^^^ a else p) : Nat) : Int) := by
  cases (b % 2 == 1) <;> rfl
theorem pr_lt {b p a : Nat} (hp : p < 256) (ha : a < 256) : (bif b % 2 == 1 then p ^^^ a else p) < 256 := by
  cases (b % 2 == 1) with
  | true => exact x_lt hp ha
  | false => exact hp
theorem m_mul {a b : Nat} (ha : a < 256) (hb : b < 256) : mul (a : Int) (b : Int) = .ok ((gm a b : Nat) : Int) := by
  unfold mul
  simp only [bind_ok]
  refine whileS_to (I := fun k s => ∃ a' b' p : Nat, s = ((a' : Int), (b' : Int), (p : Int)) ∧ a' < 256 ∧ p < 256 ∧ b' < 2 ^ k ∧ mulN k a' b' p = gm a b) 8 ⟨a, b, 0, rfl, ha, by decide, hb, rfl⟩ fun k s i => ?_
  obtain ⟨a', b', p, e, h1, h2, h3, h4⟩ := i
  subst e
  by_cases z : b' = 0
  · subst z
    left
    rw [mulN_zero] at h4
    exact ⟨rfl, by rw [h4]⟩
  · right
    refine ⟨by show R.ok ((b' : Int) != 0) = _; rw [show ((b' : Int) != 0) = true by rw [bne_iff_ne]; omega], ?_⟩
    cases k with
    | zero => rw [Nat.pow_zero] at h3; omega
    | succ k => exact ⟨_, k, Nat.lt_succ_self k, by simp only [bind_ok, band1, odd_b, dbl_b h1, ofO_some, xt_big h1, bx285, bx, half_b, xt_if, pr_if], xt a', b' / 2, _, rfl, xt_lt h1, pr_lt h2 h1, by rw [Nat.pow_succ] at h3; omega, h4⟩
theorem gp_if (b p a : Nat) : (if (b % 2 == 1) = true then R.ok ((gm p a : Nat) : Int) else R.ok (p : Int)) = R.ok (((bif b % 2 == 1 then gm p a else p) : Nat) : Int) := by
  cases (b % 2 == 1) <;> rfl
theorem gp_step {a b p : Nat} (h1 : a < 256) (h2 : p < 256) : gm (bif b % 2 == 1 then gm p a else p) (gpow (gm a a) (b / 2)) = gm p (gpow a b) := by
  rw [gpow_sq h1]
  rcases Nat.mod_two_eq_zero_or_one b with y | y
  · rw [y]
    show gm p _ = _
    rw [show 2 * (b / 2) = b by omega]
  · rw [y]
    show gm (gm p a) _ = _
    have e3 : gpow a b = gm a (gpow a (2 * (b / 2))) := by
      conv => lhs; rw [show b = 1 + 2 * (b / 2) by omega]
      rw [gpow_add h1]
      show gm (gm 1 a) _ = _
      rw [one_gm h1]
    rw [e3, gm_assoc h2 h1 (gpow_lt h1 _)]
theorem m_power {a : Nat} (ha : a < 256) (n : Nat) : power (a : Int) (n : Int) = .ok ((gpow a n : Nat) : Int) := by
  unfold power
  simp only [bind_ok]
  refine whileS_to (I := fun k s => ∃ a' b' p : Nat, s = ((a' : Int), (b' : Int), (p : Int)) ∧ a' < 256 ∧ p < 256 ∧ b' = k ∧ gm p (gpow a' b') = gpow a n) n ⟨a, n, 1, rfl, ha, by decide, rfl, one_gm (gpow_lt ha n)⟩ fun k s i => ?_
  obtain ⟨a', b', p, e, h1, h2, h3, h4⟩ := i
  subst e
  by_cases z : b' = 0
  · subst z
    left
    rw [show gpow a' 0 = 1 from rfl, gm_one h2] at h4
    exact ⟨rfl, by rw [h4]⟩
  · right
    refine ⟨by show R.ok ((b' : Int) != 0) = _; rw [show ((b' : Int) != 0) = true by rw [bne_iff_ne]; omega], (((gm a' a' : Nat) : Int), ((b' / 2 : Nat) : Int), ((bif b' % 2 == 1 then gm p a' else p : Nat) : Int)), b' / 2, by omega, by simp only [bind_ok, band1, odd_b, m_mul h2 h1, m_mul h1 h1, half_b, gp_if], gm a' a', b' / 2, bif b' % 2 == 1 then gm p a' else p, rfl, gm_lt h1 _, ?_, rfl, ?_⟩
    · cases (b' % 2 == 1) with
      | true => exact gm_lt h2 _
      | false => exact h2
    · rw [gp_step h1 h2, h4]
theorem m_inv0 : inv 0 = .err "ZeroElement" := rfl
theorem m_inv {a : Nat} (ha : a < 256) (h0 : a ≠ 0) : inv (a : Int) = .ok ((ginv a : Nat) : Int) := by
  unfold inv
  simp only [bind_ok]
  rw [if_neg (by rw [decide_eq_true_iff]; omega), show (254 : Int) = ((254 : Nat) : Int) from rfl, m_power ha]
  rfl
theorem m_div0 (a : Int) : div a 0 = .err "ZeroElement" := rfl
theorem m_div {a b : Nat} (ha : a < 256) (hb : b < 256) (h0 : b ≠ 0) : div (a : Int) (b : Int) = .ok ((gm a (ginv b) : Nat) : Int) := by
  unfold div
  simp only [bind_ok, m_inv hb h0, m_mul ha (ginv_lt hb)]
abbrev I (xs : List Nat) : List Int := xs.map fun n : Nat => (n : Int)
theorem i_len (xs : List Nat) : (I xs).length = xs.length := List.length_map _
theorem at_I {xs : List Nat} {i : Nat} (h : i < xs.length) : atI (I xs) (i : Int) = some ((xs[i] : Nat) : Int) := by
  rw [atI_nat' (by rw [i_len]; exact h), List.getElem_map]
theorem ixN_nat' {n j : Nat} (hj : j < n) : ixN n (j : Int) = some j := by
  unfold ixN
  rw [if_pos (by omega), if_pos (by omega)]
  rfl
theorem set_I {xs : List Nat} {i v : Nat} (h : i < xs.length) : setO (I xs) (i : Int) (v : Int) = some (I (xs.set i v)) := by
  unfold setO
  rw [i_len, ixN_nat' h, I, I, List.map_set]
  rfl
theorem I_inj {xs ys : List Nat} (h : I xs = I ys) : xs = ys := List.map_inj_right (fun a b e => by omega) |>.mp h
theorem I_eq (xs ys : List Nat) : decide (I xs = I ys) = decide (xs = ys) := decide_eq_decide.mpr ⟨I_inj, fun e => congrArg I e⟩
theorem eqI (xs ys : List Nat) : eqO (.lst ((I xs).map D.int)) (.lst ((I ys).map D.int)) = some (decide (xs = ys)) := by rw [eqO_ints, I_eq]
theorem tab8 : ∀ i, i < 8 → atI ([1, 2, 4, 8, 16, 32, 64, 128] : List Int) ((i : Nat) : Int) = some ((2 ^ i : Nat) : Int)
  | 0, _ => rfl
  | 1, _ => rfl
  | 2, _ => rfl
  | 3, _ => rfl
  | 4, _ => rfl
  | 5, _ => rfl
  | 6, _ => rfl
  | 7, _ => rfl
theorem odd_d (b : Nat) : decide ((b : Int) % 2 = 1) = (b % 2 == 1) := by
  rw [Bool.eq_iff_iff, decide_eq_true_iff, beq_iff_eq]; omega
theorem xt_big2 (a : Nat) : decide ((255 : Int) < (a : Int) * 2) = Nat.ble 128 a := by
  rw [Bool.eq_iff_iff, decide_eq_true_iff, Nat.ble_eq]; omega
theorem xt_if2 (a : Nat) : (if Nat.ble 128 a = true then R.ok (Builtin.bitXor ((a : Int) * 2) 285) else R.ok ((a : Int) * 2)) = R.ok ((xt a : Nat) : Int) := by
  rw [show (a : Int) * 2 = ((2 * a : Nat) : Int) by omega, bx285]
  exact xt_if a
theorem m_lmul {a b : Nat} (ha : a < 256) (hb : b < 256) : _law_mul (a : Int) (b : Int) = .ok ((gm a b : Nat) : Int) := by
  unfold _law_mul
  have r8 : rangeO 0 8 = some (irange 0 ((8 : Nat) : Int)) := rangeO_nat (n := 8) (by decide)
  simp only [bind_ok, r8, ofO_some]
  refine forS_to (I := fun k s => ∃ a' p : Nat, s = ((a' : Int), (p : Int)) ∧ a' < 256 ∧ p < 256 ∧ mulN (8 - k) a' (b / 2 ^ k) p = gm a b) ⟨a, 0, rfl, ha, by decide, by rw [Nat.pow_zero, Nat.div_one]; rfl⟩ (fun i hi s q => ?_) fun s q => ?_
  · obtain ⟨a', p, e, h1, h2, h3⟩ := q
    subst e
    have hi8 : i < 8 := by rw [irange_lenN] at hi; exact hi
    have hp : 2 ^ i < 256 := pow_lt8 hi8
    have hp0 : 0 < 2 ^ i := Nat.two_pow_pos i
    rw [irange_ix hi]
    simp only [tab8 i hi8, ofO_some, bind_ok, divO_pos (i := (b : Int)) (show (0 : Int) < ((2 ^ i : Nat) : Int) by omega) (by omega)]
    rw [show (b : Int) / ((2 ^ i : Nat) : Int) = ((b / 2 ^ i : Nat) : Int) from rfl, odd_d, bx, pr_if]
    simp only [bind_ok, xt_big2]
    rw [xt_if2]
    refine ⟨_, rfl, xt a', _, rfl, xt_lt h1, pr_lt h2 h1, ?_⟩
    rw [← h3, show 8 - i = (8 - (i + 1)) + 1 by omega]
    show _ = mulN (8 - (i + 1)) (xt a') (b / 2 ^ i / 2) _
    rw [Nat.pow_succ, Nat.div_div_eq_div_mul]
  · obtain ⟨a', p, e, h1, h2, h3⟩ := q
    subst e
    rw [irange_lenN] at h3
    have h3 : p = gm a b := h3
    rw [h3]
theorem forX_find {α S ω : Type} {Q : ω → Prop} {f : α → S → R (Lo S ω)} : ∀ {xs : List α} {s : S} (J : Nat → S → Prop) (h0 : J 0 s) (h : ∀ i (hi : i < xs.length) s, J i s → (∃ s', f xs[i] s = .ok (.nx s') ∧ J (i + 1) s') ∨ ∃ o, f xs[i] s = .ok (.ex o) ∧ Q o), (∃ s', forX f xs s = .ok (.inl s') ∧ J xs.length s') ∨ ∃ o, forX f xs s = .ok (.inr o) ∧ Q o
  | [], s, J, h0, _ => .inl ⟨s, rfl, h0⟩
  | x :: xs, s, J, h0, h => by
    rcases h 0 (Nat.succ_pos _) s h0 with ⟨s', e, j⟩ | ⟨o, e, q⟩
    · have e : f x s = .ok (.nx s') := e
      have ih := forX_find (f := f) (xs := xs) (s := s') (fun i => J (i + 1)) j fun i hi s js => h (i + 1) (Nat.succ_lt_succ hi) s js
      have : forX f (x :: xs) s = forX f xs s' := by
        show (f x s >>= _) = _
        rw [e]; rfl
      rw [this]
      exact ih
    · have e : f x s = .ok (.ex o) := e
      exact .inr ⟨o, by show (f x s >>= _) = _; rw [e]; rfl, q⟩
theorem forX_mot {α S ω T : Type} {Q : ω → Prop} {Z : R T → Prop} {f : α → S → R (Lo S ω)} {k : S ⊕ ω → R T} {xs : List α} {s : S} {J : Nat → S → Prop} (h0 : J 0 s) (h : ∀ i (hi : i < xs.length) s, J i s → (∃ s', f xs[i] s = .ok (.nx s') ∧ J (i + 1) s') ∨ ∃ o, f xs[i] s = .ok (.ex o) ∧ Q o) (h1 : ∀ s, J xs.length s → Z (k (.inl s))) (h2 : ∀ o, Q o → Z (k (.inr o))) : Z (forX f xs s >>= k) := by
  rcases forX_find (f := f) (xs := xs) (s := s) (Q := Q) J h0 h with ⟨s', e, j⟩ | ⟨o, e, q⟩
  · rw [e]; exact h1 s' j
  · rw [e]; exact h2 o q
theorem forS_mot {α S T : Type} {Z : R T → Prop} {f : α → S → R S} {k : S → R T} {xs : List α} {s : S} {J : Nat → S → Prop} (h0 : J 0 s) (h : ∀ i (hi : i < xs.length) s, J i s → ∃ s', f xs[i] s = .ok s' ∧ J (i + 1) s') (h1 : ∀ s, J xs.length s → Z (k s)) : Z (forS f xs s >>= k) := by
  obtain ⟨s', e, j⟩ := forS_ind (f := f) (xs := xs) (s := s) J h0 h
  rw [e]; exact h1 s' j
theorem ffb (b : Bool) : (false != b) = b := by cases b <;> rfl
theorem ttb (b : Bool) : (true != b) = !b := by cases b <;> rfl
theorem at_d {ds : List Int} (k : Nat) (hk : k < ds.length) : atI ds (k : Int) = some (ds.getD k 0) := by
  rw [atI_nat' hk, List.getD_eq_getElem?_getD, List.getElem?_eq_getElem hk]; rfl
theorem d_bd {ds : List Int} (h : ∀ d ∈ ds, 0 ≤ d ∧ d < 65521) (k : Nat) : 0 ≤ ds.getD k 0 ∧ ds.getD k 0 < 65521 := by
  rw [List.getD_eq_getElem?_getD]
  by_cases c : k < ds.length
  · rw [List.getElem?_eq_getElem c]; exact h _ (List.getElem_mem _)
  · rw [List.getElem?_eq_none (by omega)]; decide
theorem eqLL (x y : List (List Int)) : eqO (.lst (x.map fun xs => D.lst (xs.map D.int))) (.lst (y.map fun xs => D.lst (xs.map D.int))) = some (decide (x = y)) := (eqd_lst (eqd_lst eqd_int)).eqO (by decide) (fun _ _ _ _ => trivial) (fun _ _ _ _ => trivial)
theorem eqT3 (x y : Int × Int × Int) : eqO (.tup [D.int x.1, D.int x.2.1, D.int x.2.2]) (.tup [D.int y.1, D.int y.2.1, D.int y.2.2]) = some (decide (x = y)) := (eqd_p3 eqd_int eqd_int eqd_int).eqO (by decide) ⟨trivial, trivial, trivial⟩ ⟨trivial, trivial, trivial⟩
theorem catI {xs ys : List Nat} (h : xs.length + ys.length ≤ 16777216) : catO (I xs) (I ys) = some (I (xs ++ ys)) := by
  rw [catO_ok (by rw [i_len, i_len]; exact h)]
  show some (List.map _ xs ++ List.map _ ys) = some (List.map _ (xs ++ ys))
  rw [List.map_append]
/-! lists of lists -/
abbrev mk {α : Type} (n : Nat) (g : Nat → α) : List α := (List.range n).map g
abbrev J (R : List (List Nat)) : List (List Int) := R.map I
theorem mk_len {α : Type} (n : Nat) (g : Nat → α) : (mk n g).length = n := by rw [List.length_map, List.length_range]
theorem mk_congr {α : Type} {n : Nat} {g h : Nat → α} (e : ∀ k, k < n → g k = h k) : mk n g = mk n h := List.map_congr_left fun k hk => e k (List.mem_range.mp hk)
theorem mk_self (xs : List Nat) : mk xs.length (fun k => xs.getD k 0) = xs := by
  refine List.ext_getElem (by rw [mk_len]) fun i h1 h2 => ?_
  rw [List.getElem_map, List.getElem_range, List.getD_eq_getElem?_getD, List.getElem?_eq_getElem h2]; rfl
theorem at_mk {n : Nat} {h : Nat → Nat} {i : Nat} (hi : i < n) : atI (I (mk n h)) (i : Int) = some ((h i : Nat) : Int) := by
  rw [at_I (by rw [mk_len]; exact hi), List.getElem_map, List.getElem_range]
theorem at_J {n : Nat} {g : Nat → List Nat} {i : Nat} (hi : i < n) : atI (J (mk n g)) (i : Int) = some (I (g i)) := by
  rw [atI_nat' (by rw [List.length_map, mk_len]; exact hi), List.getElem_map, List.getElem_map, List.getElem_range]
theorem mk_set {α : Type} {n : Nat} {g g' : Nat → α} {i : Nat} {v : α} (e : ∀ k, k < n → g' k = if k = i then v else g k) : (mk n g).set i v = mk n g' := by
  refine List.ext_getElem (by rw [List.length_set, mk_len, mk_len]) fun k h1 h2 => ?_
  rw [mk_len] at h2
  rw [List.getElem_set, List.getElem_map, List.getElem_range, List.getElem_map, List.getElem_range, e k h2]
  by_cases z : i = k
  · rw [if_pos z, if_pos z.symm]
  · rw [if_neg z, if_neg (fun w => z w.symm)]
theorem set_mk {n : Nat} {h h' : Nat → Nat} {i v : Nat} (hi : i < n) (e : ∀ k, k < n → h' k = if k = i then v else h k) : setO (I (mk n h)) (i : Int) (v : Int) = some (I (mk n h')) := by
  rw [set_I (by rw [mk_len]; exact hi), mk_set e]
theorem set_J {n : Nat} {g g' : Nat → List Nat} {i : Nat} {v : List Nat} (hi : i < n) (e : ∀ k, k < n → g' k = if k = i then v else g k) : setO (J (mk n g)) (i : Int) (I v) = some (J (mk n g')) := by
  unfold setO
  rw [List.length_map, mk_len, ixN_nat' hi, ← mk_set e, J, J, List.map_set]
  rfl
theorem comp_range {α : Type} {n : Nat} {f : Int → R α} (F : Nat → α) (hn : n ≤ 16777216) (h : ∀ k, k < n → f (k : Int) = .ok (F k)) : compR (fun _ : Int => R.ok true) f (irange 0 (n : Int)) = .ok (mk n F) := by
  rw [compR_map (fun c => F c.toNat) (by rw [irange_lenN]; exact hn) (fun _ _ => rfl) fun x hx => by
    rw [irange_nat] at hx
    obtain ⟨k, hk, e⟩ := List.mem_map.mp hx
    subst e
    exact h k (List.mem_range.mp hk), irange_nat, List.map_map]
  rfl
/-- a loop that sets one item after the other -/
theorem loop_upd {S β T : Type} {f : Int → S → R S} {n : Nat} {k : S → R T} {r : R T} (st : (Nat → β) → S) (h h' : Nat → β) (hc : ∀ g g', (∀ k, k < n → g k = g' k) → st g = st g') (hf : ∀ t, t < n → f (t : Int) (st fun k => if k < t then h' k else h k) = .ok (st fun k => if k < t + 1 then h' k else h k)) (hk : k (st h') = r) : (forS f (irange 0 (n : Int)) (st h) >>= k) = r := by
  refine forS_to (I := fun i s => s = st (fun k => if k < i then h' k else h k)) (hc _ _ fun k _ => (if_neg (Nat.not_lt_zero k)).symm) (fun i hi s q => ?_) fun s q => ?_
  · subst q
    rw [irange_ix hi]
    rw [irange_lenN] at hi
    exact ⟨_, hf i hi, rfl⟩
  · subst q
    rw [irange_lenN]
    rw [hc _ h' fun k hk => if_pos hk]
    exact hk
theorem step_at {β : Type} (h h' : Nat → β) (t k : Nat) : (if k < t + 1 then h' k else h k) = if k = t then h' t else (if k < t then h' k else h k) := by
  by_cases e : k = t
  · subst e; rw [if_pos rfl, if_pos (by omega)]
  · rw [if_neg e]
    by_cases l : k < t
    · rw [if_pos l, if_pos (by omega)]
    · rw [if_neg l, if_neg (by omega)]
theorem getD_oc {xs : List Nat} (h : OcN xs) (k : Nat) : xs.getD k 0 < 256 := by
  rw [List.getD_eq_getElem?_getD]
  by_cases c : k < xs.length
  · rw [List.getElem?_eq_getElem c]; exact h _ (List.getElem_mem c)
  · rw [List.getElem?_eq_none (by omega)]; decide
theorem at_getD {xs : List Nat} {k : Nat} (h : k < xs.length) : atI (I xs) (k : Int) = some ((xs.getD k 0 : Nat) : Int) := by
  rw [at_I h, List.getD_eq_getElem?_getD, List.getElem?_eq_getElem h]; rfl
theorem mk_oc {n : Nat} {h : Nat → Nat} (e : ∀ k, h k < 256) : OcN (mk n h) := fun d hd => by
  obtain ⟨k, _, q⟩ := List.mem_map.mp hd
  rw [← q]; exact e k
theorem mk_getD {n : Nat} {h : Nat → Nat} {k : Nat} (hk : k < n) : (mk n h).getD k 0 = h k := by
  rw [List.getD_eq_getElem?_getD, List.getElem?_map, List.getElem?_range hk]; rfl
theorem mk_getD' {n : Nat} {h : Nat → Nat} {k : Nat} (hk : ¬ k < n) : (mk n h).getD k 0 = 0 := by
  rw [List.getD_eq_getElem?_getD, List.getElem?_eq_none (by rw [mk_len]; omega)]; rfl
theorem getD_big {xs : List Nat} {k : Nat} (hk : ¬ k < xs.length) : xs.getD k 0 = 0 := by
  rw [List.getD_eq_getElem?_getD, List.getElem?_eq_none (by omega)]; rfl
/-! rows -/
def wo (row : List Nat) (f : Nat) (p : List Nat) : List Nat := mk row.length fun k => row.getD k 0 ^^^ gm f (p.getD k 0)
theorem m_without {row p : List Nat} {f : Nat} (h1 : OcN row) (h2 : OcN p) (hl : p.length = row.length) (hf : f < 256) (hs : row.length ≤ 1000) : _without (I row) (f : Int) (I p) = .ok (I (wo row f p)) := by
  unfold _without
  simp only [bind_ok, i_len, rangeO_nat (show row.length < 4611686018427387904 by omega), ofO_some]
  rw [comp_range (fun k => (((row.getD k 0 ^^^ gm f (p.getD k 0)) : Nat) : Int)) (by omega) fun k hk => by
    simp only [at_getD hk, at_getD (show k < p.length by omega), ofO_some, bind_ok, m_mul hf (getD_oc h2 k), bx], bind_ok]
  unfold wo
  rw [I, List.map_map]
  rfl
theorem wo_len (row : List Nat) (f : Nat) (p : List Nat) : (wo row f p).length = row.length := mk_len _ _
theorem wo_getD {row p : List Nat} (hl : p.length = row.length) (f k : Nat) : (wo row f p).getD k 0 = row.getD k 0 ^^^ gm f (p.getD k 0) := by
  unfold wo
  by_cases c : k < row.length
  · rw [mk_getD c]
  · rw [mk_getD' c, getD_big c, getD_big (by omega), gm_zero]; rfl
theorem wo_zero {row p : List Nat} (h2 : OcN p) (hl : p.length = row.length) : wo row 0 p = row := by
  unfold wo
  refine Eq.trans (mk_congr fun k _ => ?_) (mk_self row)
  rw [zero_gm (getD_oc h2 k), Nat.xor_zero]
/-! the sum of blocks -/
theorem m_combine {n m : Nat} {row : Nat → Nat} {bl : Nat → Nat → Nat} (hr : ∀ j, row j < 256) (hb : ∀ j t, bl j t < 256) (hn : 0 < n) (hn2 : n ≤ 1000) (hm : m ≤ 100000) : _combine (I (mk n row)) (J (mk n fun j => mk m (bl j))) = .ok (I (mk m fun t => sumX (fun j => gm (row j) (bl j t)) n)) := by
  have a0 : atI (J (mk n fun j => mk m (bl j))) 0 = some (I (mk m (bl 0))) := at_J (i := 0) hn
  have z0 : repO [(0 : Int)] (m : Int) = some (I (mk m fun _ => 0)) := by
    rw [repO_one (by omega), I, List.map_map]
    congr 1
    refine List.ext_getElem (by rw [List.length_replicate, List.length_map, List.length_range]) fun i h1 h2 => ?_
    rw [List.getElem_replicate, List.getElem_map]; rfl
  unfold _combine
  simp only [bind_ok, a0, ofO_some, i_len, mk_len, z0, rangeO_nat (show n < 4611686018427387904 by omega)]
  refine forS_to (I := fun i s => s = I (mk m fun t => sumX (fun j => gm (row j) (bl j t)) i)) rfl (fun i hi s q => ?_) fun s q => ?_
  · subst q
    rw [irange_ix hi]
    rw [irange_lenN] at hi
    refine ⟨_, ?_, rfl⟩
    simp only [at_mk hi, ofO_some, bind_ok]
    by_cases z : row i = 0
    · rw [z]
      show R.ok (I (mk m _)) = R.ok (I (mk m _))
      congr 2
      refine mk_congr fun t _ => ?_
      show _ = sumX _ i ^^^ gm (row i) (bl i t)
      rw [z, zero_gm (hb i t), Nat.xor_zero]
    · rw [show (((row i : Nat) : Int) != 0) = true from bne_iff_ne.mpr (by omega)]
      simp only [if_true, i_len, mk_len, rangeO_nat (show m < 4611686018427387904 by omega), ofO_some, bind_ok]
      refine Eq.trans (congrArg (fun m : R (List Int) => m >>= fun x => R.ok x) (loop_upd (k := fun x => R.ok x) (r := R.ok (I (mk m fun t => sumX (fun j => gm (row j) (bl j t)) (i + 1)))) (st := fun g => I (mk m g)) (fun t => sumX (fun j => gm (row j) (bl j t)) i) (fun t => sumX (fun j => gm (row j) (bl j t)) (i + 1)) (fun g g' e => congrArg I (mk_congr e)) (fun t ht => ?_) rfl)) rfl
      have ab : atI (J (mk n fun j => mk m (bl j))) (i : Int) = some (I (mk m (bl i))) := at_J hi
      have sv := set_mk (h := fun k => if k < t then sumX (fun j => gm (row j) (bl j k)) (i + 1) else sumX (fun j => gm (row j) (bl j k)) i) (h' := fun k => if k < t + 1 then sumX (fun j => gm (row j) (bl j k)) (i + 1) else sumX (fun j => gm (row j) (bl j k)) i) (v := sumX (fun j => gm (row j) (bl j t)) (i + 1)) ht fun k _ => step_at (fun k => sumX (fun j => gm (row j) (bl j k)) i) (fun k => sumX (fun j => gm (row j) (bl j k)) (i + 1)) t k
      simp only [at_mk ht, ab, ofO_some, bind_ok, m_mul (hr i) (hb i t), bx, Nat.lt_irrefl, if_false]
      show (ofO (setO _ _ ((sumX (fun j => gm (row j) (bl j t)) (i + 1) : Nat) : Int)) >>= fun x => R.ok x) = _
      rw [sv]
      rfl
  · subst q
    rw [irange_lenN]
/-! the inverse of a matrix -/
theorem whileS_ex {S T : Type} {mc : S → R Bool} {mb : S → R S} {k : S → R T} {Z : T → Prop} (Q : S → Prop) (I : Nat → S → Prop) (n : Nat) {s : S} (h0 : I n s) (h : ∀ n s, I n s → (mc s = .ok false ∧ Q s) ∨ (mc s = .ok true ∧ ∃ s' n', n' < n ∧ mb s = .ok s' ∧ I n' s')) (hk : ∀ s, Q s → ∃ r, k s = .ok r ∧ Z r) : ∃ r, (whileS mc mb s >>= k) = .ok r ∧ Z r := by
  obtain ⟨s', e, q⟩ := whileS_ind (Q := Q) I h h0
  rw [e, bind_ok]
  exact hk s' q
theorem comp_I {f : Int → R Int} {xs : List Nat} (F : Nat → Nat) (hl : xs.length ≤ 16777216) (h : ∀ o ∈ xs, f (o : Int) = .ok ((F o : Nat) : Int)) : compR (fun _ : Int => R.ok true) f (I xs) = .ok (I (xs.map F)) := by
  rw [compR_map (fun c => ((F c.toNat : Nat) : Int)) (by rw [i_len]; exact hl) (fun _ _ => rfl) fun x hx => by
    obtain ⟨o, ho, e⟩ := List.mem_map.mp hx
    subst e
    exact h o ho]
  rw [I, I, List.map_map, List.map_map]
  rfl
theorem map_getD0 {F : Nat → Nat} (h0 : F 0 = 0) (xs : List Nat) (k : Nat) : (xs.map F).getD k 0 = F (xs.getD k 0) := by
  rw [List.getD_eq_getElem?_getD, List.getD_eq_getElem?_getD, List.getElem?_map]
  cases xs[k]? with
  | none => exact h0.symm
  | some v => rfl
theorem m_reduce {n : Nat} (hn : 0 < n) (hn2 : n ≤ 100) {A : Nat → Nat → Nat} (ns : NonSing n A) {g0 : Nat → List Nat} (hl0 : ∀ i, (g0 i).length = n + n) (ho0 : ∀ i, OcN (g0 i)) (h0 : GJ n A 0 fun i k => (g0 i).getD k 0) :
    ∃ g' : Nat → List Nat, _reduce (J (mk n g0)) (n : Int) = .ok (J (mk n g'), I (List.range n)) ∧ (∀ i, (g' i).length = n + n) ∧ (∀ i, OcN (g' i)) ∧ GJ n A n fun i k => (g' i).getD k 0 := by
  have cp : compR (fun _ : List Int => R.ok true) (fun c : List Int => R.ok c) (J (mk n g0)) = .ok (J (mk n g0)) := by
    rw [compR_map (fun c => c) (by rw [List.length_map, mk_len]; omega) (fun _ _ => rfl) (fun _ _ => rfl), List.map_id']
  unfold _reduce
  simp only [bind_ok, cp, rangeO_nat (show n < 4611686018427387904 by omega), ofO_some]
  refine forS_mot (Z := fun m => ∃ g' : Nat → List Nat, m = .ok (J (mk n g'), I (List.range n)) ∧ (∀ i, (g' i).length = n + n) ∧ (∀ i, OcN (g' i)) ∧ GJ n A n fun i k => (g' i).getD k 0) (J := fun c s => ∃ g : Nat → List Nat, s = (J (mk n g), I (List.range c)) ∧ (∀ i, (g i).length = n + n) ∧ (∀ i, OcN (g i)) ∧ GJ n A c fun i k => (g i).getD k 0) ⟨g0, rfl, hl0, ho0, h0⟩ (fun c hc s q => ?_) (fun s q => ?_)
  · rw [irange_ix hc]
    rw [irange_lenN] at hc
    obtain ⟨g, e, hl, ho, h⟩ := q
    subst e
    obtain ⟨p, p1, p2, p3⟩ := h.pivot ns hc
    simp only [i_len, List.length_range, List.length_map]
    refine whileS_ex (Q := fun s : Int => ∃ f : Nat, s = (f : Int) ∧ c ≤ f ∧ f < n ∧ (g f).getD c 0 ≠ 0) (I := fun m s => ∃ f : Nat, s = (f : Int) ∧ c ≤ f ∧ f ≤ p ∧ m = p - f) (p - c) ⟨c, rfl, Nat.le_refl c, p1, rfl⟩ (fun m s i => ?_) (fun s q => ?_)
    · obtain ⟨f, e, f1, f2, f3⟩ := i
      subst e
      have hf : f < n := by omega
      rw [decide_eq_true (show (f : Int) < (n : Int) by omega)]
      simp only [if_true, at_J hf, ofO_some, bind_ok, at_getD (show c < (g f).length by rw [hl]; omega)]
      by_cases z : (g f).getD c 0 = 0
      · right
        refine ⟨by rw [decide_eq_true (show (((g f).getD c 0 : Nat) : Int) = 0 by omega)], ((f + 1 : Nat) : Int), m - 1, ?_, rfl, f + 1, rfl, by omega, ?_, by omega⟩
        · have : f ≠ p := fun w => p3 (w ▸ z)
          omega
        · have : f ≠ p := fun w => p3 (w ▸ z)
          omega
      · left
        exact ⟨by rw [decide_eq_false (show ¬ (((g f).getD c 0 : Nat) : Int) = 0 by omega)], f, rfl, f1, hf, z⟩
    · obtain ⟨f, e, f1, f2, f3⟩ := q
      subst e
      rw [decide_eq_false (show ¬ (f : Int) = (n : Int) by omega)]
      have cb : c < (g f).length := by rw [hl]; omega
      -- rows exchanged
      let g2 : Nat → List Nat := fun k => if k = f then g c else if k = c then g f else g k
      have s1 : setO (J (mk n g)) (c : Int) (I (g f)) = some (J (mk n fun k => if k = c then g f else g k)) := set_J hc fun k _ => rfl
      have s2 : setO (J (mk n fun k => if k = c then g f else g k)) (f : Int) (I (g c)) = some (J (mk n g2)) := set_J f2 fun k _ => rfl
      have g2c : g2 c = g f := by
        show (if c = f then g c else if c = c then g f else g c) = _
        by_cases z : c = f
        · rw [if_pos z, z]
        · rw [if_neg z, if_pos rfl]
      have g2l : ∀ k, (g2 k).length = n + n := fun k => by
        show (if k = f then g c else if k = c then g f else g k).length = _
        split
        · exact hl c
        · split
          · exact hl f
          · exact hl k
      have g2o : ∀ k, OcN (g2 k) := fun k => by
        show OcN (if k = f then g c else if k = c then g f else g k)
        split
        · exact ho c
        · split
          · exact ho f
          · exact ho k
      have h2 : GJ n A c fun i k => (g2 i).getD k 0 := h.swap (a := f) (b := c) ⟨f1, f2⟩ ⟨Nat.le_refl c, hc⟩ (fun i _ k => by
        show (if i = f then g c else if i = c then g f else g i).getD k 0 = _
        by_cases z : i = f
        · rw [if_pos z, if_pos z]
        · rw [if_neg z, if_neg z]
          by_cases w : i = c
          · rw [if_pos w, if_pos w]
          · rw [if_neg w, if_neg w]) fun i k => getD_oc (g2o i) k
      -- the row scaled
      have ev : (g f).getD c 0 < 256 := getD_oc (ho f) c
      obtain ⟨s, hs⟩ : ∃ s, s = ginv ((g f).getD c 0) := ⟨_, rfl⟩
      have sl : s < 256 := by rw [hs]; exact ginv_lt ev
      have sn : s ≠ 0 := by rw [hs]; exact ginv_ne ev f3
      have iv := m_inv ev f3
      rw [← hs] at iv
      have cs : compR (fun _ : Int => R.ok true) (fun c_15 : Int => mul (s : Int) c_15) (I (g f)) = .ok (I ((g f).map (gm s))) := comp_I (gm s) (by rw [hl]; omega) fun o hoo => m_mul sl (ho f o hoo)
      let g3 : Nat → List Nat := fun k => if k = c then (g f).map (gm s) else g2 k
      have s3 : setO (J (mk n g2)) (c : Int) (I ((g f).map (gm s))) = some (J (mk n g3)) := set_J hc fun k _ => rfl
      have g3c : g3 c = (g f).map (gm s) := if_pos rfl
      have g3l : ∀ k, (g3 k).length = n + n := fun k => by
        show (if k = c then (g f).map (gm s) else g2 k).length = _
        split
        · rw [List.length_map, hl]
        · exact g2l k
      have g3o : ∀ k, OcN (g3 k) := fun k => by
        show OcN (if k = c then (g f).map (gm s) else g2 k)
        split
        · intro d hd
          obtain ⟨o, _, e⟩ := List.mem_map.mp hd
          rw [← e]; exact gm_lt sl o
        · exact g2o k
      have h3 : GJ n A c fun i k => (g3 i).getD k 0 := h2.scale hc sl sn (fun i _ k => by
        show (if i = c then (g f).map (gm s) else g2 i).getD k 0 = _
        by_cases z : i = c
        · rw [if_pos z, if_pos z, map_getD0 (gm_zero s), g2c]
        · rw [if_neg z, if_neg z]) fun i k => getD_oc (g3o i) k
      have g3u : (g3 c).getD c 0 = 1 := by rw [g3c, map_getD0 (gm_zero s), hs, gm_comm (ginv_lt ev) ev, gm_ginv ev f3]
      -- the other rows
      let g4 : Nat → List Nat := fun i => if i = c then g3 c else wo (g3 i) ((g3 i).getD c 0) (g3 c)
      have g4l : ∀ k, (g4 k).length = n + n := fun k => by
        show (if k = c then g3 c else wo (g3 k) _ (g3 c)).length = _
        split
        · exact g3l c
        · rw [wo_len, g3l]
      have g4o : ∀ k, OcN (g4 k) := fun k => by
        show OcN (if k = c then g3 c else wo (g3 k) _ (g3 c))
        split
        · exact g3o c
        · exact mk_oc fun j => x_lt (getD_oc (g3o k) j) (gm_lt (getD_oc (g3o k) c) _)
      have g4e : ∀ i k, (g4 i).getD k 0 = (g3 i).getD k 0 ^^^ gm (if i = c then 0 else (g3 i).getD c 0) ((g3 c).getD k 0) := fun i k => by
        show (if i = c then g3 c else wo (g3 i) ((g3 i).getD c 0) (g3 c)).getD k 0 = _
        by_cases z : i = c
        · rw [if_pos z, if_pos z, z, zero_gm (getD_oc (g3o c) k), Nat.xor_zero]
        · rw [if_neg z, if_neg z, wo_getD (by rw [g3l, g3l])]
      have h4 : GJ n A c fun i k => (g4 i).getD k 0 := h3.elim hc (f := fun i => if i = c then 0 else (g3 i).getD c 0) (if_pos rfl) (fun i _ k => g4e i k) (fun i k => getD_oc (g4o i) k) fun i => by
        show (if i = c then 0 else (g3 i).getD c 0) < 256
        split
        · decide
        · exact getD_oc (g3o i) c
      have h5 : GJ n A (c + 1) fun i k => (g4 i).getD k 0 := h4.next fun i _ => by
        show (g4 i).getD c 0 = _
        rw [g4e, g3u]
        by_cases z : i = c
        · rw [if_pos z, if_pos z, z, g3u, zero_gm (by decide)]; rfl
        · rw [if_neg z, if_neg z, gm_one (getD_oc (g3o i) c), Nat.xor_self]
      have ac2 : atI (J (mk n g2)) (c : Int) = some (I (g f)) := by rw [at_J hc, g2c]
      have e1 : atI (I (g f)) (c : Int) = some (((g f).getD c 0 : Nat) : Int) := at_getD cb
      simp only [Bool.false_eq_true, if_false, at_J f2, at_J hc, ofO_some, bind_ok, s1, s2, Option.bind_some, g2c, ac2, e1, iv, cs, s3, List.length_map, mk_len, List.length_range, rangeO_nat (show n < 4611686018427387904 by omega)]
      refine ⟨(J (mk n g4), I (List.range (c + 1))), ?_, g4, rfl, g4l, g4o, h5⟩
      refine loop_upd (st := fun g => J (mk n g)) g3 g4 (fun g g' e => congrArg J (mk_congr e)) (fun t ht => ?_) ?_
      · have same : (∀ k, (if k < t + 1 then g4 k else g3 k) = if k = t then g4 t else (if k < t then g4 k else g3 k)) := fun k => step_at g3 g4 t k
        have at1 : atI (J (mk n fun k => if k < t then g4 k else g3 k)) (t : Int) = some (I (g3 t)) := by rw [at_J ht, if_neg (Nat.lt_irrefl t)]
        have at2 : atI (J (mk n fun k => if k < t then g4 k else g3 k)) (c : Int) = some (I (g3 c)) := by
          rw [at_J hc]
          congr 2
          split
          · exact if_pos rfl
          · rfl
        have ef : atI (I (g3 t)) (c : Int) = some (((g3 t).getD c 0 : Nat) : Int) := at_getD (by rw [g3l]; omega)
        have keep : g4 t = g3 t → J (mk n fun k => if k < t + 1 then g4 k else g3 k) = J (mk n fun k => if k < t then g4 k else g3 k) := fun e => congrArg J (mk_congr fun k _ => by
          rw [same k]
          by_cases z : k = t
          · rw [if_pos z, z, if_neg (Nat.lt_irrefl t), e]
          · rw [if_neg z])
        simp only [at1, at2, ef, ofO_some, bind_ok]
        by_cases z : t = c
        · rw [decide_eq_true (show (t : Int) = (c : Int) by omega)]
          simp only [Bool.not_true, Bool.false_eq_true, if_false, bind_ok]
          rw [keep (by show (if t = c then g3 c else _) = _; rw [if_pos z, z])]
        · rw [decide_eq_false (show ¬ (t : Int) = (c : Int) by omega)]
          simp only [Bool.not_false, if_true, bind_ok]
          by_cases w : (g3 t).getD c 0 = 0
          · rw [show ((((g3 t).getD c 0 : Nat) : Int) != 0) = false by rw [w]; rfl]
            simp only [Bool.false_eq_true, if_false, bind_ok]
            rw [keep (by
              show (if t = c then g3 c else wo (g3 t) ((g3 t).getD c 0) (g3 c)) = _
              rw [if_neg z, w, wo_zero (g3o c) (by rw [g3l, g3l])])]
          · rw [show ((((g3 t).getD c 0 : Nat) : Int) != 0) = true from bne_iff_ne.mpr (by omega)]
            have sv : setO (J (mk n fun k => if k < t then g4 k else g3 k)) (t : Int) (I (wo (g3 t) ((g3 t).getD c 0) (g3 c))) = some (J (mk n fun k => if k < t + 1 then g4 k else g3 k)) := set_J ht fun k _ => by
              rw [same k]
              by_cases y : k = t
              · rw [if_pos y, if_pos y]
                exact if_neg z
              · rw [if_neg y, if_neg y]
            simp only [if_true, bind_ok, m_without (g3o t) (g3o c) (by rw [g3l, g3l]) (getD_oc (g3o t) c) (by rw [g3l]; omega), sv, ofO_some]
      · rw [appO_ok (by rw [i_len, List.length_range]; omega), ofO_some, bind_ok, List.range_succ]
        show R.ok (J (mk n g4), I (List.range c) ++ [(c : Int)]) = R.ok (J (mk n g4), List.map (fun n : Nat => (n : Int)) (List.range c ++ [c]))
        rw [List.map_append]
        rfl
  · obtain ⟨g, e, hl, ho, h⟩ := q
    subst e
    rw [irange_lenN] at h ⊢
    exact ⟨g, rfl, hl, ho, h⟩
theorem m_identity {n : Nat} (hn : n ≤ 1000) : identity (n : Int) = .ok (J (mk n fun i => mk n fun j => if i = j then 1 else 0)) := by
  unfold identity
  simp only [bind_ok, rangeO_nat (show n < 4611686018427387904 by omega), ofO_some]
  rw [comp_range (fun i => I (mk n fun j => if i = j then 1 else 0)) (by omega) fun i _ => by
    rw [comp_range (fun j => (((if i = j then 1 else 0 : Nat)) : Int)) (by omega) fun j _ => by
      by_cases e : i = j
      · rw [decide_eq_true (show (i : Int) = (j : Int) by omega), if_pos rfl, if_pos e]; rfl
      · rw [decide_eq_false (show ¬ (i : Int) = (j : Int) by omega), if_neg (by decide), if_neg e]; rfl]
    rw [I, List.map_map]; rfl]
  rw [bind_ok, J, List.map_map]; rfl
/-- the inverse of a matrix whose equations have one solution -/
theorem m_inverse {n : Nat} (hn : 0 < n) (hn2 : n ≤ 100) {A : Nat → Nat → Nat} (hA : ∀ i, Oc (A i)) (ns : NonSing n A) :
    ∃ B : Nat → Nat → Nat, inverse (J (mk n fun i => mk n (A i))) = .ok (J (mk n fun i => mk n (B i))) ∧ (∀ i, Oc (B i)) ∧ ∀ x, Oc x → ∀ i, i < n → sumX (fun k => gm (B i k) (sumX (fun j => gm (A k j) (x j)) n)) n = x i := by
  let g0 : Nat → List Nat := fun i => mk n (A i) ++ mk n fun j => if i = j then 1 else 0
  have hl0 : ∀ i, (g0 i).length = n + n := fun i => by show (mk n (A i) ++ mk n fun j => if i = j then 1 else 0).length = _; rw [List.length_append, mk_len, mk_len]
  have ho0 : ∀ i, OcN (g0 i) := fun i => (mk_oc (hA i)).app (mk_oc fun j => by split <;> decide)
  have h0 : GJ n A 0 fun i k => (g0 i).getD k 0 := (GJ.init hA).congr (Nat.zero_le _) (fun i hi k hk => by
    show (mk n (A i) ++ mk n fun j => if i = j then 1 else 0).getD k 0 = r0 n A i k
    unfold r0
    rw [List.getD_eq_getElem?_getD]
    by_cases c : k < n
    · rw [if_pos c, List.getElem?_append_left (by rw [mk_len]; exact c), ← List.getD_eq_getElem?_getD, mk_getD c]
    · rw [if_neg c, List.getElem?_append_right (by rw [mk_len]; omega), mk_len, ← List.getD_eq_getElem?_getD, mk_getD (by omega)]
      by_cases e : i = k - n
      · rw [if_pos e, if_pos e.symm]
      · rw [if_neg e, if_neg (fun z => e z.symm)]) fun i k => getD_oc (ho0 i) k
  obtain ⟨g, eg, hl, ho, h⟩ := m_reduce hn hn2 ns hl0 ho0 h0
  have a0 : atI (J (mk n fun i => mk n (A i))) 0 = some (I (mk n (A 0))) := at_J (i := 0) hn
  have cj : compR (fun _ : Int => R.ok true) (fun c : Int => ofO (atI (J (mk n fun i => mk n (A i))) c) >>= fun xs => ofO (atI (J (mk n fun i => mk n fun j => if i = j then 1 else 0)) c) >>= fun ys => ofO (catO xs ys)) (irange 0 (n : Int)) = .ok (J (mk n g0)) := by
    rw [comp_range (fun i => I (g0 i)) (by omega) fun i hi => by
      rw [at_J hi, at_J hi, ofO_some, ofO_some, bind_ok, bind_ok, catI (by rw [mk_len, mk_len]; omega)]; rfl]
    rw [J, List.map_map]; rfl
  refine ⟨fun i k => (g i).getD (n + k) 0, ?_, fun i k => getD_oc (ho i) _, fun x hx i hi => h.done hx hi⟩
  unfold inverse
  simp only [bind_ok, List.length_map, List.length_range, a0, ofO_some]
  simp only [decide_true, Bool.not_true, Bool.false_eq_true, if_false, bind_ok, m_identity (show n ≤ 1000 by omega), rangeO_nat (show n < 4611686018427387904 by omega), ofO_some, cj, eg, i_len, List.length_range]
  rw [decide_eq_false (show ¬ (n : Int) < (n : Int) by omega)]
  simp only [Bool.false_eq_true, if_false]
  rw [compR_map (fun c => cutL c (some (n : Int)) none) (by rw [List.length_map, mk_len]; omega) (fun _ _ => rfl) (fun _ _ => rfl), bind_ok, J, J, List.map_map, List.map_map, List.map_map]
  congr 1
  refine List.map_congr_left fun i hi => ?_
  show cutL (I (g i)) (some (n : Int)) none = I (mk n fun k => (g i).getD (n + k) 0)
  rw [cut_from, I, ← List.map_drop]
  show I ((g i).drop n) = _
  congr 1
  refine List.ext_getElem (by rw [List.length_drop, hl, mk_len]; omega) fun k h1 h2 => ?_
  rw [mk_len] at h2
  rw [List.getElem_drop, List.getElem_map, List.getElem_range, List.getD_eq_getElem?_getD, List.getElem?_eq_getElem (by rw [hl]; omega)]
  rfl
/-! the code -/
theorem prodS_step (z j k : Nat) : prodS z j (k + 1) = if k = j then prodS z j k else gm (prodS z j k) (z ^^^ k) := rfl
theorem m_basis {i n : Nat} (hi : i < 256) (hn : n ≤ 200) : _basis_row (i : Int) (n : Int) = .ok (I (mk n (lagr n i))) := by
  unfold _basis_row
  simp only [bind_ok, rangeO_nat (show n < 4611686018427387904 by omega), ofO_some]
  refine forS_to (I := fun j s => s = I (mk j (lagr n i))) rfl (fun j hj s q => ?_) fun s q => ?_
  · subst q
    rw [irange_ix hj]
    rw [irange_lenN] at hj
    refine ⟨_, ?_, rfl⟩
    refine forS_to (I := fun k s => s = (((prodS i j k : Nat) : Int), ((prodS j j k : Nat) : Int))) rfl (fun k hk s q => ?_) fun s q => ?_
    · subst q
      rw [irange_ix hk]
      rw [irange_lenN] at hk
      refine ⟨_, ?_, rfl⟩
      rw [prodS_step, prodS_step]
      by_cases z : k = j
      · rw [decide_eq_true (show (k : Int) = (j : Int) by omega), if_pos z, if_pos z]; rfl
      · rw [decide_eq_false (show ¬ (k : Int) = (j : Int) by omega), if_neg z, if_neg z]
        simp only [Bool.not_false, if_true, bx, bind_ok, m_mul (prodS_lt k) (x_lt hi (show k < 256 by omega)), m_mul (prodS_lt k) (x_lt (show j < 256 by omega) (show k < 256 by omega))]
    · subst q
      rw [irange_lenN]
      simp only [m_div (prodS_lt n) (prodS_lt n) (prodS_ne (show j < 256 by omega) (show n ≤ 256 by omega)), bind_ok]
      rw [appO_ok (by rw [i_len, mk_len]; omega), ofO_some, bind_ok]
      show R.ok (I (mk j _) ++ [((lagr n i j : Nat) : Int)]) = R.ok (I (mk (j + 1) _))
      rw [mk, mk, List.range_succ, List.map_append, show ∀ xs ys : List Nat, I (xs ++ ys) = I xs ++ I ys from fun xs ys => List.map_append]
      rfl
  · subst q
    rw [irange_lenN]
theorem lcR_mk {α β γ : Type} {c : β → R Bool} {f : β → R γ} {h : α → β} {F : α → γ} : ∀ {xs : List α}, (∀ x ∈ xs, c (h x) = .ok true) → (∀ x ∈ xs, f (h x) = .ok (F x)) → lcR c f (xs.map h) = .ok (xs.map F)
  | [], _, _ => rfl
  | x :: xs, hc, hf => by
    show (noErr (c (h x)) >>= _) = _
    rw [hc x List.mem_cons_self]
    show (noErr (f (h x)) >>= _) = _
    rw [hf x List.mem_cons_self]
    show (lcR c f (xs.map h) >>= _) = _
    rw [lcR_mk (fun y hy => hc y (List.mem_cons_of_mem _ hy)) fun y hy => hf y (List.mem_cons_of_mem _ hy)]
    rfl
theorem comp_map {α β γ : Type} {f : β → R γ} {h : α → β} (F : α → γ) {xs : List α} (hl : xs.length ≤ 16777216) (hf : ∀ x ∈ xs, f (h x) = .ok (F x)) : compR (fun _ : β => R.ok true) f (xs.map h) = .ok (xs.map F) := by
  unfold compR
  rw [if_pos (by rw [List.length_map]; exact hl), lcR_mk (c := fun _ : β => R.ok true) (fun _ _ => rfl) hf]
theorem comp_J {γ : Type} {f : List Int → R γ} {n : Nat} {g : Nat → List Nat} (F : Nat → γ) (hn : n ≤ 16777216) (hf : ∀ k, k < n → f (I (g k)) = .ok (F k)) : compR (fun _ : List Int => R.ok true) f (J (mk n g)) = .ok (mk n F) := by
  rw [J, List.map_map]
  exact comp_map F (by rw [List.length_range]; exact hn) fun k hk => hf k (List.mem_range.mp hk)
theorem J_mk (n : Nat) (g : Nat → List Nat) : mk n (fun i => I (g i)) = J (mk n g) := by
  rw [J, List.map_map]; rfl
abbrev rowsN (d t : Nat) : List (List Nat) := mk t fun i => mk d (lagr d i)
abbrev codeN (d t : Nat) : OCode := ((d : Int), (t : Int), J (rowsN d t))
theorem m_init {d t : Nat} (h1 : 1 ≤ d) (h2 : d ≤ 16) (h3 : d ≤ t) (h4 : t ≤ 24) : Code____init__ (d : Int) (t : Int) = .ok (codeN d t) := by
  have key : Code____init___b (d : Int) (t : Int) = .ok (codeN d t) := by
    unfold Code____init___b
    simp only [bind_ok]
    rw [decide_eq_false (show ¬ (d : Int) < 1 by omega), decide_eq_false (show ¬ (16 : Int) < (d : Int) by omega), decide_eq_false (show ¬ (t : Int) < (d : Int) by omega), decide_eq_false (show ¬ (24 : Int) < (t : Int) by omega)]
    simp only [Bool.false_eq_true, if_false, bind_ok, rangeO_nat (show t < 4611686018427387904 by omega), ofO_some]
    rw [comp_range (f := fun c_3 : Int => _basis_row c_3 (d : Int)) (fun i => I (mk d (lagr d i))) (show t ≤ 16777216 by omega) (fun i hi => m_basis (show i < 256 by omega) (show d ≤ 200 by omega)), bind_ok, J_mk]
  unfold Code____init__
  rw [key]; rfl
theorem m_lengths {L : List (List Int)} {m : Nat} (h0 : L ≠ []) (hm : 0 < m) (h : ∀ x ∈ L, x.length = m) : _check_lengths L = .ok () := by
  unfold _check_lengths
  simp only [bind_ok]
  have a0 : ∃ y, atI L 0 = some y ∧ y.length = m := by
    cases L with
    | nil => exact absurd rfl h0
    | cons y L => exact ⟨y, atI_nat' (xs := y :: L) (i := 0) (Nat.succ_pos _), h y List.mem_cons_self⟩
  obtain ⟨y, ey, ly⟩ := a0
  refine forS_to (I := fun _ s => s = ()) rfl (fun i hi s _ => ⟨(), ?_, rfl⟩) fun s _ => rfl
  have lx := h _ (List.getElem_mem hi)
  simp only [lx, ey, ofO_some, bind_ok, ly]
  rw [decide_eq_false (show ¬ (m : Int) = 0 by omega)]
  simp only [Bool.false_eq_true, if_false, decide_true, Bool.not_true, bind_ok]
theorem len_J {n m : Nat} {bl : Nat → Nat → Nat} : ∀ x ∈ J (mk n fun j => mk m (bl j)), x.length = m := fun x hx => by
  obtain ⟨y, hy, e⟩ := List.mem_map.mp hx
  obtain ⟨j, _, e2⟩ := List.mem_map.mp hy
  rw [← e, ← e2, i_len, mk_len]
theorem J_ne {n m : Nat} {bl : Nat → Nat → Nat} (hn : 0 < n) : J (mk n fun j => mk m (bl j)) ≠ [] := fun z => by
  have := congrArg List.length z
  rw [List.length_map, mk_len] at this
  simp at this
  omega
theorem m_blocks {d t m : Nat} {bl : Nat → Nat → Nat} (hd : 0 < d) (hm : 0 < m) : Code___check_blocks (codeN d t) (J (mk d fun j => mk m (bl j))) = .ok () := by
  unfold Code___check_blocks
  simp only [bind_ok, List.length_map, List.length_range, decide_true, Bool.not_true, Bool.false_eq_true, if_false]
  rw [m_lengths (J_ne hd) hm len_J]
  rfl
theorem m_index {d t i : Nat} (hi : i < t) : Code___check_index (codeN d t) (i : Int) = .ok () := by
  unfold Code___check_index
  simp only [bind_ok]
  rw [decide_eq_false (show ¬ (i : Int) < 0 by omega), decide_eq_false (show ¬ (t : Int) ≤ (i : Int) by omega)]
  rfl
def wordN (d m : Nat) (bl : Nat → Nat → Nat) (i : Nat) : List Nat := mk m fun s => sumX (fun j => gm (lagr d i j) (bl j s)) d
theorem m_comb {d m i : Nat} {bl : Nat → Nat → Nat} (hb : ∀ j t, bl j t < 256) (hd : 0 < d) (hd2 : d ≤ 1000) (hm : m ≤ 100000) : _combine (I (mk d (lagr d i))) (J (mk d fun j => mk m (bl j))) = .ok (I (wordN d m bl i)) := m_combine (fun j => lagr_lt d i j) hb hd hd2 hm
theorem m_word {d t m : Nat} {bl : Nat → Nat → Nat} (hb : ∀ j t, bl j t < 256) (hd : 0 < d) (hd2 : d ≤ 16) (ht : t ≤ 24) (hm : 0 < m) (hm2 : m ≤ 100000) : Code__word (codeN d t) (J (mk d fun j => mk m (bl j))) = .ok (J (mk t (wordN d m bl))) := by
  unfold Code__word
  simp only [bind_ok, m_blocks hd hm]
  rw [comp_J (f := fun c_1 : List Int => _combine c_1 (J (mk d fun j => mk m (bl j)))) (fun i => I (wordN d m bl i)) (show t ≤ 16777216 by omega) (fun i _ => m_comb hb hd (show d ≤ 1000 by omega) hm2), bind_ok, J_mk]
/-- pieces: indexes and fragments -/
abbrev pcs (w : Nat → List Nat) (ch : List Nat) : List (Int × List Int) := ch.map fun i : Nat => ((i : Int), I (w i))
theorem getD_pcs {w : Nat → List Nat} {i : Nat} : ∀ {ch : List Nat}, i ∈ ch → getD_ (pcs w ch) (i : Int) = some (I (w i))
  | [], h => nomatch h
  | c :: ch, h => by
    unfold getD_
    by_cases e : c = i
    · subst e
      show (List.find? _ (((c : Int), I (w c)) :: _)).map _ = _
      rw [List.find?_cons_of_pos (by simp)]; rfl
    · have h' : i ∈ ch := (List.mem_cons.mp h).resolve_left fun z => e z.symm
      have ih := getD_pcs (w := w) h'
      unfold getD_ at ih
      show (List.find? _ (((c : Int), I (w c)) :: _)).map _ = _
      rw [List.find?_cons_of_neg (by simp; omega)]
      exact ih
theorem srt_pcs (w : Nat → List Nat) (ch : List Nat) (hl : ch.length < 64) : ∃ S : List Nat, srtK (pcs w ch) = some (I S) ∧ S.Perm ch := by
  unfold srtK
  rw [if_pos (by rw [List.length_map]; exact hl)]
  have ek : (pcs w ch).map (·.1) = I ch := by rw [List.map_map]; rfl
  rw [ek]
  have pm := List.mergeSort_perm (I ch) (fun a b : Int => decide (a ≤ b))
  refine ⟨((I ch).mergeSort (fun a b => decide (a ≤ b))).map Int.toNat, ?_, ?_⟩
  · congr 1
    show _ = List.map (fun n : Nat => (n : Int)) (List.map Int.toNat _)
    rw [List.map_map]
    refine Eq.symm (Eq.trans (List.map_congr_left (g := id) fun x hx => ?_) (List.map_id _))
    obtain ⟨o, _, e⟩ := List.mem_map.mp (pm.mem_iff.mp hx)
    subst e; rfl
  · have := pm.map Int.toNat
    refine this.trans ?_
    rw [I, List.map_map]
    have : (Int.toNat ∘ fun n : Nat => (n : Int)) = id := by funext n; rfl
    rw [this, List.map_id]
theorem take_mk (S : List Nat) {d : Nat} (h : d ≤ S.length) : S.take d = mk d fun a => S.getD a 0 := by
  refine List.ext_getElem (by rw [List.length_take, mk_len]; omega) fun i h1 h2 => ?_
  rw [mk_len] at h2
  rw [List.getElem_take, List.getElem_map, List.getElem_range, List.getD_eq_getElem?_getD, List.getElem?_eq_getElem (by omega)]; rfl
theorem m_rebuild {d t m : Nat} {bl : Nat → Nat → Nat} (hb : ∀ j t, bl j t < 256) (hd : 0 < d) (hd2 : d ≤ 16) (ht : t ≤ 24) (hm : 0 < m) (hm2 : m ≤ 100000) {ch : List Nat} (hc : ∀ i ∈ ch, i < t) (hn : ch.Nodup) (hl : d ≤ ch.length) (hl2 : ch.length < 64) :
    Code__rebuild (codeN d t) (pcs (wordN d m bl) ch) = .ok (J (mk d fun j => mk m (bl j))) := by
  obtain ⟨S, eS, pS⟩ := srt_pcs (wordN d m bl) ch hl2
  have lS : S.length = ch.length := pS.length_eq
  have mS : ∀ i ∈ S, i ∈ ch := fun i hi => pS.mem_iff.mp hi
  have nS : S.Nodup := pS.nodup_iff.mpr hn
  have pg : ∀ a, a < S.length → S.getD a 0 ∈ S := fun a ha => by
    rw [List.getD_eq_getElem?_getD, List.getElem?_eq_getElem ha]; exact List.getElem_mem ha
  have fr : compR (fun _ : Int => R.ok true) (fun c : Int => ofO (getD_ (pcs (wordN d m bl) ch) c)) (I S) = .ok (S.map fun i => I (wordN d m bl i)) := comp_map (h := fun n : Nat => (n : Int)) (xs := S) (f := fun c : Int => ofO (getD_ (pcs (wordN d m bl) ch) c)) (fun i => I (wordN d m bl i)) (show S.length ≤ 16777216 by omega) fun i hi => by rw [getD_pcs (mS i hi), ofO_some]
  have rw_ : compR (fun _ : Int => R.ok true) (fun c : Int => ofO (atI (J (rowsN d t)) c)) (I (S.take d)) = .ok (J (mk d fun a => mk d (lagr d (S.getD a 0)))) := by
    have el : I (S.take d) = (List.range d).map fun a => ((S.getD a 0 : Nat) : Int) := by rw [take_mk S (by omega), I, List.map_map]; rfl
    have eJ : J (mk d fun a => mk d (lagr d (S.getD a 0))) = (List.range d).map fun a => I (mk d (lagr d (S.getD a 0))) := (J_mk d _).symm
    rw [el, eJ]
    refine comp_map (xs := List.range d) (h := fun a => ((S.getD a 0 : Nat) : Int)) (fun a => I (mk d (lagr d (S.getD a 0)))) (by rw [List.length_range]; omega) fun a ha => ?_
    have := mS _ (pg a (by have := List.mem_range.mp ha; omega))
    show ofO (atI (J (rowsN d t)) ((S.getD a 0 : Nat) : Int)) = _
    rw [at_J (hc _ this), ofO_some]
  have ns : NonSing d fun a j => lagr d (S.getD a 0) j := lagr_nonsing (by omega) (fun a ha => by
    have := hc _ (mS _ (pg a (by omega)))
    omega) fun a b ha hb' e => by
    rw [List.getD_eq_getElem?_getD, List.getD_eq_getElem?_getD, List.getElem?_eq_getElem (show a < S.length by omega), List.getElem?_eq_getElem (show b < S.length by omega)] at e
    exact (List.getElem_inj nS).mp e
  obtain ⟨B, eB, oB, iB⟩ := m_inverse hd (by omega) (A := fun a j => lagr d (S.getD a 0) j) (fun a j => lagr_lt _ _ _) ns
  have ft : cutL (S.map fun i => I (wordN d m bl i)) none (some (d : Int)) = J (mk d fun a => mk m fun s => sumX (fun j => gm (lagr d (S.getD a 0) j) (bl j s)) d) := by
    rw [cut_to, ← List.map_take, take_mk S (by omega), mk, J, mk, List.map_map, List.map_map]; rfl
  have cI : cutL (I S) none (some (d : Int)) = I (S.take d) := by rw [cut_to, I, I, List.map_take]
  have fin : compR (fun _ : List Int => R.ok true) (fun c : List Int => _combine c (J (mk d fun a => mk m fun s => sumX (fun j => gm (lagr d (S.getD a 0) j) (bl j s)) d))) (J (mk d fun i => mk d (B i))) = .ok (mk d fun i => I (mk m (bl i))) := comp_J (fun i => I (mk m (bl i))) (by omega) fun i hi => by
    rw [m_combine (oB i) (fun a s => sumX_lt (fun j => gm_lt (lagr_lt _ _ _) _) d) hd (by omega) hm2]
    congr 2
    exact mk_congr fun s _ => iB (fun j => bl j s) (fun j => hb j s) i hi
  have lf : ∀ x ∈ S.map (fun i => I (wordN d m bl i)), x.length = m := fun x hx => by
    obtain ⟨i, _, e⟩ := List.mem_map.mp hx
    rw [← e, i_len]; exact mk_len _ _
  have nf : S.map (fun i => I (wordN d m bl i)) ≠ [] := fun z => by
    have := congrArg List.length z
    rw [List.length_map, List.length_nil] at this
    omega
  unfold Code__rebuild
  simp only [bind_ok, eS, ofO_some]
  refine forS_to (I := fun _ s => s = ()) rfl (fun i hi s _ => ⟨(), ?_, rfl⟩) fun s _ => ?_
  · rw [i_len] at hi
    simp only [List.getElem_map]
    rw [m_index (hc _ (mS _ (List.getElem_mem hi))), bind_ok]
  · simp only [i_len]
    rw [decide_eq_false (show ¬ (S.length : Int) < (d : Int) by omega)]
    simp only [Bool.false_eq_true, if_false, fr, bind_ok, m_lengths nf hm lf, cI, rw_, eB, ft, fin]
    rw [J_mk]
theorem m_draws (ns : List Int) (hns : ns.length ≤ 63) {n : Nat} (hn : n ≤ 1000) : ∃ ds, _law_draws ns (n : Int) = .ok ds ∧ ds.length = n ∧ ∀ d ∈ ds, 0 ≤ d ∧ d < 65537 := by
  have happ : ∀ (ds : List Int) (x : Int), (∀ d ∈ ds, 0 ≤ d ∧ d < 65537) → 0 ≤ x ∧ x < 65537 → ∀ d ∈ ds ++ [x], 0 ≤ d ∧ d < 65537 := fun ds x h hx d hd => by
    rcases List.mem_append.mp hd with z | z
    · exact h d z
    · rw [List.mem_singleton.mp z]; exact hx
  unfold _law_draws
  simp only [bind_ok]
  rw [show (63 : Int) = ((63 : Nat) : Int) from rfl, cut_to, List.take_of_length_le hns]
  refine forS_ex (I := fun i s => s.2 = (i : Int) ∧ s.1.length ≤ 20 * i ∧ ∀ d ∈ s.1, 0 ≤ d ∧ d < 65537) ⟨rfl, Nat.zero_le _, fun _ z => nomatch z⟩ (fun i hi s q => ?_) fun s q => ?_
  · obtain ⟨q0, q⟩ := q
    have r20 : rangeO 0 20 = some (irange 0 ((20 : Nat) : Int)) := rangeO_nat (n := 20) (by decide)
    simp only [r20, ofO_some, bind_ok]
    generalize (if ns[i] < 0 then -ns[i] else ns[i]) = number
    cases decide (1000000000000000000 ≤ number) with
    | true =>
      simp only [if_true]
      have := forS_ex (f := fun (x_9 : Int) (s_8 : (List Int) × Int) => (((R.ok s_8.2 >>= fun x => R.ok (0 : Int) >>= fun y => .ok (decide (y < x))) >>= fun x => if x then (((R.ok s_8.2 >>= fun x => .ok (x % 1009)) >>= fun x => ofO (appO s_8.1 x)) >>= fun draws_11 => ((R.ok s_8.2 >>= fun x => .ok (x / 1009)) >>= fun number_12 => R.ok (draws_11, number_12))) else R.ok (s_8.1, s_8.2)) >>= fun j_10 : (List Int) × Int => R.ok (j_10.1, j_10.2))) (xs := irange 0 ((20 : Nat) : Int)) (s := (s.1, number)) (k := fun s => R.ok s.1) (Q := fun ds : List Int => ds.length ≤ 20 * (i + 1) ∧ ∀ d ∈ ds, 0 ≤ d ∧ d < 65537) (I := fun j t => t.1.length ≤ 20 * i + j ∧ ∀ d ∈ t.1, 0 ≤ d ∧ d < 65537) ⟨q.1, q.2⟩ (fun j hj t qt => by
        rw [irange_lenN] at hj
        simp only [bind_ok]
        cases decide (0 < t.2) with
        | true =>
          simp only [if_true, appO_ok (show t.1.length < 16777216 by omega), ofO_some, bind_ok]
          exact ⟨_, rfl, by rw [List.length_append]; have := qt.1; simp only [List.length_singleton]; omega, happ _ _ qt.2 ⟨Int.emod_nonneg _ (by decide), by omega⟩⟩
        | false =>
          exact ⟨_, rfl, by have := qt.1; show t.1.length ≤ _; omega, qt.2⟩) (fun t qt => ⟨t.1, rfl, by rw [irange_lenN] at qt; have := qt.1; omega, qt.2⟩)
      obtain ⟨ds, e, z⟩ := this
      simp only [bind_ok] at e
      rw [e]
      exact ⟨_, rfl, by show s.2 + 1 = _; omega, z⟩
    | false =>
      simp only [Bool.false_eq_true, if_false, appO_ok (show s.1.length < 16777216 by have := q.1; omega), ofO_some, bind_ok]
      exact ⟨_, rfl, by show s.2 + 1 = _; omega, by rw [List.length_append]; have := q.1; simp only [List.length_singleton]; omega, happ _ _ q.2 ⟨Int.emod_nonneg _ (by decide), by omega⟩⟩
  · obtain ⟨q0, q⟩ := q
    simp only [rangeO_nat (n := n) (by omega), ofO_some, bind_ok, q0]
    refine forS_ex (I := fun i t => t.length ≤ 20 * 63 + i ∧ min n i ≤ t.length ∧ ∀ d ∈ t, 0 ≤ d ∧ d < 65537) ⟨by have := q.1; show s.1.length ≤ _; omega, by omega, q.2⟩ (fun i hi t qt => ?_) fun t qt => ?_
    · rw [irange_ix hi]
      rw [irange_lenN] at hi
      have m1 : mulO 977 (ns.length : Int) = some (977 * (ns.length : Int)) := mulO_l (by decide)
      have m2 : mulO (i : Int) (i : Int) = some ((i : Int) * (i : Int)) := mulO_l (by omega)
      simp only [m1, m2, ofO_some, bind_ok]
      cases e : decide ((t.length : Int) < (n : Int)) with
      | true =>
        simp only [if_true, appO_ok (show t.length < 16777216 by have := qt.1; omega), ofO_some, bind_ok]
        exact ⟨_, rfl, by rw [List.length_append]; have := qt.1; simp only [List.length_singleton]; omega, by rw [List.length_append]; have := qt.2.1; simp only [List.length_singleton]; omega, happ _ _ qt.2.2 ⟨Int.emod_nonneg _ (by decide), by omega⟩⟩
      | false =>
        have := of_decide_eq_false e
        exact ⟨_, rfl, by have := qt.1; show t.length ≤ _; omega, by show _ ≤ t.length; omega, qt.2.2⟩
    · rw [irange_lenN] at qt
      rw [cut_to]
      exact ⟨_, rfl, by rw [List.length_take]; have := qt.2.1; omega, fun d hd => qt.2.2 d (List.mem_of_mem_take hd)⟩
theorem d_bd5 {ds : List Int} (h : ∀ d ∈ ds, 0 ≤ d ∧ d < 65537) (k : Nat) : 0 ≤ ds.getD k 0 ∧ ds.getD k 0 < 65537 := by
  rw [List.getD_eq_getElem?_getD]
  by_cases c : k < ds.length
  · rw [List.getElem?_eq_getElem c]; exact h _ (List.getElem_mem _)
  · rw [List.getElem?_eq_none (by omega)]; decide
theorem m_octets (ds : List Int) (hl : 30 ≤ ds.length) (hb : ∀ d ∈ ds, 0 ≤ d ∧ d < 65537) {n : Nat} (hn : n ≤ 3000) : ∃ o : Nat → Nat, _law_octets ds (n : Int) = .ok (I (mk n o)) ∧ ∀ k, o k < 256 := by
  unfold _law_octets
  simp only [bind_ok, rangeO_nat (show n < 4611686018427387904 by omega), ofO_some]
  refine ⟨fun k => ((ds.getD (k % 30) 0 * ((k : Int) + 3) + (k : Int) / 30) % 256).toNat, ?_, fun k => by
    have := Int.emod_nonneg (ds.getD (k % 30) 0 * ((k : Int) + 3) + (k : Int) / 30) (show (256 : Int) ≠ 0 by decide)
    have := Int.emod_lt_of_pos (ds.getD (k % 30) 0 * ((k : Int) + 3) + (k : Int) / 30) (show (0 : Int) < 256 by decide)
    show ((ds.getD (k % 30) 0 * ((k : Int) + 3) + (k : Int) / 30) % 256).toNat < 256
    omega⟩
  rw [comp_range (fun k => (((((ds.getD (k % 30) 0 * ((k : Int) + 3) + (k : Int) / 30) % 256).toNat : Nat)) : Int)) (by omega) fun k hk => by
    have e : (k : Int) % 30 = ((k % 30 : Nat) : Int) := by omega
    rw [e, at_d (k % 30) (by omega), ofO_some, bind_ok, mulO_r (y := (k : Int) + 3) (by omega), ofO_some, bind_ok, bind_ok]
    congr 1
    have := Int.emod_nonneg (ds.getD (k % 30) 0 * ((k : Int) + 3) + (k : Int) / 30) (show (256 : Int) ≠ 0 by decide)
    omega, bind_ok, I, List.map_map]
  rfl
/-! the configuration -/
theorem m_config {d t s : Nat} (h1 : 1 ≤ d) (h2 : d ≤ 16) (h3 : d + 2 * s ≤ t) (h4 : t ≤ 24) : Config____init__ 1 (t : Int) (d : Int) (s : Int) 64 = .ok (1, (t : Int), (d : Int), (s : Int), 64) := by
  have key : Config____init___b 1 (t : Int) (d : Int) (s : Int) 64 = .ok (1, (t : Int), (d : Int), (s : Int), 64) := by
    unfold Config____init___b
    have m1 : mulO 2 (s : Int) = some (2 * (s : Int)) := mulO_l (by decide)
    simp only [bind_ok, m1, ofO_some]
    simp only [decide_eq_true (show (1 : Int) ∈ [1, 3, 5, 7] by decide), decide_eq_true (show (1 : Int) ≤ (t : Int) by omega), decide_eq_true (show (t : Int) ≤ 24 by omega), decide_eq_true (show (1 : Int) ≤ (d : Int) by omega), decide_eq_true (show (d : Int) ≤ 16 by omega), if_true, bind_ok, Bool.not_true, Bool.false_eq_true, if_false, decide_eq_false (show ¬ (s : Int) < 0 by omega), decide_eq_false (show ¬ (t : Int) < (d : Int) + 2 * (s : Int) by omega), decide_eq_false (show ¬ (64 : Int) < 4 by decide), decide_eq_false (show ¬ (4096 : Int) < 64 by decide)]
  unfold Config____init__
  rw [key]; rfl
/-! blocks, one behind the other -/
abbrev blN (m : Nat) (pd : List Nat) (j s : Nat) : Nat := pd.getD (j * m + s) 0
theorem succ_mulm (j m : Nat) : (j + 1) * m = j * m + m := Nat.succ_mul j m
theorem drop_blk {m j : Nat} {pd : List Nat} (h : (j + 1) * m ≤ pd.length) : (pd.take ((j + 1) * m)).drop (j * m) = mk m (blN m pd j) := by
  rw [succ_mulm] at h ⊢
  refine List.ext_getElem (by rw [List.length_drop, List.length_take, mk_len]; omega) fun s s1 s2 => ?_
  rw [mk_len] at s2
  rw [List.getElem_drop, List.getElem_take, List.getElem_map, List.getElem_range]
  show _ = pd.getD (j * m + s) 0
  rw [List.getD_eq_getElem?_getD, List.getElem?_eq_getElem (by omega)]; rfl
theorem take_blk {m j : Nat} {pd : List Nat} (h : (j + 1) * m ≤ pd.length) : pd.take (j * m) ++ mk m (blN m pd j) = pd.take ((j + 1) * m) := by
  rw [← drop_blk h]
  have e : pd.take (j * m) = (pd.take ((j + 1) * m)).take (j * m) := by rw [List.take_take, succ_mulm, Nat.min_eq_left (by omega)]
  rw [e]
  exact List.take_append_drop _ _
theorem I_take (pd : List Nat) (n : Nat) : (I pd).take n = I (pd.take n) := List.map_take.symm
theorem I_drop (pd : List Nat) (n : Nat) : (I pd).drop n = I (pd.drop n) := List.map_drop.symm
theorem I_app (xs ys : List Nat) : I (xs ++ ys) = I xs ++ I ys := List.map_append
abbrev padN (d m : Nat) (os : List Nat) : List Nat := os ++ List.replicate (d * m - os.length) 0
theorem pad_len {d m : Nat} {os : List Nat} (h : os.length ≤ d * m) : (padN d m os).length = d * m := by
  rw [List.length_append, List.length_replicate]; omega
theorem pad_I (d m : Nat) (os : List Nat) : I (padN d m os) = I os ++ List.replicate (d * m - os.length) (0 : Int) := by
  rw [I_app]
  congr 1
  rw [I, List.map_replicate]; rfl
theorem ceil_ok {n d m : Nat} (hd : 0 < d) (hn : 0 < n) (hm : m = (n + d - 1) / d) : n ≤ d * m ∧ 0 < m ∧ m ≤ n := by
  subst hm
  have h1 := Nat.div_add_mod (n + d - 1) d
  have h2 := Nat.mod_lt (n + d - 1) hd
  refine ⟨by omega, Nat.div_pos (by omega) hd, ?_⟩
  rw [Nat.div_le_iff_le_mul hd]
  have : n * 1 ≤ n * d := Nat.mul_le_mul_left n hd
  have e : n + d - 1 = (n - 1) + d := by omega
  have : (n - 1) * 1 ≤ (n - 1) * d := Nat.mul_le_mul_left (n - 1) hd
  have : n * d = (n - 1) * d + d := by
    have := Nat.succ_mul (n - 1) d
    rw [Nat.succ_eq_add_one, show n - 1 + 1 = n by omega] at this
    exact this
  omega
theorem m_chunks {d t m : Nat} {os : List Nat} (hd : 0 < d) (hd2 : d ≤ 16) (hn : 0 < os.length) (hn2 : os.length ≤ 1000) (hm : m = (os.length + d - 1) / d) : Code__chunks (codeN d t) (I os) = .ok (J (mk d fun j => mk m (blN m (padN d m os) j))) := by
  obtain ⟨c1, c2, c3⟩ := ceil_ok hd hn hm
  have c4 : d * m ≤ 16 * 1000 := Nat.mul_le_mul hd2 (by omega)
  have ed : ((os.length : Int) + (d : Int) - 1) / (d : Int) = (m : Int) := by
    rw [hm, show (os.length : Int) + (d : Int) - 1 = ((os.length + d - 1 : Nat) : Int) by omega]; rfl
  have em : (if (m : Int) > 1 then (m : Int) else 1) = (m : Int) := by
    by_cases z : (m : Int) > 1
    · rw [if_pos z]
    · rw [if_neg z]; omega
  have m1 : mulO (m : Int) (d : Int) = some ((m : Int) * (d : Int)) := mulO_l (by omega)
  have er : (m : Int) * (d : Int) - (os.length : Int) = ((d * m - os.length : Nat) : Int) := by
    rw [show (m : Int) * (d : Int) = ((d * m : Nat) : Int) by rw [Nat.mul_comm]; rfl]; omega
  unfold Code__chunks
  simp only [bind_ok, i_len, divO_pos (show (0 : Int) < (d : Int) by omega) (show (d : Int) < 1073741824 by omega), ed, ofO_some, em, m1, er, repO_one (show d * m - os.length ≤ 16777216 by omega), rangeO_nat (show d < 4611686018427387904 by omega)]
  rw [catO_ok (by rw [i_len, List.length_replicate]; omega), ofO_some, bind_ok, ← pad_I]
  rw [comp_range (fun j => I (mk m (blN m (padN d m os) j))) (by omega) fun j hj => ?_, bind_ok, J_mk]
  have lj : (j + 1) * m ≤ d * m := Nat.mul_le_mul_right m hj
  have m2 : mulO (j : Int) (m : Int) = some ((j * m : Nat) : Int) := mulO_l (by omega)
  have m3 : mulO ((j : Int) + 1) (m : Int) = some (((j + 1) * m : Nat) : Int) := mulO_l (by omega)
  rw [m2, m3, ofO_some, ofO_some, bind_ok, bind_ok, bind_ok, bind_ok, cut_mid, I_take, I_drop, drop_blk (by rw [pad_len c1]; exact lj)]
theorem m_merge {d t m n : Nat} {pd : List Nat} (hl : pd.length = d * m) (hn : n ≤ d * m) (hb : d * m ≤ 16777216) : Code__merge (codeN d t) (J (mk d fun j => mk m (blN m pd j))) (n : Int) = .ok (I (pd.take n)) := by
  unfold Code__merge
  simp only [bind_ok]
  refine forS_to (I := fun i s => s = I (pd.take (i * m))) (by rw [Nat.zero_mul]; rfl) (fun i hi s q => ?_) fun s q => ?_
  · subst q
    rw [List.length_map, mk_len] at hi
    have lj : (i + 1) * m ≤ d * m := Nat.mul_le_mul_right m hi
    have lj2 := succ_mulm i m
    refine ⟨I (pd.take ((i + 1) * m)), ?_, rfl⟩
    rw [List.getElem_map, List.getElem_map, List.getElem_range]
    unfold extO
    rw [if_pos (by rw [i_len, i_len, mk_len, List.length_take]; omega), ofO_some, bind_ok, ← I_app, take_blk (by omega)]
  · rw [List.length_map, mk_len] at q
    subst q
    rw [List.take_of_length_le (by omega)]
    simp only [i_len]
    rw [decide_eq_false (show ¬ (pd.length : Int) < (n : Int) by omega)]
    simp only [Bool.false_eq_true, if_false, bind_ok, cut_to, I_take]
/-! the code keeps the blocks -/
theorem word_sys {d m : Nat} {bl : Nat → Nat → Nat} (hb : ∀ j t, bl j t < 256) {i : Nat} (hi : i < d) (hd : d ≤ 256) : wordN d m bl i = mk m (bl i) := by
  unfold wordN
  refine mk_congr fun s _ => ?_
  rw [sumX_one hi fun k hk ne => by rw [lagr_unit hd hi hk, if_neg (fun z => ne z.symm), zero_gm (hb k s)], lagr_unit hd hi hi, if_pos rfl, one_gm (hb i s)]
theorem m_fragments {d t m s : Nat} {os : List Nat} (h1 : 1 ≤ d) (h2 : d ≤ 16) (h3 : d ≤ t) (h4 : t ≤ 24) (ho : OcN os) (hn : 0 < os.length) (hn2 : os.length ≤ 1000) (hm : m = (os.length + d - 1) / d) : fragments (1, (t : Int), (d : Int), (s : Int), 64) (I os) = .ok (J (mk t (wordN d m (blN m (padN d m os))))) := by
  obtain ⟨c1, c2, c3⟩ := ceil_ok h1 hn hm
  have hb : ∀ j s, blN m (padN d m os) j s < 256 := fun j s => getD_oc (ho.app fun x hx => by rw [List.eq_of_mem_replicate hx]; decide) _
  unfold fragments
  simp only [bind_ok, m_init h1 h2 h3 h4, m_chunks h1 h2 hn hn2 hm, m_word hb h1 h2 h4 c2 (show m ≤ 100000 by omega)]
/-! what the law works out -/
theorem m_linv {a : Nat} (ha : a < 256) : _law_inverse_octet (a : Int) = .ok ((ginv a : Nat) : Int) := by
  unfold _law_inverse_octet
  have r7 : rangeO 0 7 = some (irange 0 ((7 : Nat) : Int)) := rangeO_nat (n := 7) (by decide)
  simp only [bind_ok, r7, ofO_some]
  refine forS_to (I := fun i s => ∃ x p : Nat, s = ((x : Int), (p : Int)) ∧ x < 256 ∧ p < 256 ∧ gchain (7 - i) (gsq x) p = ginv a) ⟨a, 1, rfl, ha, by decide, (ginv_chain ha).symm⟩ (fun i hi s q => ?_) fun s q => ?_
  · rw [irange_lenN] at hi
    obtain ⟨x, p, e, hx, hp, h⟩ := q
    subst e
    simp only [m_lmul hx hx, m_lmul hp (show gm x x < 256 from gm_lt hx x), bind_ok]
    refine ⟨_, rfl, gm x x, gm p (gm x x), rfl, gm_lt hx x, gm_lt hp _, ?_⟩
    rw [show 7 - i = (7 - (i + 1)) + 1 by omega] at h
    exact h
  · obtain ⟨x, p, e, hx, hp, h⟩ := q
    subst e
    rw [irange_lenN] at h
    have h : p = ginv a := h
    rw [h]
theorem m_spare {d t m i : Nat} {bl : Nat → Nat → Nat} (hb : ∀ j s, bl j s < 256) (hd : 0 < d) (hd2 : d ≤ 16) (ht : d ≤ t) (ht2 : t ≤ 24) (hm : m ≤ 100000) (hi : i < 256) : _law_spare (J (mk t (wordN d m bl))) (i : Int) (d : Int) = .ok (I (wordN d m bl i)) := by
  have a0 : atI (J (mk t (wordN d m bl))) 0 = some (I (wordN d m bl 0)) := at_J (i := 0) (by omega)
  have z0 : repO [(0 : Int)] (m : Int) = some (I (mk m fun _ => 0)) := by
    rw [repO_one (by omega), I, List.map_map]
    congr 1
    refine List.ext_getElem (by rw [List.length_replicate, List.length_map, List.length_range]) fun i h1 h2 => ?_
    rw [List.getElem_replicate, List.getElem_map]; rfl
  have lw : (wordN d m bl 0).length = m := mk_len _ _
  unfold _law_spare
  simp only [bind_ok, a0, ofO_some, i_len, lw, z0, rangeO_nat (show d < 4611686018427387904 by omega)]
  refine forS_to (I := fun j s => s = I (mk m fun s => sumX (fun k => gm (lagr d i k) (bl k s)) j)) rfl (fun j hj s q => ?_) fun s q => ?_
  · subst q
    rw [irange_ix hj]
    rw [irange_lenN] at hj
    refine ⟨_, ?_, rfl⟩
    refine forS_to (I := fun k s => s = (((prodS i j k : Nat) : Int), ((prodS j j k : Nat) : Int))) rfl (fun k hk s q => ?_) fun s q => ?_
    · subst q
      rw [irange_ix hk]
      rw [irange_lenN] at hk
      refine ⟨_, ?_, rfl⟩
      rw [prodS_step, prodS_step]
      by_cases z : k = j
      · rw [decide_eq_true (show (k : Int) = (j : Int) by omega), if_pos z, if_pos z]; rfl
      · rw [decide_eq_false (show ¬ (k : Int) = (j : Int) by omega), if_neg z, if_neg z]
        simp only [Bool.not_false, if_true, bx, bind_ok, m_lmul (prodS_lt k) (x_lt hi (show k < 256 by omega)), m_lmul (prodS_lt k) (x_lt (show j < 256 by omega) (show k < 256 by omega))]
    · subst q
      rw [irange_lenN]
      have ab : atI (J (mk t (wordN d m bl))) (j : Int) = some (I (mk m (bl j))) := by rw [at_J (show j < t by omega), word_sys hb hj (by omega)]
      simp only [m_linv (prodS_lt d), m_lmul (prodS_lt d) (ginv_lt (prodS_lt d)), bind_ok, i_len, mk_len, rangeO_nat (show m < 4611686018427387904 by omega), ofO_some]
      rw [comp_range (fun s => ((sumX (fun k => gm (lagr d i k) (bl k s)) (j + 1) : Nat) : Int)) (by omega) fun s hs => by
        simp only [at_mk hs, ab, ofO_some, bind_ok]
        rw [show gm (prodS i j d) (ginv (prodS j j d)) = lagr d i j from rfl, m_lmul (lagr_lt d i j) (hb j s), bind_ok, bx]
        rfl, bind_ok, I, List.map_map]
      rfl
  · subst q
    rw [irange_lenN]
    rfl
theorem m_row53 {m : Nat} {f : Nat → Nat} (hf : ∀ k, f k < 256) (hm : m ≤ 100000) : _law_is_row (I (mk m f)) (m : Int) = .ok true := by
  unfold _law_is_row
  simp only [bind_ok, i_len, mk_len, decide_true, Bool.not_true, Bool.false_eq_true, if_false]
  rw [I, List.map_map, comp_map (xs := List.range m) (h := (fun n : Nat => (n : Int)) ∘ f) (fun _ => true) (by rw [List.length_range]; omega) fun k hk => ?_]
  · rw [bind_ok, bind_ok]
    congr 1
    rw [List.all_eq_true]
    intro x hx
    obtain ⟨k, _, e⟩ := List.mem_map.mp hx
    subst e; rfl
  · have h := hf k
    have q : _law_is_number (((fun n : Nat => (n : Int)) ∘ f) k) = .ok true := rfl
    have q0 : decide ((0 : Int) ≤ ((fun n : Nat => (n : Int)) ∘ f) k) = true := decide_eq_true (by show (0 : Int) ≤ ((f k : Nat) : Int); omega)
    have q1 : decide (((fun n : Nat => (n : Int)) ∘ f) k ≤ (255 : Int)) = true := decide_eq_true (by show ((f k : Nat) : Int) ≤ 255; omega)
    simp only [q, q0, q1, bind_ok, if_true]
/-! indexes in an order -/
theorem nodup_erase {pl : List Nat} {i : Nat} (hi : i < pl.length) (hn : pl.Nodup) {p : Nat} (hp : p ∈ pl.eraseIdx i) : p ∈ pl ∧ p ≠ pl[i] := by
  obtain ⟨j, hj, hne, e⟩ := List.mem_eraseIdx_iff_getElem.mp hp
  subst e
  refine ⟨List.getElem_mem _, fun z => hne ?_⟩
  exact (List.getElem_inj hn).mp z
theorem cut_erase {xs : List Nat} {j : Nat} (h : xs.length ≤ 16777216) : catO (cutL (I xs) none (some (j : Int))) (cutL (I xs) (some ((j : Int) + 1)) none) = some (I (xs.eraseIdx j)) := by
  rw [show (j : Int) + 1 = ((j + 1 : Nat) : Int) by omega, cut_to, cut_from, I_take, I_drop, catI (by rw [List.length_take, List.length_drop]; omega), List.eraseIdx_eq_take_drop_succ]
theorem m_order (ds : List Int) (hl : 46 ≤ ds.length) {t : Nat} (ht : t ≤ 24) : ∃ ch : List Nat, _law_order ds (t : Int) = .ok (I ch) ∧ ch.length = t ∧ ch.Nodup ∧ ∀ i ∈ ch, i < t := by
  have hr : rangeLO 0 (t : Int) = some (I (List.range t)) := by
    unfold rangeLO
    rw [if_pos (RgOk.of_le (by decide) (by omega) (by decide) (by omega)), irange_nat]
  unfold _law_order
  simp only [bind_ok, hr, ofO_some, rangeO_nat (show t < 4611686018427387904 by omega)]
  refine forS_mot (Z := fun m => ∃ ch : List Nat, m = .ok (I ch) ∧ ch.length = t ∧ ch.Nodup ∧ ∀ i ∈ ch, i < t) (J := fun i s => ∃ lf ch : List Nat, s = (I lf, I ch) ∧ ch.length = i ∧ lf.length = t - i ∧ lf.Nodup ∧ ch.Nodup ∧ (∀ x ∈ lf, x < t ∧ x ∉ ch) ∧ ∀ x ∈ ch, x < t) ⟨List.range t, [], rfl, rfl, by rw [List.length_range]; rfl, List.nodup_range, List.nodup_nil, fun x hx => ⟨List.mem_range.mp hx, fun z => nomatch z⟩, (fun x z => nomatch z)⟩ (fun i hi s q => ?_) (fun s q => ?_)
  · rw [irange_ix hi]
    rw [irange_lenN] at hi
    obtain ⟨lf, ch, e, l1, l2, n1, n2, h1, h2⟩ := q
    subst e
    have hl0 : 0 < lf.length := by omega
    have e30 : (30 : Int) + (i : Int) % 12 = ((30 + i % 12 : Nat) : Int) := by omega
    simp only [e30, at_d (30 + i % 12) (show 30 + i % 12 < ds.length by omega), ofO_some, bind_ok, i_len, modO_pos (show (0 : Int) < (lf.length : Int) by omega)]
    obtain ⟨j, ej, hj⟩ : ∃ j : Nat, (ds.getD (30 + i % 12) 0 + (i : Int)) % (lf.length : Int) = (j : Int) ∧ j < lf.length := by
      have a := Int.emod_nonneg (ds.getD (30 + i % 12) 0 + (i : Int)) (show (lf.length : Int) ≠ 0 by omega)
      have b := Int.emod_lt_of_pos (ds.getD (30 + i % 12) 0 + (i : Int)) (show (0 : Int) < (lf.length : Int) by omega)
      exact ⟨((ds.getD (30 + i % 12) 0 + (i : Int)) % (lf.length : Int)).toNat, by omega, by omega⟩
    simp only [ej, at_I hj, ofO_some, bind_ok, cut_erase (show lf.length ≤ 16777216 by omega)]
    rw [appO_ok (by rw [i_len]; omega), ofO_some, bind_ok]
    have hm := h1 lf[j] (List.getElem_mem hj)
    refine ⟨_, rfl, lf.eraseIdx j, ch ++ [lf[j]], ?_, by rw [List.length_append, l1]; rfl, by rw [List.length_eraseIdx, if_pos hj]; omega, n1.sublist (List.eraseIdx_sublist ..), ?_, fun x hx => ?_, fun x hx => ?_⟩
    · show (I (lf.eraseIdx j), I ch ++ [((lf[j] : Nat) : Int)]) = (I (lf.eraseIdx j), List.map (fun n : Nat => (n : Int)) (ch ++ [lf[j]]))
      rw [List.map_append]; rfl
    · rw [List.nodup_append]
      exact ⟨n2, by simp, fun a ha b hb' z => by
        rw [List.mem_singleton.mp hb'] at z
        exact hm.2 (z ▸ ha)⟩
    · obtain ⟨m1, m2⟩ := nodup_erase hj n1 hx
      refine ⟨(h1 x m1).1, fun z => ?_⟩
      rcases List.mem_append.mp z with y | y
      · exact (h1 x m1).2 y
      · exact m2 (List.mem_singleton.mp y)
    · rcases List.mem_append.mp hx with y | y
      · exact h2 x y
      · rw [List.mem_singleton.mp y]; exact hm.1
  · obtain ⟨lf, ch, e, l1, l2, n1, n2, h1, h2⟩ := q
    subst e
    rw [irange_lenN] at l1
    exact ⟨ch, rfl, l1, n2, h2⟩
/-! dicts -/
abbrev pcF (F : Nat → List Int) (ch : List Nat) : List (Int × List Int) := ch.map fun i : Nat => ((i : Int), F i)
theorem getD_pcF {F : Nat → List Int} {i : Nat} : ∀ {ch : List Nat}, i ∈ ch → getD_ (pcF F ch) (i : Int) = some (F i)
  | [], h => nomatch h
  | c :: ch, h => by
    unfold getD_
    by_cases e : c = i
    · subst e
      show (List.find? _ (((c : Int), F c) :: _)).map _ = _
      rw [List.find?_cons_of_pos (by simp)]; rfl
    · have h' : i ∈ ch := (List.mem_cons.mp h).resolve_left fun z => e z.symm
      have ih := getD_pcF (F := F) h'
      unfold getD_ at ih
      show (List.find? _ (((c : Int), F c) :: _)).map _ = _
      rw [List.find?_cons_of_neg (by simp; omega)]
      exact ih
theorem put_out {kvs : List (Int × List Int)} {o : Int} (h : ∀ p ∈ kvs, p.1 ≠ o) (hl : kvs.length < 16777216) (v : List Int) : putDO kvs o v = some (kvs ++ [(o, v)]) := by
  unfold putDO putD
  rw [if_pos hl, if_neg fun z => ?_]
  obtain ⟨p, hp, e⟩ := List.any_eq_true.mp z
  exact h p hp (of_decide_eq_true e)
theorem put_new {F : Nat → List Int} {ch : List Nat} {i : Nat} (h : i ∉ ch) (hl : ch.length < 16777216) : putDO (pcF F ch) (i : Int) (F i) = some (pcF F (ch ++ [i])) := by
  rw [put_out (fun p hp => ?_) (by rw [List.length_map]; exact hl)]
  · show some (List.map (fun i : Nat => ((i : Int), F i)) ch ++ [((i : Int), F i)]) = some (List.map (fun i : Nat => ((i : Int), F i)) (ch ++ [i]))
    rw [List.map_append]; rfl
  · obtain ⟨k, hk, e2⟩ := List.mem_map.mp hp
    subst e2
    intro e
    have e : (k : Int) = (i : Int) := e
    exact h (by rw [show i = k by omega]; exact hk)
theorem put_old {F : Nat → List Int} {ch : List Nat} {i : Nat} (h : i ∈ ch) (hl : ch.length < 16777216) (v : List Int) : putDO (pcF F ch) (i : Int) v = some (pcF (fun k => if k = i then v else F k) ch) := by
  unfold putDO putD
  rw [if_pos (by rw [List.length_map]; exact hl), if_pos (show ((pcF F ch).any fun p => decide (p.1 = (i : Int))) = true from List.any_eq_true.mpr ⟨((i : Int), F i), List.mem_map.mpr ⟨i, h, rfl⟩, decide_eq_true rfl⟩), List.map_map]
  congr 1
  refine List.map_congr_left fun k _ => ?_
  show (if (k : Int) = (i : Int) then ((k : Int), v) else ((k : Int), F k)) = ((k : Int), if k = i then v else F k)
  by_cases e : k = i
  · rw [if_pos (by omega), if_pos e]
  · rw [if_neg (by omega), if_neg e]
theorem getD_self {p : Int × List Int} : ∀ {kvs : List (Int × List Int)}, (kvs.map (·.1)).Nodup → p ∈ kvs → getD_ kvs p.1 = some p.2
  | [], _, h => nomatch h
  | q :: kvs, n, h => by
    rw [List.map_cons, List.nodup_cons] at n
    unfold getD_
    rcases List.mem_cons.mp h with e | e
    · subst e
      rw [List.find?_cons_of_pos (by simp)]; rfl
    · rw [List.find?_cons_of_neg (by
        rw [decide_eq_true_iff]
        exact fun z => n.1 (by rw [z]; exact List.mem_map_of_mem e))]
      exact getD_self n.2 e
theorem cpD_go {kvs : List (Int × List Int)} (n : (kvs.map (·.1)).Nodup) : ∀ (ps acc : List (Int × List Int)), acc ++ ps = kvs → cpD kvs acc ps = kvs
  | [], acc, e => by rw [← e, List.append_nil]; rfl
  | p :: ps, acc, e => by
    have hp : p ∈ kvs := by rw [← e]; exact List.mem_append_right _ List.mem_cons_self
    show cpD kvs (putD acc p.1 ((getD_ kvs p.1).getD p.2)) ps = kvs
    rw [getD_self n hp]
    have e2 : putD acc p.1 p.2 = acc ++ [p] := by
      unfold putD
      rw [if_neg fun z => ?_]
      obtain ⟨q, hq, e3⟩ := List.any_eq_true.mp z
      have e3 := of_decide_eq_true e3
      rw [← e, List.map_append, List.map_cons, List.nodup_append] at n
      exact n.2.2 q.1 (List.mem_map_of_mem hq) p.1 List.mem_cons_self e3
    show cpD kvs (putD acc p.1 p.2) ps = kvs
    rw [e2]
    exact cpD_go n ps (acc ++ [p]) (by rw [List.append_assoc]; exact e)
theorem cpD_self {kvs : List (Int × List Int)} (n : (kvs.map (·.1)).Nodup) : cpD kvs [] kvs = kvs := cpD_go n kvs [] rfl
theorem pcF_keys (F : Nat → List Int) (ch : List Nat) : (pcF F ch).map (·.1) = I ch := by rw [List.map_map]; rfl
theorem I_nodup {ch : List Nat} (h : ch.Nodup) : (I ch).Nodup := List.Pairwise.map _ (fun a b (e : a ≠ b) => show ((a : Int) ≠ (b : Int)) by omega) h
/-! the errors -/
theorem err_bind {α β : Type} {c : Str} {k : α → R β} : ((R.err c : R α) >>= k) = .err c := rfl
theorem forS_err {α : Type} {f : α → Unit → R Unit} {c : Str} : ∀ {xs : List α}, (∀ x ∈ xs, f x () = .ok () ∨ f x () = .err c) → (∃ x ∈ xs, f x () = .err c) → forS f xs () = .err c
  | [], _, h => by obtain ⟨x, hx, _⟩ := h; cases hx
  | x :: xs, ha, h => by
    rw [forS_cons]
    rcases ha x List.mem_cons_self with e | e
    · rw [e, bind_ok]
      obtain ⟨y, hy, ey⟩ := h
      rcases List.mem_cons.mp hy with z | z
      · rw [z, e] at ey; cases ey
      · exact forS_err (fun w hw => ha w (List.mem_cons_of_mem _ hw)) ⟨y, z, ey⟩
    · rw [e]; rfl
theorem idx_bad {d t : Nat} {x : Int} (h : x < 0 ∨ (t : Int) ≤ x) : Code___check_index (codeN d t) x = .err "BadIndex" := by
  unfold Code___check_index
  simp only [bind_ok]
  by_cases c : x < 0
  · rw [decide_eq_true c]; rfl
  · rw [decide_eq_false c, decide_eq_true (show (t : Int) ≤ x by omega)]; rfl
theorem idx_ok {d t : Nat} {x : Int} (h : 0 ≤ x ∧ x < (t : Int)) : Code___check_index (codeN d t) x = .ok () := by
  unfold Code___check_index
  simp only [bind_ok]
  rw [decide_eq_false (show ¬ x < 0 by omega), decide_eq_false (show ¬ (t : Int) ≤ x by omega)]; rfl
theorem srt_keys {β : Type} {kvs : List (Int × β)} (hl : kvs.length < 64) : ∃ S : List Int, srtK kvs = some S ∧ S.Perm (kvs.map (·.1)) := by
  unfold srtK
  rw [if_pos hl]
  exact ⟨_, rfl, List.mergeSort_perm _ _⟩
theorem reb_index {d t : Nat} {kvs : List (Int × List Int)} (hl : kvs.length < 64) (h : ∃ p ∈ kvs, p.1 < 0 ∨ (t : Int) ≤ p.1) : Code__rebuild (codeN d t) kvs = .err "BadIndex" := by
  obtain ⟨S, eS, pS⟩ := srt_keys hl
  unfold Code__rebuild
  simp only [bind_ok, eS, ofO_some]
  rw [forS_err (c := "BadIndex") ?_ ?_, err_bind]
  · intro x _
    by_cases c : 0 ≤ x ∧ x < (t : Int)
    · rw [idx_ok c]; exact .inl rfl
    · rw [idx_bad (by omega)]; exact .inr rfl
  · obtain ⟨p, hp, b⟩ := h
    exact ⟨p.1, pS.mem_iff.mpr (List.mem_map_of_mem hp), by rw [idx_bad b]; rfl⟩
theorem idx_all {d t : Nat} {S : List Int} (h : ∀ x ∈ S, 0 ≤ x ∧ x < (t : Int)) : forS (fun (x : Int) (_ : Unit) => Code___check_index (codeN d t) x >>= fun _ => R.ok ()) S () = .ok () := by
  induction S with
  | nil => rfl
  | cons x S ih =>
    rw [forS_cons, idx_ok (h x List.mem_cons_self), bind_ok, bind_ok]
    exact ih fun y hy => h y (List.mem_cons_of_mem _ hy)
theorem reb_few {d t : Nat} {kvs : List (Int × List Int)} (hl : kvs.length < 64) (h : ∀ p ∈ kvs, 0 ≤ p.1 ∧ p.1 < (t : Int)) (hd : kvs.length < d) : Code__rebuild (codeN d t) kvs = .err "NotEnough" := by
  obtain ⟨S, eS, pS⟩ := srt_keys hl
  have lS : S.length = kvs.length := by rw [pS.length_eq, List.length_map]
  have hS : ∀ x ∈ S, 0 ≤ x ∧ x < (t : Int) := fun x hx => by
    obtain ⟨p, hp, e⟩ := List.mem_map.mp (pS.mem_iff.mp hx)
    rw [← e]; exact h p hp
  unfold Code__rebuild
  simp only [bind_ok, eS, ofO_some]
  rw [idx_all hS, bind_ok, decide_eq_true (show (S.length : Int) < (d : Int) by omega)]
  rfl
theorem len_bad {L : List (List Int)} (h : ∃ x ∈ L, x.length = 0 ∨ ∃ y ∈ L, y.length ≠ x.length) : _check_lengths L = .err "UnequalBlocks" := by
  obtain ⟨x, hx, hb⟩ := h
  cases L with
  | nil => cases hx
  | cons z L =>
    have a0 : atI (z :: L) 0 = some z := atI_nat' (xs := z :: L) (i := 0) (Nat.succ_pos _)
    have key : ∃ w ∈ z :: L, w.length = 0 ∨ w.length ≠ z.length := by
      rcases hb with b | ⟨y, hy, b⟩
      · exact ⟨x, hx, .inl b⟩
      · by_cases c : x.length = z.length
        · exact ⟨y, hy, .inr fun e => b (e.trans c.symm)⟩
        · exact ⟨x, hx, .inr c⟩
    unfold _check_lengths
    simp only [bind_ok, a0, ofO_some]
    rw [forS_err (c := "UnequalBlocks") ?_ ?_, err_bind]
    · intro w _
      by_cases c : w.length = 0
      · rw [decide_eq_true (show (w.length : Int) = 0 by omega)]; exact .inr rfl
      · rw [decide_eq_false (show ¬ (w.length : Int) = 0 by omega)]
        by_cases c2 : w.length = z.length
        · rw [decide_eq_true (show (w.length : Int) = (z.length : Int) by omega)]; exact .inl rfl
        · rw [decide_eq_false (show ¬ (w.length : Int) = (z.length : Int) by omega)]; exact .inr rfl
    · obtain ⟨w, hw, b⟩ := key
      refine ⟨w, hw, ?_⟩
      by_cases c : w.length = 0
      · rw [decide_eq_true (show (w.length : Int) = 0 by omega)]; rfl
      · have c2 := b.resolve_left c
        rw [decide_eq_false (show ¬ (w.length : Int) = 0 by omega), decide_eq_false (show ¬ (w.length : Int) = (z.length : Int) by omega)]; rfl
theorem reb_unequal {d t : Nat} {F : Nat → List Int} {ch : List Nat} (hl : ch.length < 64) (hc : ∀ i ∈ ch, i < t) (hd : d ≤ ch.length) (hb : ∃ i ∈ ch, (F i).length = 0 ∨ ∃ k ∈ ch, (F k).length ≠ (F i).length) : Code__rebuild (codeN d t) (pcF F ch) = .err "UnequalBlocks" := by
  obtain ⟨S, eS, pS⟩ := srt_keys (kvs := pcF F ch) (by rw [List.length_map]; exact hl)
  rw [pcF_keys] at pS
  have lS : S.length = ch.length := by rw [pS.length_eq, i_len]
  have mS : ∀ x ∈ S, ∃ i ∈ ch, x = (i : Int) := fun x hx => by
    obtain ⟨i, hi, e⟩ := List.mem_map.mp (pS.mem_iff.mp hx)
    exact ⟨i, hi, e.symm⟩
  have hS : ∀ x ∈ S, 0 ≤ x ∧ x < (t : Int) := fun x hx => by
    obtain ⟨i, hi, e⟩ := mS x hx
    have := hc i hi
    omega
  have fr : compR (fun _ : Int => R.ok true) (fun c : Int => ofO (getD_ (pcF F ch) c)) S = .ok (S.map fun c : Int => F c.toNat) := compR_map (fun c : Int => F c.toNat) (show S.length ≤ 16777216 by omega) (fun _ _ => rfl) fun x hx => by
    obtain ⟨i, hi, e⟩ := mS x hx
    subst e
    rw [getD_pcF hi, ofO_some]; rfl
  have mF : ∀ i ∈ ch, F i ∈ S.map fun c : Int => F c.toNat := fun i hi => List.mem_map.mpr ⟨(i : Int), pS.mem_iff.mpr (List.mem_map_of_mem hi), rfl⟩
  unfold Code__rebuild
  simp only [bind_ok, eS, ofO_some]
  rw [idx_all hS, bind_ok, decide_eq_false (show ¬ (S.length : Int) < (d : Int) by omega)]
  simp only [Bool.false_eq_true, if_false, fr, bind_ok]
  rw [len_bad, err_bind]
  obtain ⟨i, hi, b⟩ := hb
  exact ⟨F i, mF i hi, b.imp_right fun ⟨k, hk, e⟩ => ⟨F k, mF k hk, e⟩⟩
/-! the whole blob -/
theorem wb_is {d t s n : Nat} {kvs : List (Int × List Int)} (h1 : 1 ≤ d) (h2 : d ≤ 16) (h3 : d ≤ t) (h4 : t ≤ 24) (hn : (kvs.map (·.1)).Nodup) (hl : kvs.length < 64) : whole_blob (1, (t : Int), (d : Int), (s : Int), 64) kvs (n : Int) = (Code__rebuild (codeN d t) kvs >>= fun L => Code__merge (codeN d t) L (n : Int)) := by
  unfold whole_blob
  simp only [bind_ok, m_init h1 h2 h3 h4, if_pos (show kvs.length < 16777216 by omega), cpD_self hn]
  cases Code__rebuild (codeN d t) kvs with
  | bad => rfl
  | err c => rfl
  | ok L => simp only [bind_ok]; cases Code__merge (codeN d t) L (n : Int) <;> rfl
theorem le_index {cfg : OConfig} {kvs : List (Int × List Int)} {n : Int} (h : whole_blob cfg kvs n = .err "BadIndex") : _law_error cfg kvs n = .ok "index" := by
  unfold _law_error
  simp only [bind_ok, h, err_bind]
  rfl
theorem le_few {cfg : OConfig} {kvs : List (Int × List Int)} {n : Int} (h : whole_blob cfg kvs n = .err "NotEnough") : _law_error cfg kvs n = .ok "few" := by
  unfold _law_error
  simp only [bind_ok, h, err_bind]
  rfl
theorem le_unequal {cfg : OConfig} {kvs : List (Int × List Int)} {n : Int} (h : whole_blob cfg kvs n = .err "UnequalBlocks") : _law_error cfg kvs n = .ok "unequal" := by
  unfold _law_error
  simp only [bind_ok, h, err_bind]
  rfl
theorem to_ok {α β : Type} {m : R α} {k : α → R β} {r : R β} (P : α → Prop) (h : ∃ x, m = .ok x ∧ P x) (hk : ∀ x, P x → k x = r) : (m >>= k) = r := by
  obtain ⟨x, e, p⟩ := h
  rw [e, bind_ok]
  exact hk x p
theorem word_len {d m : Nat} {bl : Nat → Nat → Nat} (i : Nat) : (I (wordN d m bl i)).length = m := by rw [i_len]; exact mk_len _ _
theorem nodup_take {ch : List Nat} (h : ch.Nodup) (n : Nat) : (ch.take n).Nodup := h.sublist (List.take_sublist n ch)
/-- a dict that is filled in the order of the indexes -/
theorem fill {t n : Nat} {w : Nat → List Nat} {ch : List Nat} {β : Type} {k : List (Int × List Int) → R β} {r : R β} (hn : ch.Nodup) (hc : ∀ i ∈ ch, i < t) (hl : ch.length < 64) (hk : k (pcs w (ch.take n)) = r) : (forS (fun (x : Int) (s : List (Int × List Int)) => (ofO (atI (J (mk t w)) x) >>= fun y => ofO (putDO s x y)) >>= fun z => R.ok z) (I (ch.take n)) [] >>= k) = r := by
  refine forS_to (I := fun i s => s = pcs w ((ch.take n).take i)) rfl (fun i hi s q => ?_) fun s q => ?_
  · rw [i_len] at hi
    subst q
    have hb' := hc (ch.take n)[i] (List.mem_of_mem_take (List.getElem_mem hi))
    have nin : (ch.take n)[i] ∉ (ch.take n).take i := fun w => by
      obtain ⟨k, hk, e⟩ := List.mem_iff_getElem.mp w
      rw [List.length_take] at hk
      rw [List.getElem_take] at e
      have := (List.getElem_inj (nodup_take hn n)).mp e
      omega
    have lt : (ch.take n).length ≤ ch.length := by rw [List.length_take]; omega
    have pn := put_new (F := fun i => I (w i)) nin (show ((ch.take n).take i).length < 16777216 by rw [List.length_take]; omega)
    refine ⟨pcs w ((ch.take n).take (i + 1)), ?_, rfl⟩
    rw [List.getElem_map, at_J hb', ofO_some, bind_ok]
    refine Eq.trans (congrArg (fun m => m >>= fun z => R.ok z) (congrArg ofO pn)) ?_
    rw [ofO_some, bind_ok, List.take_succ_eq_append_getElem hi]
  · rw [i_len, List.take_length] at q
    rw [q]; exact hk
theorem law_true (ns : List Int) (h : ns.length ≤ 63) : law ns = .ok true := by
  obtain ⟨ds, ed, ld, bd⟩ := m_draws ns h (n := 46) (by decide)
  have ed : _law_draws ns 46 = .ok ds := ed
  have aD : ∀ k, k < 46 → atI ds ((k : Nat) : Int) = some (ds.getD k 0) := fun k hk => at_d k (by omega)
  have a37 : atI ds 37 = some (ds.getD 37 0) := aD 37 (by decide)
  have a38 : atI ds 38 = some (ds.getD 38 0) := aD 38 (by decide)
  have a39 : atI ds 39 = some (ds.getD 39 0) := aD 39 (by decide)
  have a40 : atI ds 40 = some (ds.getD 40 0) := aD 40 (by decide)
  have a41 : atI ds 41 = some (ds.getD 41 0) := aD 41 (by decide)
  have a42 : atI ds 42 = some (ds.getD 42 0) := aD 42 (by decide)
  have a43 : atI ds 43 = some (ds.getD 43 0) := aD 43 (by decide)
  have a44 : atI ds 44 = some (ds.getD 44 0) := aD 44 (by decide)
  have a45 : atI ds 45 = some (ds.getD 45 0) := aD 45 (by decide)
  have b37 := d_bd5 bd 37
  have b38 := d_bd5 bd 38
  have b40 := d_bd5 bd 40
  have b41 := d_bd5 bd 41
  have b42 := d_bd5 bd 42
  have b43 := d_bd5 bd 43
  have b44 := d_bd5 bd 44
  have b45 := d_bd5 bd 45
  unfold law
  simp only [bind_ok, ed, a37, a38, a39, a40, a41, a42, a43, a44, a45, ofO_some]
  refine to_ok (P := fun x : Int => ∃ d : Nat, x = (d : Int) ∧ 1 ≤ d ∧ d ≤ 16) ?_ fun x q => ?_
  · by_cases c : ds.getD 39 0 % 4 = 1
    · rw [decide_eq_true c]
      refine ⟨1 + ds.getD 42 0 % 16, ?_, (1 + ds.getD 42 0 % 16).toNat, by omega, by omega, by omega⟩
      show (ofO (atI [(5 : Int), 16] 1) >>= fun y => ofO (modO (ds.getD 42 0) y) >>= fun y => R.ok (1 + y)) = _
      rw [show atI [(5 : Int), 16] 1 = some 16 from rfl, ofO_some, bind_ok, modO_pos (by decide), ofO_some, bind_ok]
    · rw [decide_eq_false c]
      refine ⟨1 + ds.getD 42 0 % 5, ?_, (1 + ds.getD 42 0 % 5).toNat, by omega, by omega, by omega⟩
      show (ofO (atI [(5 : Int), 16] 0) >>= fun y => ofO (modO (ds.getD 42 0) y) >>= fun y => R.ok (1 + y)) = _
      rw [show atI [(5 : Int), 16] 0 = some 5 from rfl, ofO_some, bind_ok, modO_pos (by decide), ofO_some, bind_ok]
  obtain ⟨d, e, h1, h2⟩ := q
  subst e
  obtain ⟨s, es, hs⟩ : ∃ s : Nat, ds.getD 43 0 % 3 = (s : Int) ∧ s ≤ 2 := ⟨(ds.getD 43 0 % 3).toNat, by omega, by omega⟩
  have ms : mulO 2 (s : Int) = some (2 * (s : Int)) := mulO_l (by decide)
  obtain ⟨t, et, ht1, ht2⟩ : ∃ t : Nat, (d : Int) + 2 * (s : Int) + ds.getD 44 0 % 3 = (t : Int) ∧ d + 2 * s ≤ t ∧ t ≤ 24 := ⟨((d : Int) + 2 * (s : Int) + ds.getD 44 0 % 3).toNat, by omega, by omega, by omega⟩
  have h3 : d ≤ t := by omega
  simp only [es, ms, ofO_some, bind_ok, et, m_config h1 h2 ht1 ht2]
  refine to_ok (P := fun x : Int => ∃ n : Nat, x = (n : Int) ∧ 1 ≤ n ∧ n ≤ 64) ?_ fun x q => ?_
  · have c : ds.getD 41 0 % 7 = 0 ∨ ds.getD 41 0 % 7 = 1 ∨ ds.getD 41 0 % 7 = 2 ∨ ds.getD 41 0 % 7 = 3 ∨ ds.getD 41 0 % 7 = 4 ∨ ds.getD 41 0 % 7 = 5 ∨ ds.getD 41 0 % 7 = 6 := by omega
    rcases c with z | z | z | z | z | z | z <;> rw [z]
    · exact ⟨1, rfl, 1, by omega, by omega, by omega⟩
    · exact ⟨2, rfl, 2, by omega, by omega, by omega⟩
    · exact ⟨(d : Int), rfl, d, by omega, by omega, by omega⟩
    · exact ⟨(d : Int) + 1, rfl, d + 1, by omega, by omega, by omega⟩
    · exact ⟨63, rfl, 63, by omega, by omega, by omega⟩
    · exact ⟨64, rfl, 64, by omega, by omega, by omega⟩
    · exact ⟨1 + ds.getD 45 0 % 64, rfl, (1 + ds.getD 45 0 % 64).toNat, by omega, by omega, by omega⟩
  obtain ⟨n, e, n1, n2⟩ := q
  subst e
  obtain ⟨o, eo, ho⟩ := m_octets ds (by omega) bd (n := n) (by omega)
  have lo : (mk n o).length = n := mk_len n o
  obtain ⟨m, hm⟩ : ∃ m, m = ((mk n o).length + d - 1) / d := ⟨_, rfl⟩
  have fr := m_fragments (s := s) (os := mk n o) h1 h2 h3 ht2 (mk_oc ho) (by omega) (by omega) hm
  obtain ⟨c1, c2, c3⟩ := ceil_ok h1 (show 0 < (mk n o).length by omega) hm
  rw [lo] at c1 c3 hm
  have pl : (padN d m (mk n o)).length = d * m := pad_len (by rw [lo]; exact c1)
  have hb : ∀ j s, blN m (padN d m (mk n o)) j s < 256 := fun j s => getD_oc ((mk_oc ho).app fun x hx => by rw [List.eq_of_mem_replicate hx]; decide) _
  have hdm : d * m ≤ 16 * 64 := Nat.mul_le_mul h2 (by omega)
  have pI : I (padN d m (mk n o)) = I (mk n o) ++ List.replicate (d * m - n) (0 : Int) := by rw [pad_I, lo]
  have pt : (padN d m (mk n o)).take n = mk n o := by rw [List.take_append_of_le_length (by omega), List.take_of_length_le (by omega)]
  generalize hbl : blN m (padN d m (mk n o)) = bl at fr hb
  have ln : ((n : Int) + (d : Int) - 1) / (d : Int) = (m : Int) := by
    rw [hm, show (n : Int) + (d : Int) - 1 = ((n + d - 1 : Nat) : Int) by omega]; rfl
  have rowsL : (J (mk t (wordN d m bl))).length = t := by rw [List.length_map, mk_len]
  have isr : compR (fun _ : List Int => R.ok true) (fun c : List Int => _law_is_row c (m : Int)) (J (mk t (wordN d m bl))) = .ok (mk t fun _ => true) := comp_J (fun _ => true) (by omega) fun i hi => m_row53 (f := fun s => sumX (fun j => gm (lagr d i j) (bl j s)) d) (fun s => sumX_lt (fun j => gm_lt (lagr_lt d i j) _) d) (by omega)
  have allt : ((mk t fun _ => true).all id) = true := by
    rw [List.all_eq_true]
    intro x hx
    obtain ⟨k, _, e⟩ := List.mem_map.mp hx
    subst e; rfl
  have cutd : cutL (J (mk t (wordN d m bl))) none (some (d : Int)) = J (mk d fun j => mk m (bl j)) := by
    rw [cut_to, J, J, ← List.map_take, mk, ← List.map_take, List.take_range, Nat.min_eq_left h3]
    congr 1
    exact mk_congr fun j hj => word_sys hb hj (by omega)
  have cutr : cutL (J (mk t (wordN d m bl))) (some (d : Int)) none = (List.range (t - d)).map fun k => I (wordN d m bl (d + k)) := by
    rw [cut_from]
    refine List.ext_getElem (by rw [List.length_drop, rowsL, List.length_map, List.length_range]) fun i a b => ?_
    rw [List.getElem_drop, List.getElem_map, List.getElem_map, List.getElem_range, List.getElem_map, List.getElem_range]
  have dz : divO ((n : Int) + (d : Int) - 1) (d : Int) = some (m : Int) := by rw [divO_pos (by omega) (by omega), ln]
  have mz : mulO (d : Int) (m : Int) = some ((d : Int) * (m : Int)) := mulO_l (by omega)
  have er : (d : Int) * (m : Int) - (n : Int) = ((d * m - n : Nat) : Int) := by
    rw [show (d : Int) * (m : Int) = ((d * m : Nat) : Int) from rfl]; omega
  have rp := repO_one (x := (0 : Int)) (show d * m - n ≤ 16777216 by omega)
  have cz : catO (I (mk n o)) (List.replicate (d * m - n) (0 : Int)) = some (I (padN d m (mk n o))) := by
    rw [catO_ok (by rw [i_len, lo, List.length_replicate]; omega), pI]
  simp only [eo, bind_ok, fr, dz, ofO_some, rowsL, decide_true, Bool.not_true, Bool.false_eq_true, if_false, eqI, Option.map_some, ttb, isr, allt, cutd, mz, er, rp, cz]
  refine forS_to (I := fun i s => s = I ((padN d m (mk n o)).take (i * m))) (by rw [Nat.zero_mul]; rfl) (fun i hi s q => ?_) fun s q => ?_
  · subst q
    rw [List.length_map, mk_len] at hi
    have lj : (i + 1) * m ≤ d * m := Nat.mul_le_mul_right m hi
    have lj2 := succ_mulm i m
    refine ⟨I ((padN d m (mk n o)).take ((i + 1) * m)), ?_, rfl⟩
    rw [List.getElem_map, List.getElem_map, List.getElem_range, catI (by rw [mk_len, List.length_take]; omega), ofO_some, bind_ok, ← hbl, take_blk (by omega)]
  rw [List.length_map, mk_len] at q
  subst q
  rw [List.take_of_length_le (by omega)]
  have rg : rangeO (d : Int) (t : Int) = some (irange (d : Int) (t : Int)) := by
    unfold rangeO
    rw [small_iff.mpr ⟨by omega, by omega⟩, small_iff.mpr ⟨by omega, by omega⟩]; rfl
  have ir : irange (d : Int) (t : Int) = (List.range (t - d)).map fun k : Nat => (((d + k : Nat)) : Int) := by
    unfold irange
    rw [show ((t : Int) - (d : Int)).toNat = t - d by omega]
    exact List.map_congr_left fun k _ => by omega
  have sp : compR (fun _ : Int => R.ok true) (fun c : Int => _law_spare (J (mk t (wordN d m bl))) c (d : Int)) (irange (d : Int) (t : Int)) = .ok ((List.range (t - d)).map fun k => I (wordN d m bl (d + k))) := by
    rw [ir]
    exact comp_map (h := fun k : Nat => (((d + k : Nat)) : Int)) (xs := List.range (t - d)) (fun k => I (wordN d m bl (d + k))) (by rw [List.length_range]; omega) fun k hk => m_spare hb h1 h2 h3 ht2 (by omega) (by have := List.mem_range.mp hk; omega)
  obtain ⟨ch, eo2, lc, nc, bc⟩ := m_order ds (by omega) ht2
  obtain ⟨b, eb, hb2⟩ : ∃ b : Nat, ds.getD 40 0 % 2 = (b : Int) ∧ b ≤ 1 := ⟨(ds.getD 40 0 % 2).toNat, by omega, by omega⟩
  obtain ⟨p, ep, hp1, hp2⟩ : ∃ p : Nat, (d : Int) + (b : Int) * ((t : Int) - (d : Int)) = (p : Int) ∧ d ≤ p ∧ p ≤ t := by
    have : b = 0 ∨ b = 1 := by omega
    rcases this with z | z
    · exact ⟨d, by rw [z]; omega, by omega, h3⟩
    · exact ⟨t, by rw [z]; omega, h3, by omega⟩
  have mb : mulO (b : Int) ((t : Int) - (d : Int)) = some ((b : Int) * ((t : Int) - (d : Int))) := mulO_l (by omega)
  have cp : cutL (I ch) none (some (p : Int)) = I (ch.take p) := by rw [cut_to, I_take]
  have cf : cutL (I ch) none (some ((d : Int) - 1)) = I (ch.take (d - 1)) := by rw [show (d : Int) - 1 = ((d - 1 : Nat) : Int) by omega, cut_to, I_take]
  simp only [decide_true, Bool.not_true, Bool.false_eq_true, if_false, rg, ofO_some, bind_ok, eqI, sp, cutr, eqLL, Option.map_some, ttb, eo2, eb, mb, ep, cp, cf]
  have lp : (ch.take p).length = p := by rw [List.length_take]; omega
  have np := nodup_take nc p
  have bp : ∀ i ∈ ch.take p, i < t := fun i hi => bc i (List.mem_of_mem_take hi)
  refine fill nc bc (by omega) ?_
  have kp : ((pcs (wordN d m bl) (ch.take p)).map (·.1)).Nodup := by rw [pcF_keys (fun i => I (wordN d m bl i))]; exact I_nodup np
  have wb : whole_blob (1, (t : Int), (d : Int), (s : Int), 64) (pcs (wordN d m bl) (ch.take p)) (n : Int) = .ok (I (mk n o)) := by
    rw [wb_is h1 h2 h3 ht2 kp (by rw [List.length_map]; omega), m_rebuild hb h1 h2 ht2 c2 (by omega) bp np (by omega) (by omega), bind_ok, ← hbl, m_merge pl c1 (by omega), pt]
  simp only [wb, bind_ok, eqI, decide_true, Option.map_some, ttb, Bool.not_true, Bool.false_eq_true, if_false, ofO_some]
  refine fill nc bc (by omega) ?_
  have lf : (ch.take (d - 1)).length = d - 1 := by rw [List.length_take]; omega
  have nf := nodup_take nc (d - 1)
  have bf : ∀ i ∈ ch.take (d - 1), i < t := fun i hi => bc i (List.mem_of_mem_take hi)
  have kf : ((pcs (wordN d m bl) (ch.take (d - 1))).map (·.1)).Nodup := by rw [pcF_keys (fun i => I (wordN d m bl i))]; exact I_nodup nf
  have keyin : ∀ (F : Nat → List Int) (c : List Nat), (∀ i ∈ c, i < t) → ∀ q ∈ pcF F c, 0 ≤ q.1 ∧ q.1 < (t : Int) := fun F c hc q hq => by
    obtain ⟨i, hi, e⟩ := List.mem_map.mp hq
    have := hc i hi
    rw [← e]
    show 0 ≤ (i : Int) ∧ (i : Int) < (t : Int)
    omega
  have e1 := le_few (cfg := (1, (t : Int), (d : Int), (s : Int), 64)) (kvs := pcs (wordN d m bl) (ch.take (d - 1))) (n := (n : Int)) (by
    rw [wb_is h1 h2 h3 ht2 kf (by rw [List.length_map]; omega), reb_few (by rw [List.length_map]; omega) (keyin _ _ bf) (by rw [List.length_map]; omega), err_bind])
  simp only [e1, bind_ok, decide_true, Bool.not_true, Bool.false_eq_true, if_false]
  refine to_ok (P := fun x : Int => x < 0 ∨ (t : Int) ≤ x) ?_ fun out hout => ?_
  · have c : ds.getD 38 0 % 3 = 0 ∨ ds.getD 38 0 % 3 = 1 ∨ ds.getD 38 0 % 3 = 2 := by omega
    rcases c with z | z | z <;> rw [z]
    · exact ⟨(t : Int), rfl, by omega⟩
    · exact ⟨-1, rfl, by omega⟩
    · exact ⟨(t : Int) + 7, rfl, by omega⟩
  have c0h : 0 < ch.length := by omega
  obtain ⟨c0, ec0, mc0⟩ : ∃ c0 : Nat, atI (I ch) 0 = some (c0 : Int) ∧ c0 ∈ ch.take p := by
    refine ⟨ch[0], at_I (i := 0) c0h, ?_⟩
    exact List.mem_iff_getElem.mpr ⟨0, by omega, by rw [List.getElem_take]⟩
  have g0 : atI (J (mk t (wordN d m bl))) (c0 : Int) = some (I (wordN d m bl c0)) := at_J (bp c0 mc0)
  have k0 : catO (I (wordN d m bl c0)) [(0 : Int)] = some (I (wordN d m bl c0) ++ [0]) := catO_ok (by rw [word_len]; simp only [List.length_singleton]; omega)
  have nout : ∀ (F : Nat → List Int) (c : List Nat), (∀ i ∈ c, i < t) → ∀ q ∈ pcF F c, q.1 ≠ out := fun F c hc q hq z => by
    have := keyin F c hc q hq
    omega
  have nodout : ∀ (F : Nat → List Int) (c : List Nat), (∀ i ∈ c, i < t) → c.Nodup → ((pcF F c ++ [(out, [(1 : Int)])]).map (·.1)).Nodup := fun F c hc hn => by
    rw [List.map_append, pcF_keys, List.nodup_append]
    refine ⟨I_nodup hn, by simp, fun a ha b hb' z => ?_⟩
    obtain ⟨i, hi, e⟩ := List.mem_map.mp ha
    have hb' : b = out := List.mem_singleton.mp hb'
    have := hc i hi
    omega
  have ie : ∀ (F : Nat → List Int) (c : List Nat), (∀ i ∈ c, i < t) → c.Nodup → c.length ≤ 24 → _law_error (1, (t : Int), (d : Int), (s : Int), 64) (pcF F c ++ [(out, [(1 : Int)])]) (n : Int) = .ok "index" := fun F c hc hn hl => le_index (by
    rw [wb_is h1 h2 h3 ht2 (nodout F c hc hn) (by rw [List.length_append, List.length_map]; simp only [List.length_singleton]; omega), reb_index (by rw [List.length_append, List.length_map]; simp only [List.length_singleton]; omega) ⟨(out, [1]), List.mem_append_right _ List.mem_cons_self, hout⟩, err_bind])
  have pO := put_out (nout _ _ bf) (show (pcs (wordN d m bl) (ch.take (d - 1))).length < 16777216 by rw [List.length_map]; omega) [1]
  have pB := fun bad => put_old (F := fun i => I (wordN d m bl i)) mc0 (show (ch.take p).length < 16777216 by omega) bad
  refine to_ok (P := fun z : List (Int × List Int) × List (Int × List Int) => ∃ bad : List Int, z = (pcs (wordN d m bl) (ch.take (d - 1)) ++ [(out, [1])], pcF (fun k => if k = c0 then bad else I (wordN d m bl k)) (ch.take p)) ∧ (bad = [] ∨ bad.length = m + 1)) ?_ fun z q => ?_
  · have c : ds.getD 37 0 % 2 = 0 ∨ ds.getD 37 0 % 2 = 1 := by omega
    rcases c with z | z <;> rw [z]
    · refine ⟨_, ?_, I (wordN d m bl c0) ++ [0], rfl, .inr (by rw [List.length_append, word_len]; rfl)⟩
      have ai : atI [I (wordN d m bl c0) ++ [(0 : Int)], []] 0 = some (I (wordN d m bl c0) ++ [0]) := rfl
      simp only [ec0, g0, k0, ofO_some, bind_ok, ai, okO, Option.bind_some, pO, pB]
    · refine ⟨_, ?_, [], rfl, .inl rfl⟩
      have ai : atI [I (wordN d m bl c0) ++ [(0 : Int)], []] 1 = some [] := rfl
      simp only [ec0, g0, k0, ofO_some, bind_ok, ai, okO, Option.bind_some, pO, pB]
  obtain ⟨bad, ez, hbad⟩ := q
  subst ez
  have e2 := ie (fun i => I (wordN d m bl i)) (ch.take (d - 1)) bf nf (by omega)
  have e4 := ie (fun k => if k = c0 then bad else I (wordN d m bl k)) (ch.take p) bp np (by omega)
  have pE := put_out (nout (fun k => if k = c0 then bad else I (wordN d m bl k)) _ bp) (show (pcF _ (ch.take p)).length < 16777216 by rw [List.length_map]; omega) [1]
  have e3 : (1 < p ∨ bad = []) → _law_error (1, (t : Int), (d : Int), (s : Int), 64) (pcF (fun k => if k = c0 then bad else I (wordN d m bl k)) (ch.take p)) (n : Int) = .ok "unequal" := fun hc => le_unequal (by
    rw [wb_is h1 h2 h3 ht2 (by rw [pcF_keys]; exact I_nodup np) (by rw [List.length_map]; omega), reb_unequal (by omega) bp (by omega) ?_, err_bind]
    refine ⟨c0, mc0, ?_⟩
    simp only [if_true]
    rcases hbad with z | z
    · exact .inl (by rw [z]; rfl)
    · refine .inr ?_
      have hp : 1 < p := hc.resolve_right fun w => by rw [w] at z; simp at z
      obtain ⟨c1, mc1, ne⟩ : ∃ c1, c1 ∈ ch.take p ∧ c1 ≠ c0 := by
        by_cases w : (ch.take p)[0]'(by omega) = c0
        · exact ⟨(ch.take p)[1]'(by omega), List.getElem_mem _, fun v => by
            have := (List.getElem_inj np).mp (w.trans v.symm)
            omega⟩
        · exact ⟨(ch.take p)[0]'(by omega), List.getElem_mem _, w⟩
      exact ⟨c1, mc1, by rw [if_neg ne, word_len, z]; omega⟩)
  have gb : getD_ (pcF (fun k => if k = c0 then bad else I (wordN d m bl k)) (ch.take p)) (c0 : Int) = some bad := by rw [getD_pcF mc0, if_pos rfl]
  have lP : (pcF (fun k => if k = c0 then bad else I (wordN d m bl k)) (ch.take p)).length = p := by rw [List.length_map]; omega
  have fin : decide ((Str.ofString "index") = (Str.ofString "index")) = true := decide_eq_true rfl
  simp only [e2, bind_ok, decide_true, Bool.not_true, Bool.false_eq_true, if_false, lP, ec0, gb, ofO_some, eqO_ints, pE, e4]
  by_cases c : 1 < p
  · rw [decide_eq_true (show (1 : Int) < (p : Int) by omega)]
    simp only [if_true, bind_ok, e3 (.inl c), decide_true, Bool.not_true, Bool.false_eq_true, if_false]
    rfl
  · rw [decide_eq_false (show ¬ (1 : Int) < (p : Int) by omega)]
    have q : eqO (.lst (bad.map D.int)) (.lst (([] : List Int).map D.int)) = some (decide (bad = [])) := eqO_ints bad []
    rcases hbad with z | z
    · have e3 := e3 (.inr z)
      simp only [q, Bool.false_eq_true, if_false, bind_ok, Option.map_some, ofO_some, ffb, decide_eq_true z, if_true, e3, decide_true, Bool.not_true]
      rfl
    · have ne : ¬ bad = [] := fun w => by rw [w] at z; simp at z
      simp only [q, Bool.false_eq_true, if_false, bind_ok, Option.map_some, ofO_some, ffb, decide_eq_false ne]
      rfl
end K53
namespace K53
open PySem PySem.Spec L2 Cn
theorem all_mk {l : PySem.W.OpenLaw} {w : World} {K : PySem.W.Frag} {h : Heap} {mg : Str → Option Value} {fa : Addr} {f__law_draws : Addr} {od__law_draws an__law_draws : Option Addr} {sl__law_draws : Array (Option Value)} {oc__law_draws kV__law_draws dc__law_draws pm__law_draws cd__law_draws ct__law_draws : Value}
{f__law_octets : Addr} {od__law_octets an__law_octets : Option Addr} {sl__law_octets : Array (Option Value)} {oc__law_octets kV__law_octets dc__law_octets pm__law_octets cd__law_octets ct__law_octets : Value}
{f_mul : Addr} {od_mul an_mul : Option Addr} {sl_mul : Array (Option Value)} {oc_mul kV_mul dc_mul pm_mul cd_mul ct_mul : Value}
{f_power : Addr} {od_power an_power : Option Addr} {sl_power : Array (Option Value)} {oc_power kV_power dc_power pm_power cd_power ct_power : Value}
{f_inv : Addr} {od_inv an_inv : Option Addr} {sl_inv : Array (Option Value)} {oc_inv kV_inv dc_inv pm_inv cd_inv ct_inv : Value}
{f_div : Addr} {od_div an_div : Option Addr} {sl_div : Array (Option Value)} {oc_div kV_div dc_div pm_div cd_div ct_div : Value}
{f__basis_row : Addr} {od__basis_row an__basis_row : Option Addr} {sl__basis_row : Array (Option Value)} {oc__basis_row kV__basis_row dc__basis_row pm__basis_row cd__basis_row ct__basis_row : Value}
{f__combine : Addr} {od__combine an__combine : Option Addr} {sl__combine : Array (Option Value)} {oc__combine kV__combine dc__combine pm__combine cd__combine ct__combine : Value}
{f__check_lengths : Addr} {od__check_lengths an__check_lengths : Option Addr} {sl__check_lengths : Array (Option Value)} {oc__check_lengths kV__check_lengths dc__check_lengths pm__check_lengths cd__check_lengths ct__check_lengths : Value}
{f_fragments : Addr} {od_fragments an_fragments : Option Addr} {sl_fragments : Array (Option Value)} {oc_fragments kV_fragments dc_fragments pm_fragments cd_fragments ct_fragments : Value}
{f__law_order : Addr} {od__law_order an__law_order : Option Addr} {sl__law_order : Array (Option Value)} {oc__law_order kV__law_order dc__law_order pm__law_order cd__law_order ct__law_order : Value}
{f_identity : Addr} {od_identity an_identity : Option Addr} {sl_identity : Array (Option Value)} {oc_identity kV_identity dc_identity pm_identity cd_identity ct_identity : Value}
{f__without : Addr} {od__without an__without : Option Addr} {sl__without : Array (Option Value)} {oc__without kV__without dc__without pm__without cd__without ct__without : Value}
{f__reduce : Addr} {od__reduce an__reduce : Option Addr} {sl__reduce : Array (Option Value)} {oc__reduce kV__reduce dc__reduce pm__reduce cd__reduce ct__reduce : Value}
{f_inverse : Addr} {od_inverse an_inverse : Option Addr} {sl_inverse : Array (Option Value)} {oc_inverse kV_inverse dc_inverse pm_inverse cd_inverse ct_inverse : Value}
{f_whole_blob : Addr} {od_whole_blob an_whole_blob : Option Addr} {sl_whole_blob : Array (Option Value)} {oc_whole_blob kV_whole_blob dc_whole_blob pm_whole_blob cd_whole_blob ct_whole_blob : Value}
{f__law_error : Addr} {od__law_error an__law_error : Option Addr} {sl__law_error : Array (Option Value)} {oc__law_error kV__law_error dc__law_error pm__law_error cd__law_error ct__law_error : Value}
{f__law_mul : Addr} {od__law_mul an__law_mul : Option Addr} {sl__law_mul : Array (Option Value)} {oc__law_mul kV__law_mul dc__law_mul pm__law_mul cd__law_mul ct__law_mul : Value}
{f__law_inverse_octet : Addr} {od__law_inverse_octet an__law_inverse_octet : Option Addr} {sl__law_inverse_octet : Array (Option Value)} {oc__law_inverse_octet kV__law_inverse_octet dc__law_inverse_octet pm__law_inverse_octet cd__law_inverse_octet ct__law_inverse_octet : Value}
{f__law_spare : Addr} {od__law_spare an__law_spare : Option Addr} {sl__law_spare : Array (Option Value)} {oc__law_spare kV__law_spare dc__law_spare pm__law_spare cd__law_spare ct__law_spare : Value}
{f__law_is_number : Addr} {od__law_is_number an__law_is_number : Option Addr} {sl__law_is_number : Array (Option Value)} {oc__law_is_number kV__law_is_number dc__law_is_number pm__law_is_number cd__law_is_number ct__law_is_number : Value}
{f__law_is_row : Addr} {od__law_is_row an__law_is_row : Option Addr} {sl__law_is_row : Array (Option Value)} {oc__law_is_row kV__law_is_row dc__law_is_row pm__law_is_row cd__law_is_row ct__law_is_row : Value}
{f_law : Addr} {od_law an_law : Option Addr} {sl_law : Array (Option Value)} {oc_law kV_law dc_law pm_law cd_law ct_law : Value}
{C_ZeroElement : Addr}
{C_ShapeMismatch : Addr}
{C_Singular : Addr}
{C_BadCode : Addr}
{C_BadIndex : Addr}
{C_NotEnough : Addr}
{C_UnequalBlocks : Addr}
{C_BadConfig : Addr}
{C_CairnError : Addr}
{C_Code : Addr}
{C_Config : Addr}
{f_Code____init__ : Addr} {od_Code____init__ an_Code____init__ : Option Addr} {sl_Code____init__ : Array (Option Value)} {oc_Code____init__ kV_Code____init__ dc_Code____init__ pm_Code____init__ cd_Code____init__ ct_Code____init__ : Value}
{f_Code___check_blocks : Addr} {od_Code___check_blocks an_Code___check_blocks : Option Addr} {sl_Code___check_blocks : Array (Option Value)} {oc_Code___check_blocks kV_Code___check_blocks dc_Code___check_blocks pm_Code___check_blocks cd_Code___check_blocks ct_Code___check_blocks : Value}
{f_Code__word : Addr} {od_Code__word an_Code__word : Option Addr} {sl_Code__word : Array (Option Value)} {oc_Code__word kV_Code__word dc_Code__word pm_Code__word cd_Code__word ct_Code__word : Value}
{f_Code__chunks : Addr} {od_Code__chunks an_Code__chunks : Option Addr} {sl_Code__chunks : Array (Option Value)} {oc_Code__chunks kV_Code__chunks dc_Code__chunks pm_Code__chunks cd_Code__chunks ct_Code__chunks : Value}
{f_Code__merge : Addr} {od_Code__merge an_Code__merge : Option Addr} {sl_Code__merge : Array (Option Value)} {oc_Code__merge kV_Code__merge dc_Code__merge pm_Code__merge cd_Code__merge ct_Code__merge : Value}
{f_Code___check_index : Addr} {od_Code___check_index an_Code___check_index : Option Addr} {sl_Code___check_index : Array (Option Value)} {oc_Code___check_index kV_Code___check_index dc_Code___check_index pm_Code___check_index cd_Code___check_index ct_Code___check_index : Value}
{f_Code__rebuild : Addr} {od_Code__rebuild an_Code__rebuild : Option Addr} {sl_Code__rebuild : Array (Option Value)} {oc_Code__rebuild kV_Code__rebuild dc_Code__rebuild pm_Code__rebuild cd_Code__rebuild ct_Code__rebuild : Value}
{f_Config____init__ : Addr} {od_Config____init__ an_Config____init__ : Option Addr} {sl_Config____init__ : Array (Option Value)} {oc_Config____init__ kV_Config____init__ dc_Config____init__ pm_Config____init__ cd_Config____init__ ct_Config____init__ : Value}
    (X : K.In h) (G : h.Ns mainGlobals mg) (hfa : mg "law" = some (.ref fa))     (a__law_draws : PySem.W.nsIn K mainGlobals "_law_draws" = some (some (.ref f__law_draws)))
    (l__law_draws : K.lookup f__law_draws = some ⟨oc__law_draws, od__law_draws, .func (PySem.W.fnOf "_law_draws" "_law_draws" (defArgs s__law_draws) (defBody s__law_draws) (defScope s__law_draws) .none kV__law_draws dc__law_draws pm__law_draws an__law_draws cd__law_draws ct__law_draws), sl__law_draws⟩)
    (c__law_draws : PySem.W.codeIn K cd__law_draws "_law_draws" = true)
    (k__law_draws : PySem.W.keepIn K (.ref f__law_draws) = true)
    (a__law_octets : PySem.W.nsIn K mainGlobals "_law_octets" = some (some (.ref f__law_octets)))
    (l__law_octets : K.lookup f__law_octets = some ⟨oc__law_octets, od__law_octets, .func (PySem.W.fnOf "_law_octets" "_law_octets" (defArgs s__law_octets) (defBody s__law_octets) (defScope s__law_octets) .none kV__law_octets dc__law_octets pm__law_octets an__law_octets cd__law_octets ct__law_octets), sl__law_octets⟩)
    (c__law_octets : PySem.W.codeIn K cd__law_octets "_law_octets" = true)
    (k__law_octets : PySem.W.keepIn K (.ref f__law_octets) = true)
    (a_mul : PySem.W.nsIn K mainGlobals "mul" = some (some (.ref f_mul)))
    (l_mul : K.lookup f_mul = some ⟨oc_mul, od_mul, .func (PySem.W.fnOf "mul" "mul" (defArgs s_mul) (defBody s_mul) (defScope s_mul) .none kV_mul dc_mul pm_mul an_mul cd_mul ct_mul), sl_mul⟩)
    (c_mul : PySem.W.codeIn K cd_mul "mul" = true)
    (k_mul : PySem.W.keepIn K (.ref f_mul) = true)
    (a_power : PySem.W.nsIn K mainGlobals "power" = some (some (.ref f_power)))
    (l_power : K.lookup f_power = some ⟨oc_power, od_power, .func (PySem.W.fnOf "power" "power" (defArgs s_power) (defBody s_power) (defScope s_power) .none kV_power dc_power pm_power an_power cd_power ct_power), sl_power⟩)
    (c_power : PySem.W.codeIn K cd_power "power" = true)
    (k_power : PySem.W.keepIn K (.ref f_power) = true)
    (a_inv : PySem.W.nsIn K mainGlobals "inv" = some (some (.ref f_inv)))
    (l_inv : K.lookup f_inv = some ⟨oc_inv, od_inv, .func (PySem.W.fnOf "inv" "inv" (defArgs s_inv) (defBody s_inv) (defScope s_inv) .none kV_inv dc_inv pm_inv an_inv cd_inv ct_inv), sl_inv⟩)
    (c_inv : PySem.W.codeIn K cd_inv "inv" = true)
    (k_inv : PySem.W.keepIn K (.ref f_inv) = true)
    (a_div : PySem.W.nsIn K mainGlobals "div" = some (some (.ref f_div)))
    (l_div : K.lookup f_div = some ⟨oc_div, od_div, .func (PySem.W.fnOf "div" "div" (defArgs s_div) (defBody s_div) (defScope s_div) .none kV_div dc_div pm_div an_div cd_div ct_div), sl_div⟩)
    (c_div : PySem.W.codeIn K cd_div "div" = true)
    (k_div : PySem.W.keepIn K (.ref f_div) = true)
    (a__basis_row : PySem.W.nsIn K mainGlobals "_basis_row" = some (some (.ref f__basis_row)))
    (l__basis_row : K.lookup f__basis_row = some ⟨oc__basis_row, od__basis_row, .func (PySem.W.fnOf "_basis_row" "_basis_row" (defArgs s__basis_row) (defBody s__basis_row) (defScope s__basis_row) .none kV__basis_row dc__basis_row pm__basis_row an__basis_row cd__basis_row ct__basis_row), sl__basis_row⟩)
    (c__basis_row : PySem.W.codeIn K cd__basis_row "_basis_row" = true)
    (k__basis_row : PySem.W.keepIn K (.ref f__basis_row) = true)
    (a__combine : PySem.W.nsIn K mainGlobals "_combine" = some (some (.ref f__combine)))
    (l__combine : K.lookup f__combine = some ⟨oc__combine, od__combine, .func (PySem.W.fnOf "_combine" "_combine" (defArgs s__combine) (defBody s__combine) (defScope s__combine) .none kV__combine dc__combine pm__combine an__combine cd__combine ct__combine), sl__combine⟩)
    (c__combine : PySem.W.codeIn K cd__combine "_combine" = true)
    (k__combine : PySem.W.keepIn K (.ref f__combine) = true)
    (a__check_lengths : PySem.W.nsIn K mainGlobals "_check_lengths" = some (some (.ref f__check_lengths)))
    (l__check_lengths : K.lookup f__check_lengths = some ⟨oc__check_lengths, od__check_lengths, .func (PySem.W.fnOf "_check_lengths" "_check_lengths" (defArgs s__check_lengths) (defBody s__check_lengths) (defScope s__check_lengths) .none kV__check_lengths dc__check_lengths pm__check_lengths an__check_lengths cd__check_lengths ct__check_lengths), sl__check_lengths⟩)
    (c__check_lengths : PySem.W.codeIn K cd__check_lengths "_check_lengths" = true)
    (k__check_lengths : PySem.W.keepIn K (.ref f__check_lengths) = true)
    (a_fragments : PySem.W.nsIn K mainGlobals "fragments" = some (some (.ref f_fragments)))
    (l_fragments : K.lookup f_fragments = some ⟨oc_fragments, od_fragments, .func (PySem.W.fnOf "fragments" "fragments" (defArgs s_fragments) (defBody s_fragments) (defScope s_fragments) .none kV_fragments dc_fragments pm_fragments an_fragments cd_fragments ct_fragments), sl_fragments⟩)
    (c_fragments : PySem.W.codeIn K cd_fragments "fragments" = true)
    (k_fragments : PySem.W.keepIn K (.ref f_fragments) = true)
    (a__law_order : PySem.W.nsIn K mainGlobals "_law_order" = some (some (.ref f__law_order)))
    (l__law_order : K.lookup f__law_order = some ⟨oc__law_order, od__law_order, .func (PySem.W.fnOf "_law_order" "_law_order" (defArgs s__law_order) (defBody s__law_order) (defScope s__law_order) .none kV__law_order dc__law_order pm__law_order an__law_order cd__law_order ct__law_order), sl__law_order⟩)
    (c__law_order : PySem.W.codeIn K cd__law_order "_law_order" = true)
    (k__law_order : PySem.W.keepIn K (.ref f__law_order) = true)
    (a_identity : PySem.W.nsIn K mainGlobals "identity" = some (some (.ref f_identity)))
    (l_identity : K.lookup f_identity = some ⟨oc_identity, od_identity, .func (PySem.W.fnOf "identity" "identity" (defArgs s_identity) (defBody s_identity) (defScope s_identity) .none kV_identity dc_identity pm_identity an_identity cd_identity ct_identity), sl_identity⟩)
    (c_identity : PySem.W.codeIn K cd_identity "identity" = true)
    (k_identity : PySem.W.keepIn K (.ref f_identity) = true)
    (a__without : PySem.W.nsIn K mainGlobals "_without" = some (some (.ref f__without)))
    (l__without : K.lookup f__without = some ⟨oc__without, od__without, .func (PySem.W.fnOf "_without" "_without" (defArgs s__without) (defBody s__without) (defScope s__without) .none kV__without dc__without pm__without an__without cd__without ct__without), sl__without⟩)
    (c__without : PySem.W.codeIn K cd__without "_without" = true)
    (k__without : PySem.W.keepIn K (.ref f__without) = true)
    (a__reduce : PySem.W.nsIn K mainGlobals "_reduce" = some (some (.ref f__reduce)))
    (l__reduce : K.lookup f__reduce = some ⟨oc__reduce, od__reduce, .func (PySem.W.fnOf "_reduce" "_reduce" (defArgs s__reduce) (defBody s__reduce) (defScope s__reduce) .none kV__reduce dc__reduce pm__reduce an__reduce cd__reduce ct__reduce), sl__reduce⟩)
    (c__reduce : PySem.W.codeIn K cd__reduce "_reduce" = true)
    (k__reduce : PySem.W.keepIn K (.ref f__reduce) = true)
    (a_inverse : PySem.W.nsIn K mainGlobals "inverse" = some (some (.ref f_inverse)))
    (l_inverse : K.lookup f_inverse = some ⟨oc_inverse, od_inverse, .func (PySem.W.fnOf "inverse" "inverse" (defArgs s_inverse) (defBody s_inverse) (defScope s_inverse) .none kV_inverse dc_inverse pm_inverse an_inverse cd_inverse ct_inverse), sl_inverse⟩)
    (c_inverse : PySem.W.codeIn K cd_inverse "inverse" = true)
    (k_inverse : PySem.W.keepIn K (.ref f_inverse) = true)
    (a_whole_blob : PySem.W.nsIn K mainGlobals "whole_blob" = some (some (.ref f_whole_blob)))
    (l_whole_blob : K.lookup f_whole_blob = some ⟨oc_whole_blob, od_whole_blob, .func (PySem.W.fnOf "whole_blob" "whole_blob" (defArgs s_whole_blob) (defBody s_whole_blob) (defScope s_whole_blob) .none kV_whole_blob dc_whole_blob pm_whole_blob an_whole_blob cd_whole_blob ct_whole_blob), sl_whole_blob⟩)
    (c_whole_blob : PySem.W.codeIn K cd_whole_blob "whole_blob" = true)
    (k_whole_blob : PySem.W.keepIn K (.ref f_whole_blob) = true)
    (a__law_error : PySem.W.nsIn K mainGlobals "_law_error" = some (some (.ref f__law_error)))
    (l__law_error : K.lookup f__law_error = some ⟨oc__law_error, od__law_error, .func (PySem.W.fnOf "_law_error" "_law_error" (defArgs s__law_error) (defBody s__law_error) (defScope s__law_error) .none kV__law_error dc__law_error pm__law_error an__law_error cd__law_error ct__law_error), sl__law_error⟩)
    (c__law_error : PySem.W.codeIn K cd__law_error "_law_error" = true)
    (k__law_error : PySem.W.keepIn K (.ref f__law_error) = true)
    (a__law_mul : PySem.W.nsIn K mainGlobals "_law_mul" = some (some (.ref f__law_mul)))
    (l__law_mul : K.lookup f__law_mul = some ⟨oc__law_mul, od__law_mul, .func (PySem.W.fnOf "_law_mul" "_law_mul" (defArgs s__law_mul) (defBody s__law_mul) (defScope s__law_mul) .none kV__law_mul dc__law_mul pm__law_mul an__law_mul cd__law_mul ct__law_mul), sl__law_mul⟩)
    (c__law_mul : PySem.W.codeIn K cd__law_mul "_law_mul" = true)
    (k__law_mul : PySem.W.keepIn K (.ref f__law_mul) = true)
    (a__law_inverse_octet : PySem.W.nsIn K mainGlobals "_law_inverse_octet" = some (some (.ref f__law_inverse_octet)))
    (l__law_inverse_octet : K.lookup f__law_inverse_octet = some ⟨oc__law_inverse_octet, od__law_inverse_octet, .func (PySem.W.fnOf "_law_inverse_octet" "_law_inverse_octet" (defArgs s__law_inverse_octet) (defBody s__law_inverse_octet) (defScope s__law_inverse_octet) .none kV__law_inverse_octet dc__law_inverse_octet pm__law_inverse_octet an__law_inverse_octet cd__law_inverse_octet ct__law_inverse_octet), sl__law_inverse_octet⟩)
    (c__law_inverse_octet : PySem.W.codeIn K cd__law_inverse_octet "_law_inverse_octet" = true)
    (k__law_inverse_octet : PySem.W.keepIn K (.ref f__law_inverse_octet) = true)
    (a__law_spare : PySem.W.nsIn K mainGlobals "_law_spare" = some (some (.ref f__law_spare)))
    (l__law_spare : K.lookup f__law_spare = some ⟨oc__law_spare, od__law_spare, .func (PySem.W.fnOf "_law_spare" "_law_spare" (defArgs s__law_spare) (defBody s__law_spare) (defScope s__law_spare) .none kV__law_spare dc__law_spare pm__law_spare an__law_spare cd__law_spare ct__law_spare), sl__law_spare⟩)
    (c__law_spare : PySem.W.codeIn K cd__law_spare "_law_spare" = true)
    (k__law_spare : PySem.W.keepIn K (.ref f__law_spare) = true)
    (a__law_is_number : PySem.W.nsIn K mainGlobals "_law_is_number" = some (some (.ref f__law_is_number)))
    (l__law_is_number : K.lookup f__law_is_number = some ⟨oc__law_is_number, od__law_is_number, .func (PySem.W.fnOf "_law_is_number" "_law_is_number" (defArgs s__law_is_number) (defBody s__law_is_number) (defScope s__law_is_number) .none kV__law_is_number dc__law_is_number pm__law_is_number an__law_is_number cd__law_is_number ct__law_is_number), sl__law_is_number⟩)
    (c__law_is_number : PySem.W.codeIn K cd__law_is_number "_law_is_number" = true)
    (k__law_is_number : PySem.W.keepIn K (.ref f__law_is_number) = true)
    (a__law_is_row : PySem.W.nsIn K mainGlobals "_law_is_row" = some (some (.ref f__law_is_row)))
    (l__law_is_row : K.lookup f__law_is_row = some ⟨oc__law_is_row, od__law_is_row, .func (PySem.W.fnOf "_law_is_row" "_law_is_row" (defArgs s__law_is_row) (defBody s__law_is_row) (defScope s__law_is_row) .none kV__law_is_row dc__law_is_row pm__law_is_row an__law_is_row cd__law_is_row ct__law_is_row), sl__law_is_row⟩)
    (c__law_is_row : PySem.W.codeIn K cd__law_is_row "_law_is_row" = true)
    (k__law_is_row : PySem.W.keepIn K (.ref f__law_is_row) = true)
    (a_law : PySem.W.nsIn K mainGlobals "law" = some (some (.ref f_law)))
    (l_law : K.lookup f_law = some ⟨oc_law, od_law, .func (PySem.W.fnOf "law" "law" (defArgs s_law) (defBody s_law) (defScope s_law) .none kV_law dc_law pm_law an_law cd_law ct_law), sl_law⟩)
    (c_law : PySem.W.codeIn K cd_law "law" = true)
    (k_law : PySem.W.keepIn K (.ref f_law) = true)
    (z_abs : PySem.W.nsIn K mainGlobals "abs" = some none)
    (z_all : PySem.W.nsIn K mainGlobals "all" = some none)
    (z_bool : PySem.W.nsIn K mainGlobals "bool" = some none)
    (z_int : PySem.W.nsIn K mainGlobals "int" = some none)
    (z_isinstance : PySem.W.nsIn K mainGlobals "isinstance" = some none)
    (z_len : PySem.W.nsIn K mainGlobals "len" = some none)
    (z_list : PySem.W.nsIn K mainGlobals "list" = some none)
    (z_max : PySem.W.nsIn K mainGlobals "max" = some none)
    (z_range : PySem.W.nsIn K mainGlobals "range" = some none)
    (z_sorted : PySem.W.nsIn K mainGlobals "sorted" = some none)
    (a_ZeroElement : PySem.W.nsIn K mainGlobals "ZeroElement" = some (some (.ref C_ZeroElement)))
    (b_ZeroElement : PySem.W.subIn K (.ref C_ZeroElement) (.type "BaseException") = some true)
    (t_ZeroElement : PySem.W.typeIn K (.ref C_ZeroElement) = some (.type "type"))
    (h_ZeroElement : PySem.W.hasDictIn K C_ZeroElement = true)
    (x_ZeroElement : PySem.W.excIn K C_ZeroElement [.type "ValueError", .type "Exception", .type "BaseException", .type "object"] "ValueError.__new__" = true)
    (k_ZeroElement : PySem.W.keepIn K (.ref C_ZeroElement) = true)
    (a_ShapeMismatch : PySem.W.nsIn K mainGlobals "ShapeMismatch" = some (some (.ref C_ShapeMismatch)))
    (b_ShapeMismatch : PySem.W.subIn K (.ref C_ShapeMismatch) (.type "BaseException") = some true)
    (t_ShapeMismatch : PySem.W.typeIn K (.ref C_ShapeMismatch) = some (.type "type"))
    (h_ShapeMismatch : PySem.W.hasDictIn K C_ShapeMismatch = true)
    (x_ShapeMismatch : PySem.W.excIn K C_ShapeMismatch [.type "ValueError", .type "Exception", .type "BaseException", .type "object"] "ValueError.__new__" = true)
    (k_ShapeMismatch : PySem.W.keepIn K (.ref C_ShapeMismatch) = true)
    (a_Singular : PySem.W.nsIn K mainGlobals "Singular" = some (some (.ref C_Singular)))
    (b_Singular : PySem.W.subIn K (.ref C_Singular) (.type "BaseException") = some true)
    (t_Singular : PySem.W.typeIn K (.ref C_Singular) = some (.type "type"))
    (h_Singular : PySem.W.hasDictIn K C_Singular = true)
    (x_Singular : PySem.W.excIn K C_Singular [.type "ValueError", .type "Exception", .type "BaseException", .type "object"] "ValueError.__new__" = true)
    (k_Singular : PySem.W.keepIn K (.ref C_Singular) = true)
    (a_BadCode : PySem.W.nsIn K mainGlobals "BadCode" = some (some (.ref C_BadCode)))
    (b_BadCode : PySem.W.subIn K (.ref C_BadCode) (.type "BaseException") = some true)
    (t_BadCode : PySem.W.typeIn K (.ref C_BadCode) = some (.type "type"))
    (h_BadCode : PySem.W.hasDictIn K C_BadCode = true)
    (x_BadCode : PySem.W.excIn K C_BadCode [.type "ValueError", .type "Exception", .type "BaseException", .type "object"] "ValueError.__new__" = true)
    (k_BadCode : PySem.W.keepIn K (.ref C_BadCode) = true)
    (a_BadIndex : PySem.W.nsIn K mainGlobals "BadIndex" = some (some (.ref C_BadIndex)))
    (b_BadIndex : PySem.W.subIn K (.ref C_BadIndex) (.type "BaseException") = some true)
    (t_BadIndex : PySem.W.typeIn K (.ref C_BadIndex) = some (.type "type"))
    (h_BadIndex : PySem.W.hasDictIn K C_BadIndex = true)
    (x_BadIndex : PySem.W.excIn K C_BadIndex [.type "ValueError", .type "Exception", .type "BaseException", .type "object"] "ValueError.__new__" = true)
    (k_BadIndex : PySem.W.keepIn K (.ref C_BadIndex) = true)
    (a_NotEnough : PySem.W.nsIn K mainGlobals "NotEnough" = some (some (.ref C_NotEnough)))
    (b_NotEnough : PySem.W.subIn K (.ref C_NotEnough) (.type "BaseException") = some true)
    (t_NotEnough : PySem.W.typeIn K (.ref C_NotEnough) = some (.type "type"))
    (h_NotEnough : PySem.W.hasDictIn K C_NotEnough = true)
    (x_NotEnough : PySem.W.excIn K C_NotEnough [.type "ValueError", .type "Exception", .type "BaseException", .type "object"] "ValueError.__new__" = true)
    (k_NotEnough : PySem.W.keepIn K (.ref C_NotEnough) = true)
    (a_UnequalBlocks : PySem.W.nsIn K mainGlobals "UnequalBlocks" = some (some (.ref C_UnequalBlocks)))
    (b_UnequalBlocks : PySem.W.subIn K (.ref C_UnequalBlocks) (.type "BaseException") = some true)
    (t_UnequalBlocks : PySem.W.typeIn K (.ref C_UnequalBlocks) = some (.type "type"))
    (h_UnequalBlocks : PySem.W.hasDictIn K C_UnequalBlocks = true)
    (x_UnequalBlocks : PySem.W.excIn K C_UnequalBlocks [.type "ValueError", .type "Exception", .type "BaseException", .type "object"] "ValueError.__new__" = true)
    (k_UnequalBlocks : PySem.W.keepIn K (.ref C_UnequalBlocks) = true)
    (a_BadConfig : PySem.W.nsIn K mainGlobals "BadConfig" = some (some (.ref C_BadConfig)))
    (b_BadConfig : PySem.W.subIn K (.ref C_BadConfig) (.type "BaseException") = some true)
    (t_BadConfig : PySem.W.typeIn K (.ref C_BadConfig) = some (.type "type"))
    (h_BadConfig : PySem.W.hasDictIn K C_BadConfig = true)
    (x_BadConfig : PySem.W.excIn K C_BadConfig [.type "ValueError", .type "Exception", .type "BaseException", .type "object"] "ValueError.__new__" = true)
    (k_BadConfig : PySem.W.keepIn K (.ref C_BadConfig) = true)
    (a_CairnError : PySem.W.nsIn K mainGlobals "CairnError" = some (some (.ref C_CairnError)))
    (b_CairnError : PySem.W.subIn K (.ref C_CairnError) (.type "BaseException") = some true)
    (t_CairnError : PySem.W.typeIn K (.ref C_CairnError) = some (.type "type"))
    (h_CairnError : PySem.W.hasDictIn K C_CairnError = true)
    (xa_BadCode : PySem.W.findIn K (.ref C_BadCode) "__getattribute__" = some (some (.builtin "BaseException.__getattribute__")))
    (xb_BadCode : PySem.W.findIn K (.ref C_BadCode) "__getattr__" = some none)
    (xd_BadCode : PySem.W.findIn K (.ref C_BadCode) "__class__" = some (some (.builtin "object.__class__")))
    (xm_BadCode : PySem.W.mroIn K C_BadCode (.type "object") = some true)
    (xa_BadIndex : PySem.W.findIn K (.ref C_BadIndex) "__getattribute__" = some (some (.builtin "BaseException.__getattribute__")))
    (xb_BadIndex : PySem.W.findIn K (.ref C_BadIndex) "__getattr__" = some none)
    (xd_BadIndex : PySem.W.findIn K (.ref C_BadIndex) "__class__" = some (some (.builtin "object.__class__")))
    (xm_BadIndex : PySem.W.mroIn K C_BadIndex (.type "object") = some true)
    (xa_NotEnough : PySem.W.findIn K (.ref C_NotEnough) "__getattribute__" = some (some (.builtin "BaseException.__getattribute__")))
    (xb_NotEnough : PySem.W.findIn K (.ref C_NotEnough) "__getattr__" = some none)
    (xd_NotEnough : PySem.W.findIn K (.ref C_NotEnough) "__class__" = some (some (.builtin "object.__class__")))
    (xm_NotEnough : PySem.W.mroIn K C_NotEnough (.type "object") = some true)
    (xa_ShapeMismatch : PySem.W.findIn K (.ref C_ShapeMismatch) "__getattribute__" = some (some (.builtin "BaseException.__getattribute__")))
    (xb_ShapeMismatch : PySem.W.findIn K (.ref C_ShapeMismatch) "__getattr__" = some none)
    (xd_ShapeMismatch : PySem.W.findIn K (.ref C_ShapeMismatch) "__class__" = some (some (.builtin "object.__class__")))
    (xm_ShapeMismatch : PySem.W.mroIn K C_ShapeMismatch (.type "object") = some true)
    (xa_Singular : PySem.W.findIn K (.ref C_Singular) "__getattribute__" = some (some (.builtin "BaseException.__getattribute__")))
    (xb_Singular : PySem.W.findIn K (.ref C_Singular) "__getattr__" = some none)
    (xd_Singular : PySem.W.findIn K (.ref C_Singular) "__class__" = some (some (.builtin "object.__class__")))
    (xm_Singular : PySem.W.mroIn K C_Singular (.type "object") = some true)
    (xa_UnequalBlocks : PySem.W.findIn K (.ref C_UnequalBlocks) "__getattribute__" = some (some (.builtin "BaseException.__getattribute__")))
    (xb_UnequalBlocks : PySem.W.findIn K (.ref C_UnequalBlocks) "__getattr__" = some none)
    (xd_UnequalBlocks : PySem.W.findIn K (.ref C_UnequalBlocks) "__class__" = some (some (.builtin "object.__class__")))
    (xm_UnequalBlocks : PySem.W.mroIn K C_UnequalBlocks (.type "object") = some true)
    (xa_ZeroElement : PySem.W.findIn K (.ref C_ZeroElement) "__getattribute__" = some (some (.builtin "BaseException.__getattribute__")))
    (xb_ZeroElement : PySem.W.findIn K (.ref C_ZeroElement) "__getattr__" = some none)
    (xd_ZeroElement : PySem.W.findIn K (.ref C_ZeroElement) "__class__" = some (some (.builtin "object.__class__")))
    (xm_ZeroElement : PySem.W.mroIn K C_ZeroElement (.type "object") = some true)
    (xsp : PySem.W.specialIn K (.builtin "object.__class__") "__get__" = some (some (.builtin "getset_descriptor.__get__")))
    (xtk : PySem.W.takesIn K (.builtin "object.__class__") = some true)
    (sb_BadCode_CairnError : PySem.W.subIn K (.ref C_BadCode) (.ref C_CairnError) = some true)
    (sb_BadIndex_CairnError : PySem.W.subIn K (.ref C_BadIndex) (.ref C_CairnError) = some true)
    (sb_NotEnough_CairnError : PySem.W.subIn K (.ref C_NotEnough) (.ref C_CairnError) = some true)
    (sb_ShapeMismatch_CairnError : PySem.W.subIn K (.ref C_ShapeMismatch) (.ref C_CairnError) = some true)
    (sb_Singular_CairnError : PySem.W.subIn K (.ref C_Singular) (.ref C_CairnError) = some true)
    (sb_UnequalBlocks_CairnError : PySem.W.subIn K (.ref C_UnequalBlocks) (.ref C_CairnError) = some true)
    (sb_ZeroElement_CairnError : PySem.W.subIn K (.ref C_ZeroElement) (.ref C_CairnError) = some true)
    (sb_BadCode_BadIndex : PySem.W.subIn K (.ref C_BadCode) (.ref C_BadIndex) = some false)
    (ne_BadCode_BadIndex : (((.ref C_BadCode : Value) == .ref C_BadIndex) && !false) = false)
    (sb_BadCode_NotEnough : PySem.W.subIn K (.ref C_BadCode) (.ref C_NotEnough) = some false)
    (ne_BadCode_NotEnough : (((.ref C_BadCode : Value) == .ref C_NotEnough) && !false) = false)
    (sb_BadCode_UnequalBlocks : PySem.W.subIn K (.ref C_BadCode) (.ref C_UnequalBlocks) = some false)
    (ne_BadCode_UnequalBlocks : (((.ref C_BadCode : Value) == .ref C_UnequalBlocks) && !false) = false)
    (sb_BadIndex_BadIndex : PySem.W.subIn K (.ref C_BadIndex) (.ref C_BadIndex) = some true)
    (ne_BadIndex_BadIndex : (((.ref C_BadIndex : Value) == .ref C_BadIndex) && !true) = false)
    (sb_BadIndex_NotEnough : PySem.W.subIn K (.ref C_BadIndex) (.ref C_NotEnough) = some false)
    (ne_BadIndex_NotEnough : (((.ref C_BadIndex : Value) == .ref C_NotEnough) && !false) = false)
    (sb_BadIndex_UnequalBlocks : PySem.W.subIn K (.ref C_BadIndex) (.ref C_UnequalBlocks) = some false)
    (ne_BadIndex_UnequalBlocks : (((.ref C_BadIndex : Value) == .ref C_UnequalBlocks) && !false) = false)
    (sb_NotEnough_BadIndex : PySem.W.subIn K (.ref C_NotEnough) (.ref C_BadIndex) = some false)
    (ne_NotEnough_BadIndex : (((.ref C_NotEnough : Value) == .ref C_BadIndex) && !false) = false)
    (sb_NotEnough_NotEnough : PySem.W.subIn K (.ref C_NotEnough) (.ref C_NotEnough) = some true)
    (ne_NotEnough_NotEnough : (((.ref C_NotEnough : Value) == .ref C_NotEnough) && !true) = false)
    (sb_NotEnough_UnequalBlocks : PySem.W.subIn K (.ref C_NotEnough) (.ref C_UnequalBlocks) = some false)
    (ne_NotEnough_UnequalBlocks : (((.ref C_NotEnough : Value) == .ref C_UnequalBlocks) && !false) = false)
    (sb_ShapeMismatch_BadIndex : PySem.W.subIn K (.ref C_ShapeMismatch) (.ref C_BadIndex) = some false)
    (ne_ShapeMismatch_BadIndex : (((.ref C_ShapeMismatch : Value) == .ref C_BadIndex) && !false) = false)
    (sb_ShapeMismatch_NotEnough : PySem.W.subIn K (.ref C_ShapeMismatch) (.ref C_NotEnough) = some false)
    (ne_ShapeMismatch_NotEnough : (((.ref C_ShapeMismatch : Value) == .ref C_NotEnough) && !false) = false)
    (sb_ShapeMismatch_UnequalBlocks : PySem.W.subIn K (.ref C_ShapeMismatch) (.ref C_UnequalBlocks) = some false)
    (ne_ShapeMismatch_UnequalBlocks : (((.ref C_ShapeMismatch : Value) == .ref C_UnequalBlocks) && !false) = false)
    (sb_Singular_BadIndex : PySem.W.subIn K (.ref C_Singular) (.ref C_BadIndex) = some false)
    (ne_Singular_BadIndex : (((.ref C_Singular : Value) == .ref C_BadIndex) && !false) = false)
    (sb_Singular_NotEnough : PySem.W.subIn K (.ref C_Singular) (.ref C_NotEnough) = some false)
    (ne_Singular_NotEnough : (((.ref C_Singular : Value) == .ref C_NotEnough) && !false) = false)
    (sb_Singular_UnequalBlocks : PySem.W.subIn K (.ref C_Singular) (.ref C_UnequalBlocks) = some false)
    (ne_Singular_UnequalBlocks : (((.ref C_Singular : Value) == .ref C_UnequalBlocks) && !false) = false)
    (sb_UnequalBlocks_BadIndex : PySem.W.subIn K (.ref C_UnequalBlocks) (.ref C_BadIndex) = some false)
    (ne_UnequalBlocks_BadIndex : (((.ref C_UnequalBlocks : Value) == .ref C_BadIndex) && !false) = false)
    (sb_UnequalBlocks_NotEnough : PySem.W.subIn K (.ref C_UnequalBlocks) (.ref C_NotEnough) = some false)
    (ne_UnequalBlocks_NotEnough : (((.ref C_UnequalBlocks : Value) == .ref C_NotEnough) && !false) = false)
    (sb_UnequalBlocks_UnequalBlocks : PySem.W.subIn K (.ref C_UnequalBlocks) (.ref C_UnequalBlocks) = some true)
    (ne_UnequalBlocks_UnequalBlocks : (((.ref C_UnequalBlocks : Value) == .ref C_UnequalBlocks) && !true) = false)
    (sb_ZeroElement_BadIndex : PySem.W.subIn K (.ref C_ZeroElement) (.ref C_BadIndex) = some false)
    (ne_ZeroElement_BadIndex : (((.ref C_ZeroElement : Value) == .ref C_BadIndex) && !false) = false)
    (sb_ZeroElement_NotEnough : PySem.W.subIn K (.ref C_ZeroElement) (.ref C_NotEnough) = some false)
    (ne_ZeroElement_NotEnough : (((.ref C_ZeroElement : Value) == .ref C_NotEnough) && !false) = false)
    (sb_ZeroElement_UnequalBlocks : PySem.W.subIn K (.ref C_ZeroElement) (.ref C_UnequalBlocks) = some false)
    (ne_ZeroElement_UnequalBlocks : (((.ref C_ZeroElement : Value) == .ref C_UnequalBlocks) && !false) = false)
    (a_Code : PySem.W.nsIn K mainGlobals "Code" = some (some (.ref C_Code)))
    (pg_Code : PySem.W.plainGet K C_Code Str.empty = true)
    (hd_Code : PySem.W.hasDictIn K C_Code = true)
    (po_Code : PySem.W.plainOver K C_Code = true)
    (sa_Code : PySem.W.findIn K (.ref C_Code) "__setattr__" = some (some (.builtin "object.__setattr__")))
    (mk_Code : PySem.W.makesIn K C_Code = true)
    (kc_Code : PySem.W.keepIn K (.ref C_Code) = true)
    (n_Code_data : PySem.W.findIn K (.ref C_Code) "data" = some none)
    (n_Code_total : PySem.W.findIn K (.ref C_Code) "total" = some none)
    (n_Code_rows : PySem.W.findIn K (.ref C_Code) "rows" = some none)
    (a_Config : PySem.W.nsIn K mainGlobals "Config" = some (some (.ref C_Config)))
    (pg_Config : PySem.W.plainGet K C_Config Str.empty = true)
    (hd_Config : PySem.W.hasDictIn K C_Config = true)
    (po_Config : PySem.W.plainOver K C_Config = true)
    (sa_Config : PySem.W.findIn K (.ref C_Config) "__setattr__" = some (some (.builtin "object.__setattr__")))
    (mk_Config : PySem.W.makesIn K C_Config = true)
    (kc_Config : PySem.W.keepIn K (.ref C_Config) = true)
    (n_Config_keepers : PySem.W.findIn K (.ref C_Config) "keepers" = some none)
    (n_Config_shelves : PySem.W.findIn K (.ref C_Config) "shelves" = some none)
    (n_Config_data : PySem.W.findIn K (.ref C_Config) "data" = some none)
    (n_Config_spare : PySem.W.findIn K (.ref C_Config) "spare" = some none)
    (n_Config_sectors : PySem.W.findIn K (.ref C_Config) "sectors" = some none)
    (a_Code____init__ : PySem.W.findIn K (.ref C_Code) "__init__" = some (some (.ref f_Code____init__)))
    (i_Code____init__ : PySem.W.isFn K (.ref f_Code____init__) = true)
    (l_Code____init__ : K.lookup f_Code____init__ = some ⟨oc_Code____init__, od_Code____init__, .func (PySem.W.fnOf "__init__" "Code.__init__" (defArgs s_Code____init__) (defBody s_Code____init__) (defScope s_Code____init__) .none kV_Code____init__ dc_Code____init__ pm_Code____init__ an_Code____init__ cd_Code____init__ ct_Code____init__), sl_Code____init__⟩)
    (c_Code____init__ : PySem.W.codeIn K cd_Code____init__ "Code.__init__" = true)
    (k_Code____init__ : PySem.W.keepIn K (.ref f_Code____init__) = true)
    (a_Code___check_blocks : PySem.W.findIn K (.ref C_Code) "_check_blocks" = some (some (.ref f_Code___check_blocks)))
    (i_Code___check_blocks : PySem.W.isFn K (.ref f_Code___check_blocks) = true)
    (l_Code___check_blocks : K.lookup f_Code___check_blocks = some ⟨oc_Code___check_blocks, od_Code___check_blocks, .func (PySem.W.fnOf "_check_blocks" "Code._check_blocks" (defArgs s_Code___check_blocks) (defBody s_Code___check_blocks) (defScope s_Code___check_blocks) .none kV_Code___check_blocks dc_Code___check_blocks pm_Code___check_blocks an_Code___check_blocks cd_Code___check_blocks ct_Code___check_blocks), sl_Code___check_blocks⟩)
    (c_Code___check_blocks : PySem.W.codeIn K cd_Code___check_blocks "Code._check_blocks" = true)
    (k_Code___check_blocks : PySem.W.keepIn K (.ref f_Code___check_blocks) = true)
    (a_Code__word : PySem.W.findIn K (.ref C_Code) "word" = some (some (.ref f_Code__word)))
    (i_Code__word : PySem.W.isFn K (.ref f_Code__word) = true)
    (l_Code__word : K.lookup f_Code__word = some ⟨oc_Code__word, od_Code__word, .func (PySem.W.fnOf "word" "Code.word" (defArgs s_Code__word) (defBody s_Code__word) (defScope s_Code__word) .none kV_Code__word dc_Code__word pm_Code__word an_Code__word cd_Code__word ct_Code__word), sl_Code__word⟩)
    (c_Code__word : PySem.W.codeIn K cd_Code__word "Code.word" = true)
    (k_Code__word : PySem.W.keepIn K (.ref f_Code__word) = true)
    (a_Code__chunks : PySem.W.findIn K (.ref C_Code) "chunks" = some (some (.ref f_Code__chunks)))
    (i_Code__chunks : PySem.W.isFn K (.ref f_Code__chunks) = true)
    (l_Code__chunks : K.lookup f_Code__chunks = some ⟨oc_Code__chunks, od_Code__chunks, .func (PySem.W.fnOf "chunks" "Code.chunks" (defArgs s_Code__chunks) (defBody s_Code__chunks) (defScope s_Code__chunks) .none kV_Code__chunks dc_Code__chunks pm_Code__chunks an_Code__chunks cd_Code__chunks ct_Code__chunks), sl_Code__chunks⟩)
    (c_Code__chunks : PySem.W.codeIn K cd_Code__chunks "Code.chunks" = true)
    (k_Code__chunks : PySem.W.keepIn K (.ref f_Code__chunks) = true)
    (a_Code__merge : PySem.W.findIn K (.ref C_Code) "merge" = some (some (.ref f_Code__merge)))
    (i_Code__merge : PySem.W.isFn K (.ref f_Code__merge) = true)
    (l_Code__merge : K.lookup f_Code__merge = some ⟨oc_Code__merge, od_Code__merge, .func (PySem.W.fnOf "merge" "Code.merge" (defArgs s_Code__merge) (defBody s_Code__merge) (defScope s_Code__merge) .none kV_Code__merge dc_Code__merge pm_Code__merge an_Code__merge cd_Code__merge ct_Code__merge), sl_Code__merge⟩)
    (c_Code__merge : PySem.W.codeIn K cd_Code__merge "Code.merge" = true)
    (k_Code__merge : PySem.W.keepIn K (.ref f_Code__merge) = true)
    (a_Code___check_index : PySem.W.findIn K (.ref C_Code) "_check_index" = some (some (.ref f_Code___check_index)))
    (i_Code___check_index : PySem.W.isFn K (.ref f_Code___check_index) = true)
    (l_Code___check_index : K.lookup f_Code___check_index = some ⟨oc_Code___check_index, od_Code___check_index, .func (PySem.W.fnOf "_check_index" "Code._check_index" (defArgs s_Code___check_index) (defBody s_Code___check_index) (defScope s_Code___check_index) .none kV_Code___check_index dc_Code___check_index pm_Code___check_index an_Code___check_index cd_Code___check_index ct_Code___check_index), sl_Code___check_index⟩)
    (c_Code___check_index : PySem.W.codeIn K cd_Code___check_index "Code._check_index" = true)
    (k_Code___check_index : PySem.W.keepIn K (.ref f_Code___check_index) = true)
    (a_Code__rebuild : PySem.W.findIn K (.ref C_Code) "rebuild" = some (some (.ref f_Code__rebuild)))
    (i_Code__rebuild : PySem.W.isFn K (.ref f_Code__rebuild) = true)
    (l_Code__rebuild : K.lookup f_Code__rebuild = some ⟨oc_Code__rebuild, od_Code__rebuild, .func (PySem.W.fnOf "rebuild" "Code.rebuild" (defArgs s_Code__rebuild) (defBody s_Code__rebuild) (defScope s_Code__rebuild) .none kV_Code__rebuild dc_Code__rebuild pm_Code__rebuild an_Code__rebuild cd_Code__rebuild ct_Code__rebuild), sl_Code__rebuild⟩)
    (c_Code__rebuild : PySem.W.codeIn K cd_Code__rebuild "Code.rebuild" = true)
    (k_Code__rebuild : PySem.W.keepIn K (.ref f_Code__rebuild) = true)
    (a_Config____init__ : PySem.W.findIn K (.ref C_Config) "__init__" = some (some (.ref f_Config____init__)))
    (i_Config____init__ : PySem.W.isFn K (.ref f_Config____init__) = true)
    (l_Config____init__ : K.lookup f_Config____init__ = some ⟨oc_Config____init__, od_Config____init__, .func (PySem.W.fnOf "__init__" "Config.__init__" (defArgs s_Config____init__) (defBody s_Config____init__) (defScope s_Config____init__) .none kV_Config____init__ dc_Config____init__ pm_Config____init__ an_Config____init__ cd_Config____init__ ct_Config____init__), sl_Config____init__⟩)
    (c_Config____init__ : PySem.W.codeIn K cd_Config____init__ "Config.__init__" = true)
    (k_Config____init__ : PySem.W.keepIn K (.ref f_Config____init__) = true) :
    ∃ fd : FuncData, (∀ (s : Shared) (v : Value), BindsTo s fd ⟨[v], []⟩ [("script", v)]) ∧ ∀ base : Heap, K.In base → base.Ns mainGlobals mg → FnOk l.prog w K mg base (L2.CX l.prog w) 10 fa fd ["script"] (spLaw K) := by
  have e := hfa.symm.trans (PySem.W.mg_of X G a_law)
  cases e
  have F__law_draws := fun_mk (st := s__law_draws) l__law_draws c__law_draws k__law_draws
  have F__law_octets := fun_mk (st := s__law_octets) l__law_octets c__law_octets k__law_octets
  have F_mul := fun_mk (st := s_mul) l_mul c_mul k_mul
  have F_power := fun_mk (st := s_power) l_power c_power k_power
  have F_inv := fun_mk (st := s_inv) l_inv c_inv k_inv
  have F_div := fun_mk (st := s_div) l_div c_div k_div
  have F__basis_row := fun_mk (st := s__basis_row) l__basis_row c__basis_row k__basis_row
  have F__combine := fun_mk (st := s__combine) l__combine c__combine k__combine
  have F__check_lengths := fun_mk (st := s__check_lengths) l__check_lengths c__check_lengths k__check_lengths
  have F_fragments := fun_mk (st := s_fragments) l_fragments c_fragments k_fragments
  have F__law_order := fun_mk (st := s__law_order) l__law_order c__law_order k__law_order
  have F_identity := fun_mk (st := s_identity) l_identity c_identity k_identity
  have F__without := fun_mk (st := s__without) l__without c__without k__without
  have F__reduce := fun_mk (st := s__reduce) l__reduce c__reduce k__reduce
  have F_inverse := fun_mk (st := s_inverse) l_inverse c_inverse k_inverse
  have F_whole_blob := fun_mk (st := s_whole_blob) l_whole_blob c_whole_blob k_whole_blob
  have F__law_error := fun_mk (st := s__law_error) l__law_error c__law_error k__law_error
  have F__law_mul := fun_mk (st := s__law_mul) l__law_mul c__law_mul k__law_mul
  have F__law_inverse_octet := fun_mk (st := s__law_inverse_octet) l__law_inverse_octet c__law_inverse_octet k__law_inverse_octet
  have F__law_spare := fun_mk (st := s__law_spare) l__law_spare c__law_spare k__law_spare
  have F__law_is_number := fun_mk (st := s__law_is_number) l__law_is_number c__law_is_number k__law_is_number
  have F__law_is_row := fun_mk (st := s__law_is_row) l__law_is_row c__law_is_row k__law_is_row
  have F_law := fun_mk (st := s_law) l_law c_law k_law
  have F_Code____init__ := fun_mk (st := s_Code____init__) l_Code____init__ c_Code____init__ k_Code____init__
  have F_Code___check_blocks := fun_mk (st := s_Code___check_blocks) l_Code___check_blocks c_Code___check_blocks k_Code___check_blocks
  have F_Code__word := fun_mk (st := s_Code__word) l_Code__word c_Code__word k_Code__word
  have F_Code__chunks := fun_mk (st := s_Code__chunks) l_Code__chunks c_Code__chunks k_Code__chunks
  have F_Code__merge := fun_mk (st := s_Code__merge) l_Code__merge c_Code__merge k_Code__merge
  have F_Code___check_index := fun_mk (st := s_Code___check_index) l_Code___check_index c_Code___check_index k_Code___check_index
  have F_Code__rebuild := fun_mk (st := s_Code__rebuild) l_Code__rebuild c_Code__rebuild k_Code__rebuild
  have F_Config____init__ := fun_mk (st := s_Config____init__) l_Config____init__ c_Config____init__ k_Config____init__
  let tx : Tx K mg := {
    a__law_draws := f__law_draws,
    d__law_draws := _,
    F__law_draws := F__law_draws,
    b__law_draws := (F__law_draws.binds (ps := ["script", "many"]) fun _ _ _ _ _ _ us hl => match us, hl with | [_, _], _ => rfl),
    g__law_draws := PySem.W.mg_of X G a__law_draws,
    a__law_octets := f__law_octets,
    d__law_octets := _,
    F__law_octets := F__law_octets,
    b__law_octets := (F__law_octets.binds (ps := ["draws", "size"]) fun _ _ _ _ _ _ us hl => match us, hl with | [_, _], _ => rfl),
    g__law_octets := PySem.W.mg_of X G a__law_octets,
    a_mul := f_mul,
    d_mul := _,
    F_mul := F_mul,
    b_mul := (F_mul.binds (ps := ["a", "b"]) fun _ _ _ _ _ _ us hl => match us, hl with | [_, _], _ => rfl),
    g_mul := PySem.W.mg_of X G a_mul,
    a_power := f_power,
    d_power := _,
    F_power := F_power,
    b_power := (F_power.binds (ps := ["a", "n"]) fun _ _ _ _ _ _ us hl => match us, hl with | [_, _], _ => rfl),
    g_power := PySem.W.mg_of X G a_power,
    a_inv := f_inv,
    d_inv := _,
    F_inv := F_inv,
    b_inv := (F_inv.binds (ps := ["a"]) fun _ _ _ _ _ _ us hl => match us, hl with | [_], _ => rfl),
    g_inv := PySem.W.mg_of X G a_inv,
    a_div := f_div,
    d_div := _,
    F_div := F_div,
    b_div := (F_div.binds (ps := ["a", "b"]) fun _ _ _ _ _ _ us hl => match us, hl with | [_, _], _ => rfl),
    g_div := PySem.W.mg_of X G a_div,
    a__basis_row := f__basis_row,
    d__basis_row := _,
    F__basis_row := F__basis_row,
    b__basis_row := (F__basis_row.binds (ps := ["i", "data"]) fun _ _ _ _ _ _ us hl => match us, hl with | [_, _], _ => rfl),
    g__basis_row := PySem.W.mg_of X G a__basis_row,
    a__combine := f__combine,
    d__combine := _,
    F__combine := F__combine,
    b__combine := (F__combine.binds (ps := ["row", "blocks"]) fun _ _ _ _ _ _ us hl => match us, hl with | [_, _], _ => rfl),
    g__combine := PySem.W.mg_of X G a__combine,
    a__check_lengths := f__check_lengths,
    d__check_lengths := _,
    F__check_lengths := F__check_lengths,
    b__check_lengths := (F__check_lengths.binds (ps := ["lists"]) fun _ _ _ _ _ _ us hl => match us, hl with | [_], _ => rfl),
    g__check_lengths := PySem.W.mg_of X G a__check_lengths,
    a_fragments := f_fragments,
    d_fragments := _,
    F_fragments := F_fragments,
    b_fragments := (F_fragments.binds (ps := ["config", "octets"]) fun _ _ _ _ _ _ us hl => match us, hl with | [_, _], _ => rfl),
    g_fragments := PySem.W.mg_of X G a_fragments,
    a__law_order := f__law_order,
    d__law_order := _,
    F__law_order := F__law_order,
    b__law_order := (F__law_order.binds (ps := ["draws", "many"]) fun _ _ _ _ _ _ us hl => match us, hl with | [_, _], _ => rfl),
    g__law_order := PySem.W.mg_of X G a__law_order,
    a_identity := f_identity,
    d_identity := _,
    F_identity := F_identity,
    b_identity := (F_identity.binds (ps := ["n"]) fun _ _ _ _ _ _ us hl => match us, hl with | [_], _ => rfl),
    g_identity := PySem.W.mg_of X G a_identity,
    a__without := f__without,
    d__without := _,
    F__without := F__without,
    b__without := (F__without.binds (ps := ["row", "factor", "pivot_row"]) fun _ _ _ _ _ _ us hl => match us, hl with | [_, _, _], _ => rfl),
    g__without := PySem.W.mg_of X G a__without,
    a__reduce := f__reduce,
    d__reduce := _,
    F__reduce := F__reduce,
    b__reduce := (F__reduce.binds (ps := ["a", "width"]) fun _ _ _ _ _ _ us hl => match us, hl with | [_, _], _ => rfl),
    g__reduce := PySem.W.mg_of X G a__reduce,
    a_inverse := f_inverse,
    d_inverse := _,
    F_inverse := F_inverse,
    b_inverse := (F_inverse.binds (ps := ["a"]) fun _ _ _ _ _ _ us hl => match us, hl with | [_], _ => rfl),
    g_inverse := PySem.W.mg_of X G a_inverse,
    a_whole_blob := f_whole_blob,
    d_whole_blob := _,
    F_whole_blob := F_whole_blob,
    b_whole_blob := (F_whole_blob.binds (ps := ["config", "pieces", "size"]) fun _ _ _ _ _ _ us hl => match us, hl with | [_, _, _], _ => rfl),
    g_whole_blob := PySem.W.mg_of X G a_whole_blob,
    a__law_error := f__law_error,
    d__law_error := _,
    F__law_error := F__law_error,
    b__law_error := (F__law_error.binds (ps := ["config", "pieces", "size"]) fun _ _ _ _ _ _ us hl => match us, hl with | [_, _, _], _ => rfl),
    g__law_error := PySem.W.mg_of X G a__law_error,
    a__law_mul := f__law_mul,
    d__law_mul := _,
    F__law_mul := F__law_mul,
    b__law_mul := (F__law_mul.binds (ps := ["a", "b"]) fun _ _ _ _ _ _ us hl => match us, hl with | [_, _], _ => rfl),
    g__law_mul := PySem.W.mg_of X G a__law_mul,
    a__law_inverse_octet := f__law_inverse_octet,
    d__law_inverse_octet := _,
    F__law_inverse_octet := F__law_inverse_octet,
    b__law_inverse_octet := (F__law_inverse_octet.binds (ps := ["a"]) fun _ _ _ _ _ _ us hl => match us, hl with | [_], _ => rfl),
    g__law_inverse_octet := PySem.W.mg_of X G a__law_inverse_octet,
    a__law_spare := f__law_spare,
    d__law_spare := _,
    F__law_spare := F__law_spare,
    b__law_spare := (F__law_spare.binds (ps := ["rows", "i", "data"]) fun _ _ _ _ _ _ us hl => match us, hl with | [_, _, _], _ => rfl),
    g__law_spare := PySem.W.mg_of X G a__law_spare,
    a__law_is_number := f__law_is_number,
    d__law_is_number := _,
    F__law_is_number := F__law_is_number,
    b__law_is_number := (F__law_is_number.binds (ps := ["value"]) fun _ _ _ _ _ _ us hl => match us, hl with | [_], _ => rfl),
    g__law_is_number := PySem.W.mg_of X G a__law_is_number,
    a__law_is_row := f__law_is_row,
    d__law_is_row := _,
    F__law_is_row := F__law_is_row,
    b__law_is_row := (F__law_is_row.binds (ps := ["row", "length"]) fun _ _ _ _ _ _ us hl => match us, hl with | [_, _], _ => rfl),
    g__law_is_row := PySem.W.mg_of X G a__law_is_row,
    a_law := fa,
    d_law := _,
    F_law := F_law,
    b_law := (F_law.binds (ps := ["script"]) fun _ _ _ _ _ _ us hl => match us, hl with | [_], _ => rfl),
    g_law := PySem.W.mg_of X G a_law,
    b_abs := PySem.W.mg_none_of X G z_abs,
    b_all := PySem.W.mg_none_of X G z_all,
    b_bool := PySem.W.mg_none_of X G z_bool,
    b_int := PySem.W.mg_none_of X G z_int,
    b_isinstance := PySem.W.mg_none_of X G z_isinstance,
    b_len := PySem.W.mg_none_of X G z_len,
    b_list := PySem.W.mg_none_of X G z_list,
    b_max := PySem.W.mg_none_of X G z_max,
    b_range := PySem.W.mg_none_of X G z_range,
    b_sorted := PySem.W.mg_none_of X G z_sorted,
    e_ZeroElement := C_ZeroElement,
    x_ZeroElement := ⟨PySem.W.mg_of X G a_ZeroElement, x_ZeroElement, k_ZeroElement, b_ZeroElement, t_ZeroElement⟩,
    e_ShapeMismatch := C_ShapeMismatch,
    x_ShapeMismatch := ⟨PySem.W.mg_of X G a_ShapeMismatch, x_ShapeMismatch, k_ShapeMismatch, b_ShapeMismatch, t_ShapeMismatch⟩,
    e_Singular := C_Singular,
    x_Singular := ⟨PySem.W.mg_of X G a_Singular, x_Singular, k_Singular, b_Singular, t_Singular⟩,
    e_BadCode := C_BadCode,
    x_BadCode := ⟨PySem.W.mg_of X G a_BadCode, x_BadCode, k_BadCode, b_BadCode, t_BadCode⟩,
    e_BadIndex := C_BadIndex,
    x_BadIndex := ⟨PySem.W.mg_of X G a_BadIndex, x_BadIndex, k_BadIndex, b_BadIndex, t_BadIndex⟩,
    gc_BadIndex := PySem.W.mg_of X G a_BadIndex,
    e_NotEnough := C_NotEnough,
    x_NotEnough := ⟨PySem.W.mg_of X G a_NotEnough, x_NotEnough, k_NotEnough, b_NotEnough, t_NotEnough⟩,
    gc_NotEnough := PySem.W.mg_of X G a_NotEnough,
    e_UnequalBlocks := C_UnequalBlocks,
    x_UnequalBlocks := ⟨PySem.W.mg_of X G a_UnequalBlocks, x_UnequalBlocks, k_UnequalBlocks, b_UnequalBlocks, t_UnequalBlocks⟩,
    gc_UnequalBlocks := PySem.W.mg_of X G a_UnequalBlocks,
    e_BadConfig := C_BadConfig,
    x_BadConfig := ⟨PySem.W.mg_of X G a_BadConfig, x_BadConfig, k_BadConfig, b_BadConfig, t_BadConfig⟩,
    e_CairnError := C_CairnError,
    gc_CairnError := PySem.W.mg_of X G a_CairnError,
    xc_BadCode := ⟨xa_BadCode, xb_BadCode, b_BadCode, h_BadCode, xd_BadCode, xsp, xtk, xm_BadCode⟩,
    xc_BadIndex := ⟨xa_BadIndex, xb_BadIndex, b_BadIndex, h_BadIndex, xd_BadIndex, xsp, xtk, xm_BadIndex⟩,
    xc_NotEnough := ⟨xa_NotEnough, xb_NotEnough, b_NotEnough, h_NotEnough, xd_NotEnough, xsp, xtk, xm_NotEnough⟩,
    xc_ShapeMismatch := ⟨xa_ShapeMismatch, xb_ShapeMismatch, b_ShapeMismatch, h_ShapeMismatch, xd_ShapeMismatch, xsp, xtk, xm_ShapeMismatch⟩,
    xc_Singular := ⟨xa_Singular, xb_Singular, b_Singular, h_Singular, xd_Singular, xsp, xtk, xm_Singular⟩,
    xc_UnequalBlocks := ⟨xa_UnequalBlocks, xb_UnequalBlocks, b_UnequalBlocks, h_UnequalBlocks, xd_UnequalBlocks, xsp, xtk, xm_UnequalBlocks⟩,
    xc_ZeroElement := ⟨xa_ZeroElement, xb_ZeroElement, b_ZeroElement, h_ZeroElement, xd_ZeroElement, xsp, xtk, xm_ZeroElement⟩,
    xm_BadCode_CairnError := PySem.W.exm_ref b_CairnError h_CairnError t_CairnError sb_BadCode_CairnError,
    xm_BadIndex_CairnError := PySem.W.exm_ref b_CairnError h_CairnError t_CairnError sb_BadIndex_CairnError,
    xm_NotEnough_CairnError := PySem.W.exm_ref b_CairnError h_CairnError t_CairnError sb_NotEnough_CairnError,
    xm_ShapeMismatch_CairnError := PySem.W.exm_ref b_CairnError h_CairnError t_CairnError sb_ShapeMismatch_CairnError,
    xm_Singular_CairnError := PySem.W.exm_ref b_CairnError h_CairnError t_CairnError sb_Singular_CairnError,
    xm_UnequalBlocks_CairnError := PySem.W.exm_ref b_CairnError h_CairnError t_CairnError sb_UnequalBlocks_CairnError,
    xm_ZeroElement_CairnError := PySem.W.exm_ref b_CairnError h_CairnError t_CairnError sb_ZeroElement_CairnError,
    ki_BadCode_BadIndex := kit_ref h_BadIndex t_BadIndex sb_BadCode_BadIndex ne_BadCode_BadIndex,
    ki_BadCode_NotEnough := kit_ref h_NotEnough t_NotEnough sb_BadCode_NotEnough ne_BadCode_NotEnough,
    ki_BadCode_UnequalBlocks := kit_ref h_UnequalBlocks t_UnequalBlocks sb_BadCode_UnequalBlocks ne_BadCode_UnequalBlocks,
    ki_BadIndex_BadIndex := kit_ref h_BadIndex t_BadIndex sb_BadIndex_BadIndex ne_BadIndex_BadIndex,
    ki_BadIndex_NotEnough := kit_ref h_NotEnough t_NotEnough sb_BadIndex_NotEnough ne_BadIndex_NotEnough,
    ki_BadIndex_UnequalBlocks := kit_ref h_UnequalBlocks t_UnequalBlocks sb_BadIndex_UnequalBlocks ne_BadIndex_UnequalBlocks,
    ki_NotEnough_BadIndex := kit_ref h_BadIndex t_BadIndex sb_NotEnough_BadIndex ne_NotEnough_BadIndex,
    ki_NotEnough_NotEnough := kit_ref h_NotEnough t_NotEnough sb_NotEnough_NotEnough ne_NotEnough_NotEnough,
    ki_NotEnough_UnequalBlocks := kit_ref h_UnequalBlocks t_UnequalBlocks sb_NotEnough_UnequalBlocks ne_NotEnough_UnequalBlocks,
    ki_ShapeMismatch_BadIndex := kit_ref h_BadIndex t_BadIndex sb_ShapeMismatch_BadIndex ne_ShapeMismatch_BadIndex,
    ki_ShapeMismatch_NotEnough := kit_ref h_NotEnough t_NotEnough sb_ShapeMismatch_NotEnough ne_ShapeMismatch_NotEnough,
    ki_ShapeMismatch_UnequalBlocks := kit_ref h_UnequalBlocks t_UnequalBlocks sb_ShapeMismatch_UnequalBlocks ne_ShapeMismatch_UnequalBlocks,
    ki_Singular_BadIndex := kit_ref h_BadIndex t_BadIndex sb_Singular_BadIndex ne_Singular_BadIndex,
    ki_Singular_NotEnough := kit_ref h_NotEnough t_NotEnough sb_Singular_NotEnough ne_Singular_NotEnough,
    ki_Singular_UnequalBlocks := kit_ref h_UnequalBlocks t_UnequalBlocks sb_Singular_UnequalBlocks ne_Singular_UnequalBlocks,
    ki_UnequalBlocks_BadIndex := kit_ref h_BadIndex t_BadIndex sb_UnequalBlocks_BadIndex ne_UnequalBlocks_BadIndex,
    ki_UnequalBlocks_NotEnough := kit_ref h_NotEnough t_NotEnough sb_UnequalBlocks_NotEnough ne_UnequalBlocks_NotEnough,
    ki_UnequalBlocks_UnequalBlocks := kit_ref h_UnequalBlocks t_UnequalBlocks sb_UnequalBlocks_UnequalBlocks ne_UnequalBlocks_UnequalBlocks,
    ki_ZeroElement_BadIndex := kit_ref h_BadIndex t_BadIndex sb_ZeroElement_BadIndex ne_ZeroElement_BadIndex,
    ki_ZeroElement_NotEnough := kit_ref h_NotEnough t_NotEnough sb_ZeroElement_NotEnough ne_ZeroElement_NotEnough,
    ki_ZeroElement_UnequalBlocks := kit_ref h_UnequalBlocks t_UnequalBlocks sb_ZeroElement_UnequalBlocks ne_ZeroElement_UnequalBlocks,
    e_Code := C_Code,
    gc_Code := PySem.W.mg_of X G a_Code,
    cl_Code := ⟨pg_Code, hd_Code, po_Code, sa_Code⟩,
    na_Code_data := n_Code_data,
    na_Code_total := n_Code_total,
    na_Code_rows := n_Code_rows,
    e_Config := C_Config,
    gc_Config := PySem.W.mg_of X G a_Config,
    cl_Config := ⟨pg_Config, hd_Config, po_Config, sa_Config⟩,
    na_Config_keepers := n_Config_keepers,
    na_Config_shelves := n_Config_shelves,
    na_Config_data := n_Config_data,
    na_Config_spare := n_Config_spare,
    na_Config_sectors := n_Config_sectors,
    a_Code____init__ := f_Code____init__,
    d_Code____init__ := _,
    F_Code____init__ := F_Code____init__,
    b_Code____init__ := (F_Code____init__.binds (ps := ["self", "data", "total"]) fun _ _ _ _ _ _ us hl => match us, hl with | [_, _, _], _ => rfl),
    mk_Code := ⟨mk_Code, a_Code____init__, i_Code____init__, kc_Code⟩,
    a_Code___check_blocks := f_Code___check_blocks,
    d_Code___check_blocks := _,
    F_Code___check_blocks := F_Code___check_blocks,
    b_Code___check_blocks := (F_Code___check_blocks.binds (ps := ["self", "blocks"]) fun _ _ _ _ _ _ us hl => match us, hl with | [_, _], _ => rfl),
    h_Code___check_blocks := ⟨a_Code___check_blocks, i_Code___check_blocks, k_Code___check_blocks⟩,
    a_Code__word := f_Code__word,
    d_Code__word := _,
    F_Code__word := F_Code__word,
    b_Code__word := (F_Code__word.binds (ps := ["self", "blocks"]) fun _ _ _ _ _ _ us hl => match us, hl with | [_, _], _ => rfl),
    h_Code__word := ⟨a_Code__word, i_Code__word, k_Code__word⟩,
    a_Code__chunks := f_Code__chunks,
    d_Code__chunks := _,
    F_Code__chunks := F_Code__chunks,
    b_Code__chunks := (F_Code__chunks.binds (ps := ["self", "octets"]) fun _ _ _ _ _ _ us hl => match us, hl with | [_, _], _ => rfl),
    h_Code__chunks := ⟨a_Code__chunks, i_Code__chunks, k_Code__chunks⟩,
    a_Code__merge := f_Code__merge,
    d_Code__merge := _,
    F_Code__merge := F_Code__merge,
    b_Code__merge := (F_Code__merge.binds (ps := ["self", "blocks", "size"]) fun _ _ _ _ _ _ us hl => match us, hl with | [_, _, _], _ => rfl),
    h_Code__merge := ⟨a_Code__merge, i_Code__merge, k_Code__merge⟩,
    a_Code___check_index := f_Code___check_index,
    d_Code___check_index := _,
    F_Code___check_index := F_Code___check_index,
    b_Code___check_index := (F_Code___check_index.binds (ps := ["self", "i"]) fun _ _ _ _ _ _ us hl => match us, hl with | [_, _], _ => rfl),
    h_Code___check_index := ⟨a_Code___check_index, i_Code___check_index, k_Code___check_index⟩,
    a_Code__rebuild := f_Code__rebuild,
    d_Code__rebuild := _,
    F_Code__rebuild := F_Code__rebuild,
    b_Code__rebuild := (F_Code__rebuild.binds (ps := ["self", "pieces"]) fun _ _ _ _ _ _ us hl => match us, hl with | [_, _], _ => rfl),
    h_Code__rebuild := ⟨a_Code__rebuild, i_Code__rebuild, k_Code__rebuild⟩,
    a_Config____init__ := f_Config____init__,
    d_Config____init__ := _,
    F_Config____init__ := F_Config____init__,
    b_Config____init__ := (F_Config____init__.binds (ps := ["self", "keepers", "shelves", "data", "spare", "sectors"]) fun _ _ _ _ _ _ us hl => match us, hl with | [_, _, _, _, _, _], _ => rfl),
    mk_Config := ⟨mk_Config, a_Config____init__, i_Config____init__, kc_Config⟩ }
  exact ⟨tx.d_law, fun s v => .of_eq rfl, fun base _ _ => law_of law_true (ok_law tx)⟩
end K53
open PySem PySem.W PyProof.Rows
set_option maxHeartbeats 0 in
theorem PySem.Challenge.cw_cairnhouse_k53_blobs_and_back_holds : PySem.Challenge.rw_cairnhouse_k53_blobs_and_back.Holds := by
  w_on; o_law; k_head; (case hw => w_witness2)
  k_fill
  refine L2.walk_of (l := PySem.Challenge.rw_cairnhouse_k53_blobs_and_back) (n := 63) (k := 10) (x := "script") (CX := fun w => L2.CX PySem.Challenge.rw_cairnhouse_k53_blobs_and_back.prog w) (sp := fun w => Cn.spLaw _) rfl (by decide) rfl ⟨rfl, by decide, by decide⟩ (fun w h Y => PySem.W.kIn_of Y) ?F (fun _ _ a ns hl _ hS => ⟨a, ns, rfl, hS, hl, fun _ => rfl⟩) (fun _ _ _ _ _ h => Cn.cx_false h)
  case F =>
    intro w mg fa h KX G hmg
    refine' K53.all_mk KX G hmg ?a__law_draws ?l__law_draws ?c__law_draws ?k__law_draws ?a__law_octets ?l__law_octets ?c__law_octets ?k__law_octets ?a_mul ?l_mul ?c_mul ?k_mul ?a_power ?l_power ?c_power ?k_power ?a_inv ?l_inv ?c_inv ?k_inv ?a_div ?l_div ?c_div ?k_div ?a__basis_row ?l__basis_row ?c__basis_row ?k__basis_row ?a__combine ?l__combine ?c__combine ?k__combine ?a__check_lengths ?l__check_lengths ?c__check_lengths ?k__check_lengths ?a_fragments ?l_fragments ?c_fragments ?k_fragments ?a__law_order ?l__law_order ?c__law_order ?k__law_order ?a_identity ?l_identity ?c_identity ?k_identity ?a__without ?l__without ?c__without ?k__without ?a__reduce ?l__reduce ?c__reduce ?k__reduce ?a_inverse ?l_inverse ?c_inverse ?k_inverse ?a_whole_blob ?l_whole_blob ?c_whole_blob ?k_whole_blob ?a__law_error ?l__law_error ?c__law_error ?k__law_error ?a__law_mul ?l__law_mul ?c__law_mul ?k__law_mul ?a__law_inverse_octet ?l__law_inverse_octet ?c__law_inverse_octet ?k__law_inverse_octet ?a__law_spare ?l__law_spare ?c__law_spare ?k__law_spare ?a__law_is_number ?l__law_is_number ?c__law_is_number ?k__law_is_number ?a__law_is_row ?l__law_is_row ?c__law_is_row ?k__law_is_row ?a_law ?l_law ?c_law ?k_law ?z_abs ?z_all ?z_bool ?z_int ?z_isinstance ?z_len ?z_list ?z_max ?z_range ?z_sorted ?a_ZeroElement ?b_ZeroElement ?t_ZeroElement ?h_ZeroElement ?x_ZeroElement ?k_ZeroElement ?a_ShapeMismatch ?b_ShapeMismatch ?t_ShapeMismatch ?h_ShapeMismatch ?x_ShapeMismatch ?k_ShapeMismatch ?a_Singular ?b_Singular ?t_Singular ?h_Singular ?x_Singular ?k_Singular ?a_BadCode ?b_BadCode ?t_BadCode ?h_BadCode ?x_BadCode ?k_BadCode ?a_BadIndex ?b_BadIndex ?t_BadIndex ?h_BadIndex ?x_BadIndex ?k_BadIndex ?a_NotEnough ?b_NotEnough ?t_NotEnough ?h_NotEnough ?x_NotEnough ?k_NotEnough ?a_UnequalBlocks ?b_UnequalBlocks ?t_UnequalBlocks ?h_UnequalBlocks ?x_UnequalBlocks ?k_UnequalBlocks ?a_BadConfig ?b_BadConfig ?t_BadConfig ?h_BadConfig ?x_BadConfig ?k_BadConfig ?a_CairnError ?b_CairnError ?t_CairnError ?h_CairnError ?xa_BadCode ?xb_BadCode ?xd_BadCode ?xm_BadCode ?xa_BadIndex ?xb_BadIndex ?xd_BadIndex ?xm_BadIndex ?xa_NotEnough ?xb_NotEnough ?xd_NotEnough ?xm_NotEnough ?xa_ShapeMismatch ?xb_ShapeMismatch ?xd_ShapeMismatch ?xm_ShapeMismatch ?xa_Singular ?xb_Singular ?xd_Singular ?xm_Singular ?xa_UnequalBlocks ?xb_UnequalBlocks ?xd_UnequalBlocks ?xm_UnequalBlocks ?xa_ZeroElement ?xb_ZeroElement ?xd_ZeroElement ?xm_ZeroElement ?xsp ?xtk ?sb_BadCode_CairnError ?sb_BadIndex_CairnError ?sb_NotEnough_CairnError ?sb_ShapeMismatch_CairnError ?sb_Singular_CairnError ?sb_UnequalBlocks_CairnError ?sb_ZeroElement_CairnError ?sb_BadCode_BadIndex ?ne_BadCode_BadIndex ?sb_BadCode_NotEnough ?ne_BadCode_NotEnough ?sb_BadCode_UnequalBlocks ?ne_BadCode_UnequalBlocks ?sb_BadIndex_BadIndex ?ne_BadIndex_BadIndex ?sb_BadIndex_NotEnough ?ne_BadIndex_NotEnough ?sb_BadIndex_UnequalBlocks ?ne_BadIndex_UnequalBlocks ?sb_NotEnough_BadIndex ?ne_NotEnough_BadIndex ?sb_NotEnough_NotEnough ?ne_NotEnough_NotEnough ?sb_NotEnough_UnequalBlocks ?ne_NotEnough_UnequalBlocks ?sb_ShapeMismatch_BadIndex ?ne_ShapeMismatch_BadIndex ?sb_ShapeMismatch_NotEnough ?ne_ShapeMismatch_NotEnough ?sb_ShapeMismatch_UnequalBlocks ?ne_ShapeMismatch_UnequalBlocks ?sb_Singular_BadIndex ?ne_Singular_BadIndex ?sb_Singular_NotEnough ?ne_Singular_NotEnough ?sb_Singular_UnequalBlocks ?ne_Singular_UnequalBlocks ?sb_UnequalBlocks_BadIndex ?ne_UnequalBlocks_BadIndex ?sb_UnequalBlocks_NotEnough ?ne_UnequalBlocks_NotEnough ?sb_UnequalBlocks_UnequalBlocks ?ne_UnequalBlocks_UnequalBlocks ?sb_ZeroElement_BadIndex ?ne_ZeroElement_BadIndex ?sb_ZeroElement_NotEnough ?ne_ZeroElement_NotEnough ?sb_ZeroElement_UnequalBlocks ?ne_ZeroElement_UnequalBlocks ?a_Code ?pg_Code ?hd_Code ?po_Code ?sa_Code ?mk_Code ?kc_Code ?n_Code_data ?n_Code_total ?n_Code_rows ?a_Config ?pg_Config ?hd_Config ?po_Config ?sa_Config ?mk_Config ?kc_Config ?n_Config_keepers ?n_Config_shelves ?n_Config_data ?n_Config_spare ?n_Config_sectors ?a_Code____init__ ?i_Code____init__ ?l_Code____init__ ?c_Code____init__ ?k_Code____init__ ?a_Code___check_blocks ?i_Code___check_blocks ?l_Code___check_blocks ?c_Code___check_blocks ?k_Code___check_blocks ?a_Code__word ?i_Code__word ?l_Code__word ?c_Code__word ?k_Code__word ?a_Code__chunks ?i_Code__chunks ?l_Code__chunks ?c_Code__chunks ?k_Code__chunks ?a_Code__merge ?i_Code__merge ?l_Code__merge ?c_Code__merge ?k_Code__merge ?a_Code___check_index ?i_Code___check_index ?l_Code___check_index ?c_Code___check_index ?k_Code___check_index ?a_Code__rebuild ?i_Code__rebuild ?l_Code__rebuild ?c_Code__rebuild ?k_Code__rebuild ?a_Config____init__ ?i_Config____init__ ?l_Config____init__ ?c_Config____init__ ?k_Config____init__
    (case a__law_draws => k_is); (case l__law_draws => k_is); (case c__law_draws => k_is); (case k__law_draws => k_is); (case a__law_octets => k_is); (case l__law_octets => k_is); (case c__law_octets => k_is); (case k__law_octets => k_is); (case a_mul => k_is); (case l_mul => k_is); (case c_mul => k_is); (case k_mul => k_is); (case a_power => k_is); (case l_power => k_is); (case c_power => k_is); (case k_power => k_is); (case a_inv => k_is); (case l_inv => k_is); (case c_inv => k_is); (case k_inv => k_is); (case a_div => k_is); (case l_div => k_is); (case c_div => k_is); (case k_div => k_is); (case a__basis_row => k_is); (case l__basis_row => k_is); (case c__basis_row => k_is); (case k__basis_row => k_is); (case a__combine => k_is); (case l__combine => k_is); (case c__combine => k_is); (case k__combine => k_is); (case a__check_lengths => k_is); (case l__check_lengths => k_is); (case c__check_lengths => k_is); (case k__check_lengths => k_is); (case a_fragments => k_is); (case l_fragments => k_is); (case c_fragments => k_is); (case k_fragments => k_is); (case a__law_order => k_is); (case l__law_order => k_is); (case c__law_order => k_is); (case k__law_order => k_is); (case a_identity => k_is); (case l_identity => k_is); (case c_identity => k_is); (case k_identity => k_is); (case a__without => k_is); (case l__without => k_is); (case c__without => k_is); (case k__without => k_is); (case a__reduce => k_is); (case l__reduce => k_is); (case c__reduce => k_is); (case k__reduce => k_is); (case a_inverse => k_is); (case l_inverse => k_is); (case c_inverse => k_is); (case k_inverse => k_is); (case a_whole_blob => k_is); (case l_whole_blob => k_is); (case c_whole_blob => k_is); (case k_whole_blob => k_is); (case a__law_error => k_is); (case l__law_error => k_is); (case c__law_error => k_is); (case k__law_error => k_is); (case a__law_mul => k_is); (case l__law_mul => k_is); (case c__law_mul => k_is); (case k__law_mul => k_is); (case a__law_inverse_octet => k_is); (case l__law_inverse_octet => k_is); (case c__law_inverse_octet => k_is); (case k__law_inverse_octet => k_is); (case a__law_spare => k_is); (case l__law_spare => k_is); (case c__law_spare => k_is); (case k__law_spare => k_is); (case a__law_is_number => k_is); (case l__law_is_number => k_is); (case c__law_is_number => k_is); (case k__law_is_number => k_is); (case a__law_is_row => k_is); (case l__law_is_row => k_is); (case c__law_is_row => k_is); (case k__law_is_row => k_is); (case a_law => k_is); (case l_law => k_is); (case c_law => k_is); (case k_law => k_is); (case z_abs => k_is); (case z_all => k_is); (case z_bool => k_is); (case z_int => k_is); (case z_isinstance => k_is); (case z_len => k_is); (case z_list => k_is); (case z_max => k_is); (case z_range => k_is); (case z_sorted => k_is); (case a_ZeroElement => k_is); (case b_ZeroElement => k_is); (case t_ZeroElement => k_is); (case h_ZeroElement => k_is); (case x_ZeroElement => k_exc); (case k_ZeroElement => k_is); (case a_ShapeMismatch => k_is); (case b_ShapeMismatch => k_is); (case t_ShapeMismatch => k_is); (case h_ShapeMismatch => k_is); (case x_ShapeMismatch => k_exc); (case k_ShapeMismatch => k_is); (case a_Singular => k_is); (case b_Singular => k_is); (case t_Singular => k_is); (case h_Singular => k_is); (case x_Singular => k_exc); (case k_Singular => k_is); (case a_BadCode => k_is); (case b_BadCode => k_is); (case t_BadCode => k_is); (case h_BadCode => k_is); (case x_BadCode => k_exc); (case k_BadCode => k_is); (case a_BadIndex => k_is); (case b_BadIndex => k_is); (case t_BadIndex => k_is); (case h_BadIndex => k_is); (case x_BadIndex => k_exc); (case k_BadIndex => k_is); (case a_NotEnough => k_is); (case b_NotEnough => k_is); (case t_NotEnough => k_is); (case h_NotEnough => k_is); (case x_NotEnough => k_exc); (case k_NotEnough => k_is); (case a_UnequalBlocks => k_is); (case b_UnequalBlocks => k_is); (case t_UnequalBlocks => k_is); (case h_UnequalBlocks => k_is); (case x_UnequalBlocks => k_exc); (case k_UnequalBlocks => k_is); (case a_BadConfig => k_is); (case b_BadConfig => k_is); (case t_BadConfig => k_is); (case h_BadConfig => k_is); (case x_BadConfig => k_exc); (case k_BadConfig => k_is); (case a_CairnError => k_is); (case b_CairnError => k_is); (case t_CairnError => k_is); (case h_CairnError => k_is); (case xa_BadCode => k_is); (case xb_BadCode => k_is); (case xd_BadCode => k_is); (case xm_BadCode => k_is); (case xa_BadIndex => k_is); (case xb_BadIndex => k_is); (case xd_BadIndex => k_is); (case xm_BadIndex => k_is); (case xa_NotEnough => k_is); (case xb_NotEnough => k_is); (case xd_NotEnough => k_is); (case xm_NotEnough => k_is); (case xa_ShapeMismatch => k_is); (case xb_ShapeMismatch => k_is); (case xd_ShapeMismatch => k_is); (case xm_ShapeMismatch => k_is); (case xa_Singular => k_is); (case xb_Singular => k_is); (case xd_Singular => k_is); (case xm_Singular => k_is); (case xa_UnequalBlocks => k_is); (case xb_UnequalBlocks => k_is); (case xd_UnequalBlocks => k_is); (case xm_UnequalBlocks => k_is); (case xa_ZeroElement => k_is); (case xb_ZeroElement => k_is); (case xd_ZeroElement => k_is); (case xm_ZeroElement => k_is); (case xsp => k_is); (case xtk => k_is); (case sb_BadCode_CairnError => k_is); (case sb_BadIndex_CairnError => k_is); (case sb_NotEnough_CairnError => k_is); (case sb_ShapeMismatch_CairnError => k_is); (case sb_Singular_CairnError => k_is); (case sb_UnequalBlocks_CairnError => k_is); (case sb_ZeroElement_CairnError => k_is); (case sb_BadCode_BadIndex => k_is); (case ne_BadCode_BadIndex => decide +kernel); (case sb_BadCode_NotEnough => k_is); (case ne_BadCode_NotEnough => decide +kernel); (case sb_BadCode_UnequalBlocks => k_is); (case ne_BadCode_UnequalBlocks => decide +kernel); (case sb_BadIndex_BadIndex => k_is); (case ne_BadIndex_BadIndex => decide +kernel); (case sb_BadIndex_NotEnough => k_is); (case ne_BadIndex_NotEnough => decide +kernel); (case sb_BadIndex_UnequalBlocks => k_is); (case ne_BadIndex_UnequalBlocks => decide +kernel); (case sb_NotEnough_BadIndex => k_is); (case ne_NotEnough_BadIndex => decide +kernel); (case sb_NotEnough_NotEnough => k_is); (case ne_NotEnough_NotEnough => decide +kernel); (case sb_NotEnough_UnequalBlocks => k_is); (case ne_NotEnough_UnequalBlocks => decide +kernel); (case sb_ShapeMismatch_BadIndex => k_is); (case ne_ShapeMismatch_BadIndex => decide +kernel); (case sb_ShapeMismatch_NotEnough => k_is); (case ne_ShapeMismatch_NotEnough => decide +kernel); (case sb_ShapeMismatch_UnequalBlocks => k_is); (case ne_ShapeMismatch_UnequalBlocks => decide +kernel); (case sb_Singular_BadIndex => k_is); (case ne_Singular_BadIndex => decide +kernel); (case sb_Singular_NotEnough => k_is); (case ne_Singular_NotEnough => decide +kernel); (case sb_Singular_UnequalBlocks => k_is); (case ne_Singular_UnequalBlocks => decide +kernel); (case sb_UnequalBlocks_BadIndex => k_is); (case ne_UnequalBlocks_BadIndex => decide +kernel); (case sb_UnequalBlocks_NotEnough => k_is); (case ne_UnequalBlocks_NotEnough => decide +kernel); (case sb_UnequalBlocks_UnequalBlocks => k_is); (case ne_UnequalBlocks_UnequalBlocks => decide +kernel); (case sb_ZeroElement_BadIndex => k_is); (case ne_ZeroElement_BadIndex => decide +kernel); (case sb_ZeroElement_NotEnough => k_is); (case ne_ZeroElement_NotEnough => decide +kernel); (case sb_ZeroElement_UnequalBlocks => k_is); (case ne_ZeroElement_UnequalBlocks => decide +kernel); (case a_Code => k_is); (case pg_Code => k_is); (case hd_Code => k_is); (case po_Code => k_is); (case sa_Code => k_is); (case mk_Code => k_is); (case kc_Code => k_is); (case n_Code_data => k_is); (case n_Code_total => k_is); (case n_Code_rows => k_is); (case a_Config => k_is); (case pg_Config => k_is); (case hd_Config => k_is); (case po_Config => k_is); (case sa_Config => k_is); (case mk_Config => k_is); (case kc_Config => k_is); (case n_Config_keepers => k_is); (case n_Config_shelves => k_is); (case n_Config_data => k_is); (case n_Config_spare => k_is); (case n_Config_sectors => k_is); (case a_Code____init__ => k_is); (case i_Code____init__ => k_is); (case l_Code____init__ => k_is); (case c_Code____init__ => k_is); (case k_Code____init__ => k_is); (case a_Code___check_blocks => k_is); (case i_Code___check_blocks => k_is); (case l_Code___check_blocks => k_is); (case c_Code___check_blocks => k_is); (case k_Code___check_blocks => k_is); (case a_Code__word => k_is); (case i_Code__word => k_is); (case l_Code__word => k_is); (case c_Code__word => k_is); (case k_Code__word => k_is); (case a_Code__chunks => k_is); (case i_Code__chunks => k_is); (case l_Code__chunks => k_is); (case c_Code__chunks => k_is); (case k_Code__chunks => k_is); (case a_Code__merge => k_is); (case i_Code__merge => k_is); (case l_Code__merge => k_is); (case c_Code__merge => k_is); (case k_Code__merge => k_is); (case a_Code___check_index => k_is); (case i_Code___check_index => k_is); (case l_Code___check_index => k_is); (case c_Code___check_index => k_is); (case k_Code___check_index => k_is); (case a_Code__rebuild => k_is); (case i_Code__rebuild => k_is); (case l_Code__rebuild => k_is); (case c_Code__rebuild => k_is); (case k_Code__rebuild => k_is); (case a_Config____init__ => k_is); (case i_Config____init__ => k_is); (case l_Config____init__ => k_is); (case c_Config____init__ => k_is); (case k_Config____init__ => k_is)
